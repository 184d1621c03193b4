/- The evaluator's tables of the program. -/
import Derived.KernelRfl
import Derived.Test.YteiljiijagmonaaGreatDoorProg
import Derived.Test.YteiljiijagmonaaGreatDoorEvA
set_option maxRecDepth 100000
set_option linter.unusedSimpArgs false
set_option linter.unusedVariables false
set_option linter.unusedSectionVars false
namespace Go.Proofs.YteiljiijagmonaaGreatDoor
open Go.Ev
open Tryz
abbrev Hq:=Go.Ev.H
abbrev Lq:=List Nat
theorem kR {p:Prop} (h:p:=by kernel_rfl):p:=h
noncomputable section
def fl (n:String) (t o:Nat) (e:Bool) (g p:String) (b:Nat):Field:={ name:=n,type:=t,offset:=o,embedded:=e,tag:=g,pkgPath:=p,byteOffset:=b }
def tpP (n:Nat):TI:=⟨(.pointer n),1,8,(.c (.pnil)),false,true⟩
def tpS (n:Nat):TI:=⟨(.slice n),1,24,(.c (.snil)),false,true⟩
def tpF (a b:Array TypeId):TI:=⟨(.func a b false),1,8,(.c (.nilFn)),false,true⟩
def tpM (a b:Nat):TI:=⟨(.map a b),1,8,(.c (.mnil)),false,true⟩
def fq (n:String) (t o b:Nat):=fl n t o false "" "" b
def nL {α:Type} (x:α):Tree α:=.node (some x) .nil .nil
def nS {α:Type} (x:α) (a b:Tree α):Tree α:=.node (some x) a b
def nN {α:Type} (a b:Tree α):Tree α:=.node none a b
def ti3:TI:=⟨(.int .i64),1,8,(.c (.int .i64 0)),false,true⟩
def ti4:TI:=⟨.bool,1,1,(.c (.bool false)),false,true⟩
def ti5:TI:=⟨(.int .u8),1,1,(.c (.int .u8 0)),false,true⟩
def ti9:TI:=⟨.string,1,16,(.c (.str [])),false,true⟩
def ti11:TI:=⟨.string,1,16,(.c (.str [])),false,true⟩
def ti16:=tpP 392
def ti22:TI:=⟨(.int .u64),1,8,(.c (.int .u64 0)),false,true⟩
def ti23:=tpP 78
def ti24:=tpP 219
def ti25:=tpP 188
def ti26:=tpP 191
def ti28:TI:=⟨(.struct #[fq "S" 23 0 0,fq "R" 24 1 8,fq "D" 25 2 16,fq "Q" 26 3 24]),4,32,(.g ([.pnil,.pnil,.pnil,.pnil])),true,true⟩
def ti31:TI:=⟨(.int .i64),1,8,(.c (.int .i64 0)),false,true⟩
def ti34:TI:=⟨(.int .u32),1,4,(.c (.int .u32 0)),false,true⟩
def ti35:TI:=⟨(.array 11 34),11,44,(.g ((List.replicate 11 (.int .u32 0)))),true,true⟩
def ti37:TI:=⟨(.struct #[fq "Kind" 5 0 0,fq "Links" 3 1 8,fq "Gen" 34 2 16,fq "Size" 3 3 24,fq "Ptrs" 35 4 32,fq "Next" 34 15 76]),16,80,(.g ([.int .u8 0,.int .i64 0,.int .u32 0,.int .i64 0,.int .u32 0,.int .u32 0,.int .u32 0,.int .u32 0,.int .u32 0,.int .u32 0,.int .u32 0,.int .u32 0,.int .u32 0,.int .u32 0,.int .u32 0,.int .u32 0])),true,true⟩
def ti40:=tpS 3
def ti45:=tpF #[] #[31]
def ti48:=tpF #[3] #[3]
def ti52:TI:=⟨(.struct #[fq "Groups" 3 0 0,fq "Size" 3 1 8,fq "Inodes" 3 2 16,fq "Journal" 3 3 24]),4,32,(.g ([.int .i64 0,.int .i64 0,.int .i64 0,.int .i64 0])),true,true⟩
def ti53:=tpS 119
def ti55:TI:=⟨(.struct #[fq "G" 52 0 0,fq "Mode" 5 4 32,fq "Turns" 53 5 40]),6,64,(.g ([.int .i64 0,.int .i64 0,.int .i64 0,.int .i64 0,.int .u8 0,.snil])),true,true⟩
def ti57:=tpS 61
def ti61:TI:=⟨(.struct #[fq "Blocks" 3 0 0,fq "Inodes" 3 1 8,fq "Dirs" 3 2 16]),3,24,(.g ([.int .i64 0,.int .i64 0,.int .i64 0])),true,true⟩
def ti66:TI:=⟨(.array 256 5),256,256,(.g ((List.replicate 256 (.int .u8 0)))),true,true⟩
def ti70:=tpP 66
def ti71:=tpF #[] #[4]
def ti72:=tpP 84
def ti73:=tpP 148
def ti74:=tpP 103
def ti75:=tpM 3 108
def ti76:=tpM 3 3
def ti78:TI:=⟨(.struct #[fl "ground" 72 0 true "" "quern/store" 0,fl "running" 73 1 false "" "quern/store" 8,fl "now" 74 2 false "" "quern/store" 16,fl "data" 75 3 false "" "quern/store" 24,fl "gave" 76 4 false "" "quern/store" 32,fl "busy" 40 5 false "" "quern/store" 40,fl "known" 4 6 false "" "quern/store" 64,fl "dead" 4 7 false "" "quern/store" 65]),8,72,(.g ([.pnil,.pnil,.pnil,.mnil,.mnil,.snil,.bool false,.bool false])),true,true⟩
def ti80:=tpP 163
def ti81:=tpP 257
def ti82:=tpP 260
def ti84:TI:=⟨(.struct #[fl "g" 52 0 false "" "quern/store" 0,fl "mode" 5 4 false "" "quern/store" 32,fl "disk" 25 5 false "" "quern/store" 40,fl "cache" 80 6 false "" "quern/store" 48,fl "ring" 81 7 false "" "quern/store" 56,fl "list" 82 8 false "" "quern/store" 64]),9,72,(.g ([.int .i64 0,.int .i64 0,.int .i64 0,.int .i64 0,.int .u8 0,.pnil,.pnil,.pnil,.pnil])),true,true⟩
def ti88:=tpP 90
def ti90:TI:=⟨(.struct #[fl "store" 23 0 false "" "quern/mapping" 0,fl "from" 3 1 false "" "quern/mapping" 8,fl "most" 3 2 false "" "quern/mapping" 16,fl "n" 3 3 false "" "quern/mapping" 24,fl "full" 4 4 false "" "quern/mapping" 32]),5,40,(.g ([.pnil,.int .i64 0,.int .i64 0,.int .i64 0,.bool false])),true,true⟩
def ti91:=tpF #[3,3,3] #[3,31]
def ti95:=tpF #[138] #[]
def ti98:=tpS 108
def ti100:TI:=⟨(.struct #[fq "Seq" 34 0 0,fq "Copies" 98 1 8,fq "Revokes" 40 2 32]),3,56,(.g ([.int .u32 0,.snil,.snil])),true,true⟩
def ti101:=tpP 319
def ti103:TI:=⟨(.struct #[fl "trans" 100 0 false "" "quern/store" 0,fl "ordered" 40 3 false "" "quern/store" 56,fl "freed" 40 4 false "" "quern/store" 80,fl "places" 40 5 false "" "quern/store" 104,fl "machine" 101 6 false "" "quern/store" 128]),7,136,(.g ([.int .u32 0,.snil,.snil,.snil,.snil,.snil,.pnil])),true,true⟩
def ti108:TI:=⟨(.struct #[fq "Block" 3 0 0,fq "Data" 66 1 8]),257,264,(.g (List.replicate 1 (.int .i64 0)++List.replicate 256 (.int .u8 0))),true,true⟩
def ti115:=tpS 66
def ti119:TI:=⟨(.struct #[fq "Block" 3 0 0,fq "At" 3 1 8,fq "By" 5 2 16]),3,24,(.g ([.int .i64 0,.int .i64 0,.int .u8 0])),true,true⟩
def ti138:=tpF #[3] #[4]
def ti141:=tpS 5
def ti142:=tpM 3 66
def ti143:=tpM 3 166
def ti144:=tpP 284
def ti146:TI:=⟨(.struct #[fl "changed" 142 0 false "" "quern/txn" 0,fl "ordered" 143 1 false "" "quern/txn" 8,fl "freed" 143 2 false "" "quern/txn" 16,fl "revoked" 144 3 false "" "quern/txn" 24]),4,32,(.g ([.mnil,.mnil,.mnil,.pnil])),true,true⟩
def ti148:TI:=⟨(.struct #[fl "parts" 146 0 true "" "quern/txn" 0,fl "seq" 34 4 false "" "quern/txn" 32,fl "open" 4 5 false "" "quern/txn" 36,fl "credits" 3 6 false "" "quern/txn" 40,fl "revokes" 3 7 false "" "quern/txn" 48,fl "touched" 143 8 false "" "quern/txn" 56,fl "before" 146 9 false "" "quern/txn" 64]),13,96,(.g ([.mnil,.mnil,.mnil,.pnil,.int .u32 0,.bool false,.int .i64 0,.int .i64 0,.mnil,.mnil,.mnil,.mnil,.pnil])),true,true⟩
def ti151:=tpF #[] #[4,31]
def ti156:=tpF #[3,3,3] #[4,31]
def ti161:=tpM 3 165
def ti163:TI:=⟨(.struct #[fl "disk" 25 0 false "" "quern/cache" 0,fl "has" 161 1 false "" "quern/cache" 8,fl "pinned" 143 2 false "" "quern/cache" 16]),3,24,(.g ([.pnil,.mnil,.mnil])),true,true⟩
def ti165:TI:=⟨(.struct #[fl "data" 66 0 false "" "quern/cache" 0,fl "dirty" 4 256 false "" "quern/cache" 256]),257,257,(.g (List.replicate 256 (.int .u8 0)++List.replicate 1 (.bool false))),true,true⟩
def ti166:TI:=⟨(.struct #[]),0,0,(.g ([])),true,true⟩
def ti167:=tpF #[3,31] #[4]
def ti168:=tpF #[3,3] #[4]
def ti169:=tpS 174
def ti172:=tpS 4
def ti174:TI:=⟨(.struct #[fq "Kind" 5 0 0,fq "Group" 3 1 8,fq "At" 3 2 16,fq "Ino" 3 3 24]),4,32,(.g ([.int .u8 0,.int .i64 0,.int .i64 0,.int .i64 0])),true,true⟩
def ti179:TI:=⟨(.struct #[fq "Geo" 52 0 0,fq "Orphan" 34 4 32]),5,40,(.g ([.int .i64 0,.int .i64 0,.int .i64 0,.int .i64 0,.int .u32 0])),true,true⟩
def ti183:TI:=⟨(.struct #[fq "Seq" 34 0 0,fq "Start" 3 1 8]),2,16,(.g ([.int .u32 0,.int .i64 0])),true,true⟩
def ti186:=tpS 370
def ti188:TI:=⟨(.struct #[fl "safe" 115 0 false "" "quern/disk" 0,fl "last" 115 1 false "" "quern/disk" 24,fl "waits" 186 2 false "" "quern/disk" 48,fl "acts" 3 3 false "" "quern/disk" 72,fl "set" 4 4 false "" "quern/disk" 80,fl "left" 3 5 false "" "quern/disk" 88]),6,96,(.g ([.snil,.snil,.snil,.int .i64 0,.bool false,.int .i64 0])),true,true⟩
def ti189:=tpS 403
def ti191:TI:=⟨(.struct #[fq "L" 115 0 0,fq "Wait" 189 1 24,fq "Done" 3 2 48,fq "Left" 3 3 56]),4,64,(.g ([.snil,.snil,.int .i64 0,.int .i64 0])),true,true⟩
def ti200:=tpP 263
def ti203:=tpP 266
def ti206:=tpP 209
def ti207:=tpS 405
def ti209:TI:=⟨(.struct #[fq "D" 26 0 0,fq "L" 207 1 8,fq "Pinned" 40 2 32]),3,56,(.g ([.pnil,.snil,.snil])),true,true⟩
def ti210:=tpP 214
def ti212:TI:=⟨(.struct #[fq "Copies" 98 0 0,fq "Ordered" 40 1 24,fq "Freed" 40 2 48,fq "Revoked" 40 3 72]),4,96,(.g ([.snil,.snil,.snil,.snil])),true,true⟩
def ti214:TI:=⟨(.struct #[fq "Seq" 34 0 0,fq "Now" 212 1 8,fq "Old" 212 5 104,fq "Open" 4 9 200,fq "Credits" 3 10 208,fq "Revokes" 3 11 216,fq "Did" 40 12 224]),13,248,(.g ([.int .u32 0,.snil,.snil,.snil,.snil,.snil,.snil,.snil,.snil,.bool false,.int .i64 0,.int .i64 0,.snil])),true,true⟩
def ti215:=tpS 406
def ti217:TI:=⟨(.struct #[fq "On" 4 0 0,fq "T" 100 1 8,fq "Ordered" 40 4 64,fq "Freed" 40 5 88,fq "Places" 40 6 112,fq "Actions" 215 7 136]),8,160,(.g ([.bool false,.int .u32 0,.snil,.snil,.snil,.snil,.snil,.snil])),true,true⟩
def ti219:TI:=⟨(.struct #[fq "G" 52 0 0,fq "Mode" 5 4 32,fq "Cache" 206 5 40,fq "Ring" 200 6 48,fq "List" 203 7 56,fq "Run" 210 8 64,fq "Com" 217 9 72,fq "Dead" 4 17 232,fq "Data" 98 18 240,fq "Gone" 40 19 264]),20,288,(.g ([.int .i64 0,.int .i64 0,.int .i64 0,.int .i64 0,.int .u8 0,.pnil,.pnil,.pnil,.pnil,.bool false,.int .u32 0,.snil,.snil,.snil,.snil,.snil,.snil,.bool false,.snil,.snil])),true,true⟩
def ti221:TI:=⟨(.struct #[fl "Block" 66 0 true "" "" 0]),256,256,(.g ((List.replicate 256 (.int .u8 0)))),true,true⟩
def ti225:=tpF #[3,40,4] #[3,4,31]
def ti234:=tpP 146
def ti244:=tpP 61
def ti245:=tpF #[244] #[]
def ti249:TI:=⟨(.int .u64),1,8,(.c (.int .u64 0)),false,true⟩
def ti254:=tpS 34
def ti256:TI:=⟨(.struct #[fl "places" 3 0 false "" "quern/ring" 0,fl "tail" 3 1 false "" "quern/ring" 8,fl "used" 3 2 false "" "quern/ring" 16]),3,24,(.g ([.int .i64 0,.int .i64 0,.int .i64 0])),true,true⟩
def ti257:TI:=⟨(.struct #[fl "places" 3 0 false "" "quern/ring" 0,fl "tail" 3 1 false "" "quern/ring" 8,fl "used" 3 2 false "" "quern/ring" 16]),3,24,(.g ([.int .i64 0,.int .i64 0,.int .i64 0])),true,true⟩
def ti258:=tpS 279
def ti260:TI:=⟨(.struct #[fl "made" 4 0 false "" "quern/chkpt" 0,fl "g" 52 1 false "" "quern/chkpt" 8,fl "added" 4 5 false "" "quern/chkpt" 40,fl "last" 34 6 false "" "quern/chkpt" 44,fl "all" 258 7 false "" "quern/chkpt" 48]),8,72,(.g ([.bool false,.int .i64 0,.int .i64 0,.int .i64 0,.int .i64 0,.bool false,.int .u32 0,.snil])),true,true⟩
def ti263:TI:=⟨(.struct #[fq "Journal" 3 0 0,fq "Use" 40 1 8,fq "Head" 3 2 32]),3,40,(.g ([.int .i64 0,.snil,.int .i64 0])),true,true⟩
def ti264:=tpS 408
def ti266:TI:=⟨(.struct #[fq "G" 52 0 0,fq "L" 264 4 32,fq "Last" 34 5 56,fq "Some" 4 6 60]),7,64,(.g ([.int .i64 0,.int .i64 0,.int .i64 0,.int .i64 0,.snil,.int .u32 0,.bool false])),true,true⟩
def ti267:=tpP 221
def ti275:TI:=⟨(.struct #[fl "kind" 5 0 false "" "quern/geo" 0,fl "group" 3 1 false "" "quern/geo" 8,fl "from" 3 2 false "" "quern/geo" 16,fl "size" 3 3 false "" "quern/geo" 24,fl "place" 3 4 false "" "quern/geo" 32]),5,40,(.g ([.int .u8 0,.int .i64 0,.int .i64 0,.int .i64 0,.int .i64 0])),true,true⟩
def ti277:=tpF #[108,3] #[3]
def ti279:TI:=⟨(.struct #[fl "seq" 34 0 false "" "quern/chkpt" 0,fl "start" 3 1 false "" "quern/chkpt" 8,fl "count" 3 2 false "" "quern/chkpt" 16,fl "blocks" 40 3 false "" "quern/chkpt" 24,fl "left" 75 4 false "" "quern/chkpt" 48]),5,56,(.g ([.int .u32 0,.int .i64 0,.int .i64 0,.snil,.mnil])),true,true⟩
def ti282:=tpM 286 166
def ti284:TI:=⟨(.struct #[fl "records" 282 0 false "" "quern/revoke" 0]),1,8,(.g ([.mnil])),true,true⟩
def ti286:TI:=⟨(.struct #[fl "block" 3 0 false "" "quern/revoke" 0,fl "seq" 34 1 false "" "quern/revoke" 8]),2,16,(.g ([.int .i64 0,.int .u32 0])),true,true⟩
def ti291:=tpS 334
def ti301:TI:=⟨(.int .i64),1,8,(.c (.int .i64 0)),false,true⟩
def ti311:TI:=⟨(.int .u16),1,2,(.c (.int .u16 0)),false,true⟩
def ti315:=tpF #[275] #[4]
def ti316:TI:=⟨(.array 3 275),15,120,(.g ([.int .u8 0,.int .i64 0,.int .i64 0,.int .i64 0,.int .i64 0,.int .u8 0,.int .i64 0,.int .i64 0,.int .i64 0,.int .i64 0,.int .u8 0,.int .i64 0,.int .i64 0,.int .i64 0,.int .i64 0])),true,true⟩
def ti317:TI:=⟨(.array 4 275),20,160,(.g ([.int .u8 0,.int .i64 0,.int .i64 0,.int .i64 0,.int .i64 0,.int .u8 0,.int .i64 0,.int .i64 0,.int .i64 0,.int .i64 0,.int .u8 0,.int .i64 0,.int .i64 0,.int .i64 0,.int .i64 0,.int .u8 0,.int .i64 0,.int .i64 0,.int .i64 0,.int .i64 0])),true,true⟩
def ti319:TI:=⟨(.struct #[fl "cache" 80 0 false "" "quern/commit" 0,fl "left" 291 1 false "" "quern/commit" 8,fl "next" 45 2 false "" "quern/commit" 32]),3,40,(.g ([.pnil,.snil,.nilFn])),true,true⟩
def ti323:TI:=⟨(.struct #[fq "Kind" 5 0 0,fq "Block" 3 1 8,fq "Data" 66 2 16,fq "Head" 183 258 272,fq "Give" 3 260 288]),261,296,(.g (List.replicate 1 (.int .u8 0)++List.replicate 1 (.int .i64 0)++List.replicate 256 (.int .u8 0)++List.replicate 1 (.int .u32 0)++List.replicate 2 (.int .i64 0))),true,true⟩
def ti334:TI:=⟨(.struct #[fq "Kind" 5 0 0,fq "Block" 3 1 8,fq "Data" 66 2 16]),258,272,(.g (List.replicate 1 (.int .u8 0)++List.replicate 1 (.int .i64 0)++List.replicate 256 (.int .u8 0))),true,true⟩
def ti336:=tpF #[365] #[]
def ti341:=tpF #[3,3] #[]
def ti343:TI:=⟨(.int .u64),1,8,(.c (.int .u64 0)),false,true⟩
def ti347:=tpP 3
def ti349:=tpF #[34] #[34]
def ti350:=tpS 141
def ti351:TI:=⟨(.array 16 34),16,64,(.g ((List.replicate 16 (.int .u32 0)))),true,true⟩
def ti365:=tpF #[334] #[4]
def ti367:=tpP 343
def ti370:TI:=⟨(.struct #[fl "block" 3 0 false "" "quern/disk" 0,fl "data" 66 1 false "" "quern/disk" 8]),257,264,(.g (List.replicate 1 (.int .i64 0)++List.replicate 256 (.int .u8 0))),true,true⟩
def ti372:=tpF #[98] #[4]
def ti373:=tpS 376
def ti376:TI:=⟨(.struct #[fq "Block" 34 0 0,fq "Escaped" 4 1 4]),2,8,(.g ([.int .u32 0,.bool false])),true,true⟩
def ti378:=tpF #[40] #[4]
def ti383:=tpF #[376] #[34]
def ti384:=tpF #[141,376] #[]
def ti386:=tpF #[141,34] #[]
def ti390:TI:=⟨(.array 0 16),0,0,(.g ([])),true,true⟩
def ti392:TI:=⟨(.struct #[fl "_" 390 0 false "" "runtime" 0]),0,0,(.g ([])),true,false⟩
def ti403:TI:=⟨(.struct #[fq "B" 3 0 0,fq "X" 66 1 8]),257,264,(.g (List.replicate 1 (.int .i64 0)++List.replicate 256 (.int .u8 0))),true,true⟩
def ti405:TI:=⟨(.struct #[fq "B" 3 0 0,fq "X" 66 1 8,fq "Dirty" 4 257 264]),258,272,(.g (List.replicate 1 (.int .i64 0)++List.replicate 256 (.int .u8 0)++List.replicate 1 (.bool false))),true,true⟩
def ti406:TI:=⟨(.struct #[fq "Kind" 5 0 0,fq "Block" 3 1 8,fq "Data" 66 2 16]),258,272,(.g (List.replicate 1 (.int .u8 0)++List.replicate 1 (.int .i64 0)++List.replicate 256 (.int .u8 0))),true,true⟩
def ti408:TI:=⟨(.struct #[fq "T" 100 0 0,fq "Start" 3 3 56,fq "Count" 3 4 64,fq "Left" 98 5 72]),6,96,(.g ([.int .u32 0,.snil,.snil,.int .i64 0,.int .i64 0,.snil])),true,true⟩
noncomputable def Z8b:Tree TI:=(nN (nN (nS ti3 (nN (nN (nS ti31 (nN (nN .nil (nL ti383)) (nS ti191 (nL ti319) .nil)) (nS ti95 .nil (nN (nL ti351) .nil))) (nN (nN (nL ti143) (nL ti207)) (nN .nil (nN (nL ti367) .nil)))) (nS ti23 (nN (nS ti71 (nN (nL ti263) .nil) .nil) (nS ti103 (nL ti167) .nil)) (nS ti55 (nN (nS ti151 (nL ti279) .nil) (nS ti215 (nL ti343) .nil)) (nS ti119 (nS ti183 (nL ti311) .nil) .nil)))) (nS ti11 (nN (nS ti35 (nN .nil (nN (nL ti323) .nil)) (nN (nS ti163 (nL ti291) .nil) .nil)) (nN (nN (nN (nL ti275) (nL ti403)) .nil) (nS ti115 (nL ti179) .nil))) (nN (nN (nS ti75 (nN (nL ti267) .nil) (nL ti203)) .nil) (nN (nS ti91 .nil (nS ti219 (nL ti347) .nil)) (nN (nN (nL ti315) .nil) .nil))))) (nS ti5 (nS ti9 (nN (nN (nN (nN (nL ti257) .nil) .nil) (nN (nL ti161) (nL ti225))) (nN (nS ti81 .nil (nL ti209)) .nil)) (nS ti25 (nN (nL ti73) (nN (nL ti169) .nil)) (nS ti57 (nN .nil (nL ti217)) (nN .nil (nL ti249))))) (nN (nN (nS ti37 .nil (nS ti101 (nL ti165) .nil)) (nS ti53 (nN (nN (nL ti277) (nL ti405)) (nN (nL ti341) .nil)) (nN .nil (nS ti245 (nL ti373) .nil)))) (nN (nS ti45 (nN (nL ti141) .nil) (nN (nN (nL ti301) .nil) (nN (nL ti365) .nil))) (nS ti61 (nN .nil (nS ti221 (nL ti349) .nil)) (nN (nS ti189 (nL ti317) .nil) .nil)))))) (nN (nS ti4 (nN (nS ti16 (nN (nN (nN (nL ti256) (nL ti384)) .nil) .nil) (nS ti48 (nS ti80 (nL ti144) (nN (nL ti336) .nil)) .nil)) (nS ti24 (nS ti40 (nS ti72 (nN (nL ti264) (nL ti392)) (nL ti200)) (nN (nL ti168) .nil)) (nN (nS ti88 (nN .nil (nL ti408)) .nil) (nN .nil (nN (nL ti376) .nil))))) (nN (nN (nN (nN (nN (nL ti260) .nil) .nil) (nL ti100)) (nS ti52 (nS ti84 (nL ti148) (nL ti212)) (nN .nil (nS ti244 (nL ti372) .nil)))) (nS ti28 (nN (nL ti76) (nS ti108 (nL ti172) .nil)) (nN (nN (nS ti156 (nL ti284) .nil) .nil) (nN (nS ti188 (nL ti316) .nil) .nil))))) (nN (nN (nN (nS ti34 (nS ti66 (nN (nL ti258) (nL ti386)) .nil) (nL ti98)) (nN (nS ti82 (nL ti146) (nL ti210)) (nN .nil (nN (nL ti370) .nil)))) (nS ti26 (nN (nS ti74 (nS ti138 (nL ti266) .nil) .nil) (nN .nil (nL ti234))) (nN (nS ti90 (nN (nL ti282) .nil) .nil) (nN (nL ti186) (nN (nL ti378) .nil))))) (nN (nS ti22 (nN (nS ti70 (nN .nil (nL ti390)) .nil) (nN (nL ti166) .nil)) (nN (nN (nN .nil (nL ti406)) (nL ti214)) .nil)) (nN (nN (nS ti78 (nL ti142) (nS ti206 (nL ti334) .nil)) (nN (nL ti174) .nil)) (nN (nN (nN (nL ti286) .nil) (nN (nL ti350) .nil)) (nN .nil (nL ti254))))))))
noncomputable def Z60:Tree Func:=(nN (nN (nS f3 (nS f7 (nS f15 (nS f31 (nS f63 (nS f127 (nL f255) .nil) (nL f191)) (nS f95 (nL f159) (nL f223))) (nS f47 (nS f79 (nS f143 (nL f271) .nil) (nL f207)) (nS f111 (nL f175) (nL f239)))) (nS f23 (nS f39 (nS f71 (nS f135 (nL f263) .nil) (nL f199)) (nS f103 (nL f167) (nL f231))) (nS f55 (nS f87 (nS f151 (nL f279) .nil) (nL f215)) (nS f119 (nL f183) (nL f247))))) (nS f11 (nS f19 (nS f35 (nS f67 (nS f131 (nL f259) .nil) (nL f195)) (nS f99 (nL f163) (nL f227))) (nS f51 (nS f83 (nS f147 (nL f275) .nil) (nL f211)) (nS f115 (nL f179) (nL f243)))) (nS f27 (nS f43 (nS f75 (nS f139 (nL f267) .nil) (nL f203)) (nS f107 (nL f171) (nL f235))) (nS f59 (nS f91 (nS f155 (nL f283) .nil) (nL f219)) (nS f123 (nL f187) (nL f251)))))) (nS f5 (nS f9 (nS f17 (nS f33 (nS f65 (nS f129 (nL f257) .nil) (nL f193)) (nS f97 (nL f161) (nL f225))) (nS f49 (nS f81 (nS f145 (nL f273) .nil) (nL f209)) (nS f113 (nL f177) (nL f241)))) (nS f25 (nS f41 (nS f73 (nS f137 (nL f265) .nil) (nL f201)) (nS f105 (nL f169) (nL f233))) (nS f57 (nS f89 (nS f153 (nL f281) .nil) (nL f217)) (nS f121 .nil (nL f249))))) (nS f13 (nS f21 (nS f37 (nS f69 (nS f133 (nL f261) .nil) (nL f197)) (nS f101 (nL f165) (nL f229))) (nS f53 (nS f85 (nS f149 (nL f277) .nil) (nL f213)) (nS f117 (nL f181) (nL f245)))) (nS f29 (nS f45 (nS f77 (nS f141 (nL f269) .nil) (nL f205)) (nS f109 (nL f173) (nL f237))) (nS f61 (nS f93 (nL f157) (nL f221)) (nS f125 (nL f189) (nL f253))))))) (nS f2 (nS f4 (nS f8 (nS f16 (nS f32 (nS f64 (nS f128 (nL f256) .nil) (nL f192)) (nS f96 (nL f160) (nL f224))) (nS f48 (nS f80 (nS f144 (nL f272) .nil) (nL f208)) (nS f112 (nL f176) (nL f240)))) (nS f24 (nS f40 (nS f72 (nS f136 (nL f264) .nil) (nL f200)) (nS f104 (nL f168) (nL f232))) (nS f56 (nS f88 (nS f152 (nL f280) .nil) (nL f216)) (nS f120 (nS f184 (nL f312) .nil) (nL f248))))) (nS f12 (nS f20 (nS f36 (nS f68 (nS f132 (nL f260) .nil) (nL f196)) (nS f100 (nL f164) (nL f228))) (nS f52 (nS f84 (nS f148 (nL f276) .nil) (nL f212)) (nS f116 (nL f180) (nL f244)))) (nS f28 (nS f44 (nS f76 (nS f140 (nL f268) .nil) (nL f204)) (nS f108 (nL f172) (nL f236))) (nS f60 (nS f92 (nL f156) (nL f220)) (nS f124 (nL f188) (nL f252)))))) (nS f6 (nS f10 (nS f18 (nS f34 (nS f66 (nS f130 (nL f258) .nil) (nL f194)) (nS f98 (nL f162) (nL f226))) (nS f50 (nS f82 (nS f146 (nL f274) .nil) (nL f210)) (nS f114 (nL f178) (nL f242)))) (nS f26 (nS f42 (nS f74 (nS f138 (nL f266) .nil) (nL f202)) (nS f106 (nL f170) (nL f234))) (nS f58 (nS f90 (nS f154 (nL f282) .nil) (nL f218)) (nS f122 (nL f186) (nL f250))))) (nS f14 (nS f22 (nS f38 (nS f70 (nS f134 (nL f262) .nil) (nL f198)) (nS f102 (nL f166) (nL f230))) (nS f54 (nS f86 (nS f150 (nL f278) .nil) (nL f214)) (nS f118 (nL f182) (nL f246)))) (nS f30 (nS f46 (nS f78 (nS f142 (nL f270) .nil) (nL f206)) (nS f110 (nL f174) (nL f238))) (nS f62 (nS f94 (nL f158) (nL f222)) (nS f126 (nL f190) (nL f254))))))))
def K:Cfg:=⟨Z60,Z8b,(nL 0),[131,132],[(35,3)],[81,85,213,270]⟩
end
end Go.Proofs.YteiljiijagmonaaGreatDoor
