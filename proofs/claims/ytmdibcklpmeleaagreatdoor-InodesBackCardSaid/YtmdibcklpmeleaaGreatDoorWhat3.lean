/- geo.What, of a geometry that may be. -/
import Derived.Test.YtmdibcklpmeleaaGreatDoorGeo0
import Derived.Test.YtmdibcklpmeleaaGreatDoorEvC
set_option linter.unusedSimpArgs false
set_option linter.unusedVariables false
set_option linter.unusedSectionVars false
set_option maxRecDepth 100000
namespace Go.Proofs.YtmdibcklpmeleaaGreatDoor
open Go.Ev
theorem ty230:K.types.get 230=some ti230:=by kernel_rfl
theorem sz230:ti230.size=5:=by rfl
theorem ag230:ti230.agg=true:=by rfl
theorem fo230_0:Zr K 230 0=some (0,ti5):=by kernel_rfl
theorem fo230_1:Zr K 230 1=some (1,ti3):=by kernel_rfl
theorem fo230_2:Zr K 230 2=some (2,ti3):=by kernel_rfl
theorem fo230_3:Zr K 230 3=some (3,ti3):=by kernel_rfl
theorem fo230_4:Zr K 230 4=some (4,ti3):=by kernel_rfl
theorem bu230 (ps:List (Nat × W)):Yi K 230 (some ps)=gW (Z7 K 230 ps ti230.zero.cells):=by kernel_rfl
theorem ze230:ti230.zero=(.g ([.int .u8 0,.int .i64 0,.int .i64 0,.int .i64 0,.int .i64 0])):=by rfl
theorem by230:ti230.bytes=40:=by rfl
theorem ty266:K.types.get 266=some ti266:=by kernel_rfl
theorem sz266:ti266.size=15:=by rfl
theorem ag266:ti266.agg=true:=by rfl
theorem de266:ti266.desc=(.array 3 230):=by rfl
theorem ze266:ti266.zero=(.g ([.int .u8 0,.int .i64 0,.int .i64 0,.int .i64 0,.int .i64 0,.int .u8 0,.int .i64 0,.int .i64 0,.int .i64 0,.int .i64 0,.int .u8 0,.int .i64 0,.int .i64 0,.int .i64 0,.int .i64 0])):=by rfl
theorem by266:ti266.bytes=120:=by rfl
theorem ty267:K.types.get 267=some ti267:=by kernel_rfl
theorem sz267:ti267.size=20:=by rfl
theorem ag267:ti267.agg=true:=by rfl
theorem de267:ti267.desc=(.array 4 230):=by rfl
theorem ze267:ti267.zero=(.g ([.int .u8 0,.int .i64 0,.int .i64 0,.int .i64 0,.int .i64 0,.int .u8 0,.int .i64 0,.int .i64 0,.int .i64 0,.int .i64 0,.int .u8 0,.int .i64 0,.int .i64 0,.int .i64 0,.int .i64 0,.int .u8 0,.int .i64 0,.int .i64 0,.int .i64 0,.int .i64 0])):=by rfl
theorem by267:ti267.bytes=160:=by rfl
attribute [go_sem] ty5 sz5 ag5 de5 ze5 by5 ke5 ty230 sz230 ag230 fo230_0 fo230_1 fo230_2 fo230_3 fo230_4 bu230 ze230 by230 ty266 sz266 ag266 de266 ze266 by266 ty267 sz267 ag267 de267 ze267 by267
noncomputable def q115 (p:List Nat):Code:=piece p (Z5 Tryz.f115)
theorem Ydd:q115 []=.seq (q115 [0]) (q115 [1]):=by kernel_rfl
theorem q115_0:q115 [0]=.region 0 (Zt (q115 [0])) false:=by kernel_rfl
theorem q115_1:q115 [1]=.seq (q115 [1,0]) (q115 [1,1]):=by kernel_rfl
theorem Zze:q115 [1,0]=.seq (q115 [1,0,0]) (q115 [1,0,1]):=by kernel_rfl
theorem Zu4:q115 [1,0,0]=.region 1 (Zt (q115 [1,0,0])) false:=by kernel_rfl
theorem Zug:q115 [1,0,1]=.cond (.tmp 14) (q115 [1,0,1,3]) (q115 [1,0,1,4]):=by kernel_rfl
theorem Z10:q115 [1,0,1,3]=.seq (q115 [1,0,1,3,0]) (q115 [1,0,1,3,1]):=by kernel_rfl
theorem Zv2:q115 [1,0,1,3,0]=.region 2 (Zt (q115 [1,0,1,3,0])) false:=by kernel_rfl
theorem Zx8:q115 [1,0,1,3,1]=.ret:=by kernel_rfl
theorem Z2u:q115 [1,0,1,4]=.skip:=by kernel_rfl
theorem Yc2:q115 [1,1]=.seq (q115 [1,1,0]) (q115 [1,1,1]):=by kernel_rfl
theorem Z8y:q115 [1,1,0]=.seq (q115 [1,1,0,0]) (q115 [1,1,0,1]):=by kernel_rfl
theorem Z3g:q115 [1,1,0,0]=.region 3 (Zt (q115 [1,1,0,0])) false:=by kernel_rfl
theorem Z3q:q115 [1,1,0,1]=.block 0 (q115 [1,1,0,1,2]):=by kernel_rfl
theorem Zvv:q115 [1,1,0,1,2]=.rangeFunc (.tmp 16) #[17] (q115 [1,1,0,1,2,5]) (q115 [1,1,0,1,2,6]):=by kernel_rfl
theorem Zhl:q115 [1,1,0,1,2,5]=.region 4 (Zt (q115 [1,1,0,1,2,5])) false:=by kernel_rfl
theorem Zae:q115 [1,1,0,1,2,6]=.block 1 (q115 [1,1,0,1,2,6,2]):=by kernel_rfl
theorem Zdh:q115 [1,1,0,1,2,6,2]=.seq (q115 [1,1,0,1,2,6,2,0]) (q115 [1,1,0,1,2,6,2,1]):=by kernel_rfl
theorem Zby:q115 [1,1,0,1,2,6,2,0]=.region 5 (Zt (q115 [1,1,0,1,2,6,2,0])) false:=by kernel_rfl
theorem Zcg:q115 [1,1,0,1,2,6,2,1]=.cond (.tmp 24) (q115 [1,1,0,1,2,6,2,1,3]) (q115 [1,1,0,1,2,6,2,1,4]):=by kernel_rfl
theorem Zj9:q115 [1,1,0,1,2,6,2,1,3]=.seq (q115 [1,1,0,1,2,6,2,1,3,0]) (q115 [1,1,0,1,2,6,2,1,3,1]):=by kernel_rfl
theorem Zid:q115 [1,1,0,1,2,6,2,1,3,0]=.region 6 (Zt (q115 [1,1,0,1,2,6,2,1,3,0])) true:=by kernel_rfl
theorem Zhy:q115 [1,1,0,1,2,6,2,1,3,1]=.ret:=by kernel_rfl
theorem Zjq:q115 [1,1,0,1,2,6,2,1,4]=.skip:=by kernel_rfl
theorem Z7s:q115 [1,1,1]=.seq (q115 [1,1,1,0]) (q115 [1,1,1,1]):=by kernel_rfl
theorem Z13:q115 [1,1,1,0]=.region 7 (Zt (q115 [1,1,1,0])) false:=by kernel_rfl
theorem Z1g:q115 [1,1,1,1]=.ret:=by kernel_rfl
noncomputable def q151 (p:List Nat):Code:=piece p (Z5 Tryz.f151)
theorem Ygk:q151 []=.seq (q151 [0]) (q151 [1]):=by kernel_rfl
theorem q151_0:q151 [0]=.region 0 (Zt (q151 [0])) false:=by kernel_rfl
theorem q151_1:q151 [1]=.seq (q151 [1,0]) (q151 [1,1]):=by kernel_rfl
theorem Ycc:q151 [1,0]=.region 1 (Zt (q151 [1,0])) false:=by kernel_rfl
theorem Ycz:q151 [1,1]=.ret:=by kernel_rfl
noncomputable def q183 (p:List Nat):Code:=piece p (Z5 Tryz.f183)
theorem Yhq:q183 []=.seq (q183 [0]) (q183 [1]):=by kernel_rfl
theorem q183_0:q183 [0]=.region 0 (Zt (q183 [0])) false:=by kernel_rfl
theorem q183_1:q183 [1]=.seq (q183 [1,0]) (q183 [1,1]):=by kernel_rfl
theorem Z9o:q183 [1,0]=.region 1 (Zt (q183 [1,0])) false:=by kernel_rfl
theorem Ybu:q183 [1,1]=.seq (q183 [1,1,0]) (q183 [1,1,1]):=by kernel_rfl
theorem Z57:q183 [1,1,0]=.seq (q183 [1,1,0,0]) (q183 [1,1,0,1]):=by kernel_rfl
theorem Z0x:q183 [1,1,0,0]=.region 2 (Zt (q183 [1,1,0,0])) false:=by kernel_rfl
theorem Z03:q183 [1,1,0,1]=.block 0 (q183 [1,1,0,1,2]):=by kernel_rfl
theorem Xq:q183 [1,1,0,1,2]=.loop (q183 [1,1,0,1,2,2]):=by kernel_rfl
theorem Q8:q183 [1,1,0,1,2,2]=.seq (q183 [1,1,0,1,2,2,0]) (q183 [1,1,0,1,2,2,1]):=by kernel_rfl
theorem X8:q183 [1,1,0,1,2,2,0]=.region 3 (Zt (q183 [1,1,0,1,2,2,0])) false:=by kernel_rfl
theorem Wn:q183 [1,1,0,1,2,2,1]=.seq (q183 [1,1,0,1,2,2,1,0]) (q183 [1,1,0,1,2,2,1,1]):=by kernel_rfl
theorem Sz:q183 [1,1,0,1,2,2,1,0]=.cond (.tmp 23) (q183 [1,1,0,1,2,2,1,0,3]) (q183 [1,1,0,1,2,2,1,0,4]):=by kernel_rfl
theorem Zar:q183 [1,1,0,1,2,2,1,0,3]=.skip:=by kernel_rfl
theorem Zjk:q183 [1,1,0,1,2,2,1,0,4]=.exit 0:=by kernel_rfl
theorem Zch:q183 [1,1,0,1,2,2,1,1]=.seq (q183 [1,1,0,1,2,2,1,1,0]) (q183 [1,1,0,1,2,2,1,1,1]):=by kernel_rfl
theorem Q4:q183 [1,1,0,1,2,2,1,1,0]=.block 1 (q183 [1,1,0,1,2,2,1,1,0,2]):=by kernel_rfl
theorem Qc:q183 [1,1,0,1,2,2,1,1,0,2]=.seq (q183 [1,1,0,1,2,2,1,1,0,2,0]) (q183 [1,1,0,1,2,2,1,1,0,2,1]):=by kernel_rfl
theorem Vp:q183 [1,1,0,1,2,2,1,1,0,2,0]=.region 4 (Zt (q183 [1,1,0,1,2,2,1,1,0,2,0])) false:=by kernel_rfl
theorem Vq:q183 [1,1,0,1,2,2,1,1,0,2,1]=.seq (q183 [1,1,0,1,2,2,1,1,0,2,1,0]) (q183 [1,1,0,1,2,2,1,1,0,2,1,1]):=by kernel_rfl
theorem Sr:q183 [1,1,0,1,2,2,1,1,0,2,1,0]=.region 5 (Zt (q183 [1,1,0,1,2,2,1,1,0,2,1,0])) false:=by kernel_rfl
theorem Sa:q183 [1,1,0,1,2,2,1,1,0,2,1,1]=.cond (.tmp 28) (q183 [1,1,0,1,2,2,1,1,0,2,1,1,3]) (q183 [1,1,0,1,2,2,1,1,0,2,1,1,4]):=by kernel_rfl
theorem Zde:q183 [1,1,0,1,2,2,1,1,0,2,1,1,3]=.ret:=by kernel_rfl
theorem Zcz:q183 [1,1,0,1,2,2,1,1,0,2,1,1,4]=.skip:=by kernel_rfl
theorem Zku:q183 [1,1,0,1,2,2,1,1,1]=.region 6 (Zt (q183 [1,1,0,1,2,2,1,1,1])) false:=by kernel_rfl
theorem Z4k:q183 [1,1,1]=.seq (q183 [1,1,1,0]) (q183 [1,1,1,1]):=by kernel_rfl
theorem Z04:q183 [1,1,1,0]=.region 7 (Zt (q183 [1,1,1,0])) false:=by kernel_rfl
theorem Z0j:q183 [1,1,1,1]=.block 2 (q183 [1,1,1,1,2]):=by kernel_rfl
theorem Zcu:q183 [1,1,1,1,2]=.loop (q183 [1,1,1,1,2,2]):=by kernel_rfl
theorem Zht:q183 [1,1,1,1,2,2]=.seq (q183 [1,1,1,1,2,2,0]) (q183 [1,1,1,1,2,2,1]):=by kernel_rfl
theorem Zdq:q183 [1,1,1,1,2,2,0]=.region 8 (Zt (q183 [1,1,1,1,2,2,0])) false:=by kernel_rfl
theorem Ze4:q183 [1,1,1,1,2,2,1]=.seq (q183 [1,1,1,1,2,2,1,0]) (q183 [1,1,1,1,2,2,1,1]):=by kernel_rfl
theorem Zb9:q183 [1,1,1,1,2,2,1,0]=.cond (.tmp 33) (q183 [1,1,1,1,2,2,1,0,3]) (q183 [1,1,1,1,2,2,1,0,4]):=by kernel_rfl
theorem Zj4:q183 [1,1,1,1,2,2,1,0,3]=.skip:=by kernel_rfl
theorem Zk2:q183 [1,1,1,1,2,2,1,0,4]=.exit 2:=by kernel_rfl
theorem Zms:q183 [1,1,1,1,2,2,1,1]=.seq (q183 [1,1,1,1,2,2,1,1,0]) (q183 [1,1,1,1,2,2,1,1,1]):=by kernel_rfl
theorem Zjy:q183 [1,1,1,1,2,2,1,1,0]=.block 3 (q183 [1,1,1,1,2,2,1,1,0,2]):=by kernel_rfl
theorem Zih:q183 [1,1,1,1,2,2,1,1,0,2]=.seq (q183 [1,1,1,1,2,2,1,1,0,2,0]) (q183 [1,1,1,1,2,2,1,1,0,2,1]):=by kernel_rfl
theorem Zgq:q183 [1,1,1,1,2,2,1,1,0,2,0]=.region 9 (Zt (q183 [1,1,1,1,2,2,1,1,0,2,0])) false:=by kernel_rfl
theorem Zgc:q183 [1,1,1,1,2,2,1,1,0,2,1]=.seq (q183 [1,1,1,1,2,2,1,1,0,2,1,0]) (q183 [1,1,1,1,2,2,1,1,0,2,1,1]):=by kernel_rfl
theorem Zef:q183 [1,1,1,1,2,2,1,1,0,2,1,0]=.region 10 (Zt (q183 [1,1,1,1,2,2,1,1,0,2,1,0])) false:=by kernel_rfl
theorem Zeh:q183 [1,1,1,1,2,2,1,1,0,2,1,1]=.seq (q183 [1,1,1,1,2,2,1,1,0,2,1,1,0]) (q183 [1,1,1,1,2,2,1,1,0,2,1,1,1]):=by kernel_rfl
theorem Zdb:q183 [1,1,1,1,2,2,1,1,0,2,1,1,0]=.region 11 (Zt (q183 [1,1,1,1,2,2,1,1,0,2,1,1,0])) false:=by kernel_rfl
theorem Zcw:q183 [1,1,1,1,2,2,1,1,0,2,1,1,1]=.seq (q183 [1,1,1,1,2,2,1,1,0,2,1,1,1,0]) (q183 [1,1,1,1,2,2,1,1,0,2,1,1,1,1]):=by kernel_rfl
theorem Zbj:q183 [1,1,1,1,2,2,1,1,0,2,1,1,1,0]=.region 12 (Zt (q183 [1,1,1,1,2,2,1,1,0,2,1,1,1,0])) false:=by kernel_rfl
theorem Zbh:q183 [1,1,1,1,2,2,1,1,0,2,1,1,1,1]=.block 4 (q183 [1,1,1,1,2,2,1,1,0,2,1,1,1,1,2]):=by kernel_rfl
theorem O5:q183 [1,1,1,1,2,2,1,1,0,2,1,1,1,1,2]=.loop (q183 [1,1,1,1,2,2,1,1,0,2,1,1,1,1,2,2]):=by kernel_rfl
theorem Bw:q183 [1,1,1,1,2,2,1,1,0,2,1,1,1,1,2,2]=.seq (q183 [1,1,1,1,2,2,1,1,0,2,1,1,1,1,2,2,0]) (q183 [1,1,1,1,2,2,1,1,0,2,1,1,1,1,2,2,1]):=by kernel_rfl
theorem Be:q183 [1,1,1,1,2,2,1,1,0,2,1,1,1,1,2,2,0]=.region 13 (Zt (q183 [1,1,1,1,2,2,1,1,0,2,1,1,1,1,2,2,0])) false:=by kernel_rfl
theorem Bb:q183 [1,1,1,1,2,2,1,1,0,2,1,1,1,1,2,2,1]=.seq (q183 [1,1,1,1,2,2,1,1,0,2,1,1,1,1,2,2,1,0]) (q183 [1,1,1,1,2,2,1,1,0,2,1,1,1,1,2,2,1,1]):=by kernel_rfl
theorem Gr:q183 [1,1,1,1,2,2,1,1,0,2,1,1,1,1,2,2,1,0]=.cond (.tmp 71) (q183 [1,1,1,1,2,2,1,1,0,2,1,1,1,1,2,2,1,0,3]) (q183 [1,1,1,1,2,2,1,1,0,2,1,1,1,1,2,2,1,0,4]):=by kernel_rfl
theorem Ey:q183 [1,1,1,1,2,2,1,1,0,2,1,1,1,1,2,2,1,0,3]=.skip:=by kernel_rfl
theorem Tt:q183 [1,1,1,1,2,2,1,1,0,2,1,1,1,1,2,2,1,0,4]=.exit 4:=by kernel_rfl
theorem Fv:q183 [1,1,1,1,2,2,1,1,0,2,1,1,1,1,2,2,1,1]=.seq (q183 [1,1,1,1,2,2,1,1,0,2,1,1,1,1,2,2,1,1,0]) (q183 [1,1,1,1,2,2,1,1,0,2,1,1,1,1,2,2,1,1,1]):=by kernel_rfl
theorem E5:q183 [1,1,1,1,2,2,1,1,0,2,1,1,1,1,2,2,1,1,0]=.block 5 (q183 [1,1,1,1,2,2,1,1,0,2,1,1,1,1,2,2,1,1,0,2]):=by kernel_rfl
theorem Eo:q183 [1,1,1,1,2,2,1,1,0,2,1,1,1,1,2,2,1,1,0,2]=.seq (q183 [1,1,1,1,2,2,1,1,0,2,1,1,1,1,2,2,1,1,0,2,0]) (q183 [1,1,1,1,2,2,1,1,0,2,1,1,1,1,2,2,1,1,0,2,1]):=by kernel_rfl
theorem D6:q183 [1,1,1,1,2,2,1,1,0,2,1,1,1,1,2,2,1,1,0,2,0]=.region 14 (Zt (q183 [1,1,1,1,2,2,1,1,0,2,1,1,1,1,2,2,1,1,0,2,0])) false:=by kernel_rfl
theorem Dy:q183 [1,1,1,1,2,2,1,1,0,2,1,1,1,1,2,2,1,1,0,2,1]=.seq (q183 [1,1,1,1,2,2,1,1,0,2,1,1,1,1,2,2,1,1,0,2,1,0]) (q183 [1,1,1,1,2,2,1,1,0,2,1,1,1,1,2,2,1,1,0,2,1,1]):=by kernel_rfl
theorem Dc:q183 [1,1,1,1,2,2,1,1,0,2,1,1,1,1,2,2,1,1,0,2,1,0]=.region 15 (Zt (q183 [1,1,1,1,2,2,1,1,0,2,1,1,1,1,2,2,1,1,0,2,1,0])) false:=by kernel_rfl
theorem Dn:q183 [1,1,1,1,2,2,1,1,0,2,1,1,1,1,2,2,1,1,0,2,1,1]=.cond (.tmp 76) (q183 [1,1,1,1,2,2,1,1,0,2,1,1,1,1,2,2,1,1,0,2,1,1,3]) (q183 [1,1,1,1,2,2,1,1,0,2,1,1,1,1,2,2,1,1,0,2,1,1,4]):=by kernel_rfl
theorem Nn:q183 [1,1,1,1,2,2,1,1,0,2,1,1,1,1,2,2,1,1,0,2,1,1,3]=.ret:=by kernel_rfl
theorem Nk:q183 [1,1,1,1,2,2,1,1,0,2,1,1,1,1,2,2,1,1,0,2,1,1,4]=.skip:=by kernel_rfl
theorem Tc:q183 [1,1,1,1,2,2,1,1,0,2,1,1,1,1,2,2,1,1,1]=.region 16 (Zt (q183 [1,1,1,1,2,2,1,1,0,2,1,1,1,1,2,2,1,1,1])) false:=by kernel_rfl
theorem Zk3:q183 [1,1,1,1,2,2,1,1,1]=.region 17 (Zt (q183 [1,1,1,1,2,2,1,1,1])) false:=by kernel_rfl
theorem rs115:Tryz.f115.results.toList=[.cell 4 5,.cell 5 3,.cell 6 3]:=rfl
theorem rs151:Tryz.f151.results.toList=[.tmp 2]:=rfl
theorem rs183:Tryz.f183.results.toList=[]:=rfl
attribute [go_sem] rs115 rs151 rs183
def Gm (kk gp fr sz pl:Nat):List C:=[.int .u8 kk,.int .i64 gp,.int .i64 fr,.int .i64 sz,.int .i64 pl]
section
variable (Hh:Hearts K Tryz.prog)
include Hh
theorem Ygq (l:Nat) (ts:Zy) (kk gp fr sz pl:Nat) (h:Go.Ev.H):Goes K Tryz.prog 36 (some l) (q115 [1,1,0,1,2,5]) [] (ts.set 17 (.w (.g (Gm kk gp fr sz pl)))) h fun x ds' ts' h'=>x=.normal∧ds'=[]∧(∀ s,s≤6→Zp ts' s=Zp ts s)∧Zp ts' 7=.w (.c (.ptr h.next 0))∧h'.next=h.next+1∧h'.get h.next=some (.row 5 [Gm kk gp fr sz pl] false)∧∀ m,m≠h.next→h'.get m=h.get m:=by
 refine Goes.Zw Zhl fits Hh Zb (by
  simp (maxSteps:=9^6) +decide (disch:=first|omega|(simp only[lens]<;>omega)|decide) only [go_sem,q115,Tryz.f115,Zc,Za,simprocAttr,Gm]
  rfl) ?_
 refine⟨rfl,rfl,fun s hs=>?_,?_,rfl,?_,fun m hm=>?_⟩
 ·simp (decide:=true) only [Uj hs]
 ·simp (maxSteps:=9^6) +decide (disch:=first|omega|(simp only[lens]<;>omega)|decide) only [go_sem,Zc,Za,simprocAttr]
 ·simp (maxSteps:=9^6) +decide (disch:=first|omega|(simp only[lens]<;>omega)|decide) only [go_sem,Zc,Za,simprocAttr,Gm]
 ·simp (maxSteps:=9^6) +decide (disch:=first|omega|(simp only[lens]<;>omega)|decide) only [go_sem,Zc,Za,simprocAttr]
set_option maxHeartbeats 4000000 in
theorem Yg9 (l:Nat) (ts:Zy) (pb p4 p5 p6 q kk gp fr sz pl b:Nat) (h:Go.Ev.H) (x4 x5 x6:C) (s1:kk<256) (s2:gp<1000000) (s3:fr<1000000) (s4:sz<1000000) (s5:pl<1000000) (s6:b<9223372036854775808) (s7:fr≤b)
  (d1:p4≠p5) (d2:p4≠p6) (d3:p5≠p6) (d4:pb≠p4) (d5:pb≠p5) (d6:pb≠p6) (d7:q≠p4) (d8:q≠p5) (d9:q≠p6)
  (e3:Zp ts 3=.w (.c (.ptr pb 0))) (e4:Zp ts 4=.w (.c (.ptr p4 0))) (e5:Zp ts 5=.w (.c (.ptr p5 0))) (e6:Zp ts 6=.w (.c (.ptr p6 0))) (e7:Zp ts 7=.w (.c (.ptr q 0)))
  (hb:h.get pb=some (.row 1 [[.int .i64 b]] false)) (hq:h.get q=some (.row 5 [Gm kk gp fr sz pl] false)) (r4:h.get p4=some (.row 1 [[x4]] false)) (r5:h.get p5=some (.row 1 [[x5]] false)) (r6:h.get p6=some (.row 1 [[x6]] false)) :
  Goes K Tryz.prog 36 (some l) (q115 [1,1,0,1,2,6]) [] ts h fun x _ _ h'=>h'.next=h.next∧(b<fr+sz→x=.ret∧h'.get p4=some (.row 1 [[.int .u8 kk]] false)∧h'.get p5=some (.row 1 [[.int .i64 gp]] false)∧h'.get p6=some (.row 1 [[.int .i64 ((pl+b - fr:Nat):Int)]] false))∧(fr+sz≤b→x=.normal∧h'=h)∧∀ m,m≠p4→m≠p5→m≠p6→h'.get m=h.get m:=by
 have w9:((pl:Int)+(b:Int)) - (fr:Int)=((pl+b - fr:Nat):Int):=by omega
 by_cases hlt:b<fr+sz
 ·
  refine Goes.Ul Zae (Goes.block ?_)
  refine Goes.Zq Zdh ?_
  refine Goes.Zw Zby fits Hh Zb (by
   simp (maxSteps:=9^6) +decide (disch:=first|omega|(simp only[lens]<;>omega)|decide) only [go_sem,q115,Tryz.f115,Zc,Za,simprocAttr,e3,e4,e5,e6,e7,hb,hq,r4,r5,r6,Gm,read1,w9,Zx]
   rfl) ?_
  refine Goes.Ob Zcg (by simp (maxSteps:=9^6) +decide (disch:=first|omega|(simp only[lens]<;>omega)|decide) only [go_sem,Zc,Za,simprocAttr,e3,e4,e5,e6,e7,hb,hq,r4,r5,r6,Gm,read1,w9,Zx]<;>rfl) (by first|rfl|assumption|exact decide_eq_true (by omega)|(simp; omega)) ?_
  refine Goes.Zq Zj9 ?_
  refine Goes.Zqr Zid fits Hh Zb (by kernel_rfl) (by
   simp (maxSteps:=9^6) +decide (disch:=first|omega|(simp only[lens]<;>omega)|decide) only [go_sem,q115,Tryz.f115,Zc,Za,simprocAttr,U2,Je,Ju,Ux,Y9,Uv,Jp,Yw,Jt,Uy,Gg,Jy,Yq,Y1,Yu,Yv,J2,Jb,Jf,Yx,Y8,Jz,Bh,O8,Gu,Rl,R8,Ot,Oj,Uh,G7,Oq,Oc,Uw,Jd,Uo,looks,En,Op.operands,Call.operands,kd,Ox,List.filterMap_cons,List.filterMap_nil,List.append_nil,List.nil_append,List.cons_append,Jk,stable,J5,Oa,Uu,waits,Ja,List.all_cons,List.all_nil,List.any_cons,List.any_nil,Region.binds,Bool.or_true,Bool.true_or,Bool.and_true,Bool.true_and,Bool.or_false,Bool.false_or,Bool.and_self,Bool.or_self,Jq,Nat.le_refl,Nat.le_add_right,List.map_cons,Array.toList_append,e3,e4,e5,e6,e7,hb,hq,r4,r5,r6,Gm,read1,w9,Zx]
   rfl) ?_
  refine Goes.Gl Zhy ?_
  refine⟨rfl,fun _=>⟨rfl,?_,?_,?_⟩,fun h9=>by omega,fun m h1 h2 h3=>?_⟩
  ·simp (maxSteps:=9^6) +decide (disch:=first|omega|(simp only[lens]<;>omega)|decide) only [go_sem,Zc,Za,simprocAttr]
  ·simp (maxSteps:=9^6) +decide (disch:=first|omega|(simp only[lens]<;>omega)|decide) only [go_sem,Zc,Za,simprocAttr]
  ·simp (maxSteps:=9^6) +decide (disch:=first|omega|(simp only[lens]<;>omega)|decide) only [go_sem,Zc,Za,simprocAttr]
  ·simp (maxSteps:=9^6) +decide (disch:=first|omega|(simp only[lens]<;>omega)|decide) only [go_sem,Zc,Za,simprocAttr]
 ·
  refine Goes.Ul Zae (Goes.block ?_)
  refine Goes.Zq Zdh ?_
  refine Goes.Zw Zby fits Hh Zb (by
   simp (maxSteps:=9^6) +decide (disch:=first|omega|(simp only[lens]<;>omega)|decide) only [go_sem,q115,Tryz.f115,Zc,Za,simprocAttr,e3,e4,e5,e6,e7,hb,hq,r4,r5,r6,Gm,read1]
   rfl) ?_
  refine Goes.Yy Zcg (by simp (maxSteps:=9^6) +decide (disch:=first|omega|(simp only[lens]<;>omega)|decide) only [go_sem,Zc,Za,simprocAttr,e3,e4,e5,e6,e7,hb,hq,r4,r5,r6,Gm,read1]<;>rfl) (by first|rfl|assumption|exact decide_eq_false (by omega)|(simp; omega)) ?_
  refine Goes.Jc Zjq ?_
  exact⟨rfl,fun h9=>by omega,fun _=>⟨rfl,rfl⟩,fun _ _ _ _=>rfl⟩
theorem Z0w (l:Nat) (ts:Zy) (pb p4 p5 p6 kk gp fr sz pl b d:Nat) (h:Go.Ev.H) (x4 x5 x6:C) (s1:kk<256) (s2:gp<1000000) (s3:fr<1000000) (s4:sz<1000000) (s5:pl<1000000) (s6:b<9223372036854775808) (s7:fr≤b)
  (d1:p4≠p5) (d2:p4≠p6) (d3:p5≠p6) (d4:pb≠p4) (d5:pb≠p5) (d6:pb≠p6) (l4:l≠p4) (l5:l≠p5) (l6:l≠p6) (lb:l≠pb) (b4:p4<h.next) (b5:p5<h.next) (b6:p6<h.next) (bb:pb<h.next) (bl:l<h.next)
  (e3:Zp ts 3=.w (.c (.ptr pb 0))) (e4:Zp ts 4=.w (.c (.ptr p4 0))) (e5:Zp ts 5=.w (.c (.ptr p5 0))) (e6:Zp ts 6=.w (.c (.ptr p6 0)))
  (hl:h.get l=some (.loop ts 36 [17] (q115 [1,1,0,1,2,5]) (q115 [1,1,0,1,2,6]) .ready none d))
  (hb:h.get pb=some (.row 1 [[.int .i64 b]] false)) (r4:h.get p4=some (.row 1 [[x4]] false)) (r5:h.get p5=some (.row 1 [[x5]] false)) (r6:h.get p6=some (.row 1 [[x6]] false)) :
  ∃ E h' r,Sound K Tryz.prog E∧Df E l (some [.g (Gm kk gp fr sz pl)]) h (h.get l)=some (.val (.w (.c (.bool r))) h')∧h.next≤h'.next ∧
   (fr+sz≤b→r=true∧∀ m,m<h.next→h'.get m=h.get m) ∧
   (b<fr+sz→r=false∧h'.get l=some (.loop ts 36 [17] (q115 [1,1,0,1,2,5]) (q115 [1,1,0,1,2,6]) .done (some .ret) d)∧h'.get p4=some (.row 1 [[.int .u8 kk]] false)∧h'.get p5=some (.row 1 [[.int .i64 gp]] false)∧h'.get p6=some (.row 1 [[.int .i64 ((pl+b - fr:Nat):Int)]] false)∧∀ m,m<h.next→m≠l→m≠p4→m≠p5→m≠p6→h'.get m=h.get m):=by
 obtain⟨xa,ds1,ts1,h1,kA,rfl,rfl,t1,t7,n1,g1,f1⟩:=Ygq Hh l ts kk gp fr sz pl h
 have q1:∀ m,m<h.next→m≠l→(h1.put l (.loop ts 36 [17] (q115 [1,1,0,1,2,5]) (q115 [1,1,0,1,2,6]) .busy none d)).get m=h.get m:=fun m hm hml=>by rw[Zv hml,f1 m (by omega)]
 have gl:h1.get l=some (.loop ts 36 [17] (q115 [1,1,0,1,2,5]) (q115 [1,1,0,1,2,6]) .ready none d):=by rw[f1 l (by omega)]; exact hl
 obtain⟨xb,ds2,ts2,h2,kB,n2,st,go,f2⟩:=Yg9 Hh l ts1 pb p4 p5 p6 h.next kk gp fr sz pl b (h1.put l (.loop ts 36 [17] (q115 [1,1,0,1,2,5]) (q115 [1,1,0,1,2,6]) .busy none d)) x4 x5 x6 s1 s2 s3 s4 s5 s6 s7 d1 d2 d3 d4 d5 d6 (by omega) (by omega) (by omega)
  ((t1 3 (by decide)).trans e3) ((t1 4 (by decide)).trans e4) ((t1 5 (by decide)).trans e5) ((t1 6 (by decide)).trans e6) t7 ((q1 pb bb (Ne.symm lb)).trans hb) (by rw[Zv (by omega)]; exact g1) ((q1 p4 b4 (Ne.symm l4)).trans r4) ((q1 p5 b5 (Ne.symm l5)).trans r5) ((q1 p6 b6 (Ne.symm l6)).trans r6)
 have hl2:h2.get l=some (.loop ts 36 [17] (q115 [1,1,0,1,2,5]) (q115 [1,1,0,1,2,6]) .busy none d):=by rw[f2 l l4 l5 l6]; exact Yk ..
 have S:=Znt (Znt Zb kB) kA
 refine⟨_,_,_,S,Zlp hl (by simp only[Bp]; rfl) (Zth ..) gl (Z4q (fun e=>?_) |>.trans (Zth ..)) hl2,?_,fun h9=>?_,fun h9=>?_⟩
 ·have e1:=(Task.code.inj e).1
  rw[Zae,Zhl] at e1
  cases e1
 ·rw[H.Zg,n2,H.Zg,n1]; omega
 ·obtain⟨rfl,rfl⟩:=go h9
  refine⟨rfl,fun m hm=>?_⟩
  by_cases e:m=l
  ·subst e; rw[Yk,hl]; rfl
  ·rw[Zv e,q1 m hm e]
 ·obtain⟨rfl,k4,k5,k6⟩:=st h9
  refine⟨rfl,Yk ..,?_,?_,?_,fun m hm a1 a2 a3 a4=>?_⟩
  ·rw[Zv (Ne.symm l4)]; exact k4
  ·rw[Zv (Ne.symm l5)]; exact k5
  ·rw[Zv (Ne.symm l6)]; exact k6
  ·rw[Zv a1,f2 m a2 a3 a4,q1 m hm a1]
structure WCtx (l pb p4 p5 p6 pg gr sz ino jr b d:Nat) (ts:Zy) (h:Go.Ev.H):Prop where
 d1:p4≠p5
 d2:p4≠p6
 d3:p5≠p6
 d4:pb≠p4
 d5:pb≠p5
 d6:pb≠p6
 l4:l≠p4
 l5:l≠p5
 l6:l≠p6
 lb:l≠pb
 b4:p4<h.next
 b5:p5<h.next
 b6:p6<h.next
 bb:pb<h.next
 bl:l<h.next
 bg:pg<h.next
 e3:Zp ts 3=.w (.c (.ptr pb 0))
 e4:Zp ts 4=.w (.c (.ptr p4 0))
 e5:Zp ts 5=.w (.c (.ptr p5 0))
 e6:Zp ts 6=.w (.c (.ptr p6 0))
 hl:h.get l=some (.loop ts 36 [17] (q115 [1,1,0,1,2,5]) (q115 [1,1,0,1,2,6]) .ready none d)
 hb:h.get pb=some (.row 1 [[.int .i64 b]] false)
 r4:∃ x,h.get p4=some (.row 1 [[x]] false)
 r5:∃ x,h.get p5=some (.row 1 [[x]] false)
 r6:∃ x,h.get p6=some (.row 1 [[x]] false)
 hg:h.get pg=some (.row 4 [Yf gr sz ino jr] false)
omit Hh in
theorem WCtx.move {l pb p4 p5 p6 pg gr sz ino jr b d:Nat} {ts:Zy} {h h':Go.Ev.H} (W:WCtx l pb p4 p5 p6 pg gr sz ino jr b d ts h) (hn:h.next≤h'.next) (k:∀ m,m<h.next→h'.get m=h.get m):WCtx l pb p4 p5 p6 pg gr sz ino jr b d ts h':=by
 obtain⟨d1,d2,d3,d4,d5,d6,l4,l5,l6,lb,b4,b5,b6,bb,bl,bg,e3,e4,e5,e6,hl,hb,r4,r5,r6,hg⟩:=W
 exact⟨d1,d2,d3,d4,d5,d6,l4,l5,l6,lb,by omega,by omega,by omega,by omega,by omega,by omega,e3,e4,e5,e6,(k l bl).trans hl,(k pb bb).trans hb,by rw[k p4 b4]; exact r4,by rw[k p5 b5]; exact r5,by rw[k p6 b6]; exact r6,(k pg bg).trans hg⟩
structure WAns (l p4 p5 p6 d:Nat) (ts:Zy) (kk gp pl:Nat) (h0 h:Go.Ev.H):Prop where
 next:h0.next≤h.next
 hl:h.get l=some (.loop ts 36 [17] (q115 [1,1,0,1,2,5]) (q115 [1,1,0,1,2,6]) .done (some .ret) d)
 r4:h.get p4=some (.row 1 [[.int .u8 kk]] false)
 r5:h.get p5=some (.row 1 [[.int .i64 gp]] false)
 r6:h.get p6=some (.row 1 [[.int .i64 pl]] false)
 keep:∀ m,m<h0.next→m≠l→m≠p4→m≠p5→m≠p6→h.get m=h0.get m
omit Hh in
theorem WAns.back {l p4 p5 p6 d:Nat} {ts:Zy} {kk gp pl:Nat} {h0 h1 h:Go.Ev.H} (A:WAns l p4 p5 p6 d ts kk gp pl h1 h) (hn:h0.next≤h1.next) (k:∀ m,m<h0.next→h1.get m=h0.get m):WAns l p4 p5 p6 d ts kk gp pl h0 h :=
 ⟨Nat.le_trans hn A.next,A.hl,A.r4,A.r5,A.r6,fun m hm a b c e=>(A.keep m (Nat.lt_of_lt_of_le hm hn) a b c e).trans (k m hm)⟩
theorem WCtx.round {l pb p4 p5 p6 pg gr sz ino jr b d:Nat} {ts:Zy} {h:Go.Ev.H} (W:WCtx l pb p4 p5 p6 pg gr sz ino jr b d ts h) (kk gp fr sz' pl:Nat) (s1:kk<256) (s2:gp<1000000) (s3:fr<1000000) (s4:sz'<1000000) (s5:pl<1000000) (s6:b<9223372036854775808) (s7:fr≤b) :
  ∃ E h' r,Sound K Tryz.prog E∧Df E l (some [.g (Gm kk gp fr sz' pl)]) h (some (.loop ts 36 [17] (q115 [1,1,0,1,2,5]) (q115 [1,1,0,1,2,6]) .ready none d))=some (.val (.w (.c (.bool r))) h') ∧
   (fr+sz'≤b→r=true∧h.next≤h'.next∧∀ m,m<h.next→h'.get m=h.get m)∧(b<fr+sz'→r=false∧WAns l p4 p5 p6 d ts kk gp (pl+b - fr) h h'):=by
 obtain⟨d1,d2,d3,d4,d5,d6,l4,l5,l6,lb,b4,b5,b6,bb,bl,bg,e3,e4,e5,e6,hl,hb,⟨x4,r4⟩,⟨x5,r5⟩,⟨x6,r6⟩,hg⟩:=W
 obtain⟨E,h',r,S,rnd,n,go,st⟩:=Z0w Hh l ts pb p4 p5 p6 kk gp fr sz' pl b d h x4 x5 x6 s1 s2 s3 s4 s5 s6 s7 d1 d2 d3 d4 d5 d6 l4 l5 l6 lb b4 b5 b6 bb bl e3 e4 e5 e6 hl hb r4 r5 r6
 rw[hl] at rnd
 refine⟨E,h',r,S,rnd,fun h9=>⟨(go h9).1,n,(go h9).2⟩,fun h9=>?_⟩
 obtain⟨rr,k1,k2,k3,k4,k5⟩:=st h9
 exact⟨rr,n,k1,k2,k3,k4,k5⟩
def Ztu (jr:Nat):Nat→Nat × Nat × Nat × Nat × Nat
 | 0=>(1,0,0,1,0)
 | 1=>(2,0,1,1,0)
 | _=>(3,0,2,jr,0)
def Yc6 (jr:Nat):List C:=[.int .u8 1,.int .i64 0,.int .i64 0,.int .i64 1,.int .i64 0,.int .u8 2,.int .i64 0,.int .i64 1,.int .i64 1,.int .i64 0,.int .u8 3,.int .i64 0,.int .i64 2,.int .i64 jr,.int .i64 0]
def Zz4 (p:Nat × Nat × Nat × Nat × Nat):List C:=Gm p.1 p.2.1 p.2.2.1 p.2.2.2.1 p.2.2.2.2
def Zbw (jr:Nat):Nat→Nat
 | 0=>0
 | 1=>1
 | 2=>2
 | _=>2+jr
theorem Z1n {l pb p4 p5 p6 pg gr sz ino jr b d:Nat} {tl:Zy} (F:Fine gr sz ino jr) (s6:b<9223372036854775808):∀ (k i:Nat) (ts:Zy) (h:Go.Ev.H),i+k=3→Zbw jr i≤b→WCtx l pb p4 p5 p6 pg gr sz ino jr b d tl h→Zp ts 0=.w (.c (.yield l))→Zp ts 21=.w (.g (Yc6 jr))→Zp ts 22=.w (.c (.int .i64 i)) →
  Goes K Tryz.prog 79 none (q183 [1,1,0,1,2]) [] ts h fun x ds' ts' h'=>ds'=[]∧(∀ s,s≤3→Zp ts' s=Zp ts s)∧((x=.exit 0∧2+jr≤b∧h.next≤h'.next∧∀ m,m<h.next→h'.get m=h.get m) ∨
   (x=.ret∧∃ q,q<3∧Zbw jr q≤b∧b<Zbw jr (q+1)∧WAns l p4 p5 p6 d tl (Ztu jr q).1 0 (b - Zbw jr q) h h')):=by
 obtain⟨g1,g2,g3,g4,g5,g6,g7,g8,g9,g10,g11⟩:=F
 intro k
 induction k with
 | zero =>
  intro i ts h hi hbe W e0 e21 e22
  obtain rfl:i=3:=by omega
  refine Goes.Lm Xq (Goes.loop ?_)
  refine Goes.Zq Q8 ?_
  refine Goes.Zw X8 fits Hh Zb (by
   simp (maxSteps:=9^6) +decide (disch:=first|omega|(simp only[lens]<;>omega)|decide) only [go_sem,q183,Tryz.f183,Zc,Za,simprocAttr,e22]
   rfl) ?_
  refine Goes.Zq Wn ?_
  refine Goes.Yy Sz (by simp (maxSteps:=9^6) +decide (disch:=first|omega|(simp only[lens]<;>omega)|decide) only [go_sem,Zc,Za,simprocAttr,e22]<;>rfl) (by first|rfl|assumption|exact decide_eq_false (by omega)|(simp; omega)) ?_
  refine Goes.Zln Zjk ?_
  refine⟨rfl,fun s hs=>?_,.inl ⟨rfl,hbe,Nat.le_refl _,fun _ _=>rfl⟩⟩
  simp (decide:=true) only [Uj hs]
 | succ k ih =>
  intro i ts h hi hbe W e0 e21 e22
  obtain⟨kk,gp,fr,sz',pl,hP⟩:∃ kk gp fr sz' pl,Ztu jr i=(kk,gp,fr,sz',pl):=⟨_,_,_,_,_,rfl⟩
  have hi3:i=0∨i=1∨i=2:=by omega
  have hx:Zce K (some ti266) (Yc6 jr) (some i)=some (.g (Gm kk gp fr sz' pl))∧kk<256∧gp=0∧fr=Zbw jr i∧fr+sz'=Zbw jr (i+1)∧pl=0∧fr<1000000∧sz'<1000000:=by
   rcases hi3 with rfl|rfl|rfl<;>(simp only[Ztu,Prod.mk.injEq] at hP; obtain⟨rfl,rfl,rfl,rfl,rfl⟩:=hP; exact⟨by kernel_rfl,by omega,rfl,rfl,rfl,rfl,by omega,by omega⟩)
  obtain⟨idx,k1,rfl,k3,k4,rfl,k6,k7⟩:=hx
  have W2:=W.move (h':=(h.new (.row 5 [[.int .u8 0,.int .i64 0,.int .i64 0,.int .i64 0,.int .i64 0]] false)).put h.next (.row 5 [Gm kk 0 fr sz' 0] false)) (by rw[H.Zg,H.Ze]; omega) (fun m hm=>by rw[Zv (by omega),Y3 (by omega)])
  obtain⟨E,h2,r,S,rnd,go,st⟩:=WCtx.round Hh W2 kk 0 fr sz' 0 k1 (by omega) k6 k7 (by omega) s6 (by omega)
  have hl:=W.hl
  have bl:=W.bl
  have rp:Zc 5 [Gm kk 0 fr sz' 0] 0 5=some (Gm kk 0 fr sz' 0):=rfl
  have lp:(Gm kk 0 fr sz' 0).length=5:=rfl
  have wp:Zx 5 [[.int .u8 0,.int .i64 0,.int .i64 0,.int .i64 0,.int .i64 0]] 0 (Gm kk 0 fr sz' 0)=some [Gm kk 0 fr sz' 0]:=rfl
  by_cases hc:fr+sz'≤b
  ·obtain⟨rfl,n2,q2⟩:=go hc
   have q3:∀ m,m<h.next→h2.get m=h.get m:=fun m hm=>by
    rw[q2 m (by rw[H.Zg,H.Ze]; omega),Zv (by omega),Y3 (by omega)]
   rw[H.Zg,H.Ze] at n2
   refine Goes.Lm Xq (Goes.loop ?_)
   refine Goes.Zq Q8 ?_
   refine Goes.Zw X8 fits Hh Zb (by
    simp (maxSteps:=9^6) +decide (disch:=first|omega|(simp only[lens]<;>omega)|decide) only [go_sem,q183,Tryz.f183,Za,simprocAttr,e0,e21,e22,hl,idx,rp,lp,wp,rnd,Y6]
    rfl) ?_
   refine Goes.Zq Wn ?_
   refine Goes.Ob Sz (by simp (maxSteps:=9^6) +decide (disch:=first|omega|(simp only[lens]<;>omega)|decide) only [go_sem,Za,simprocAttr,e0,e21,e22,hl,idx,rp,lp,wp,rnd,Y6]<;>rfl) (by first|rfl|assumption|exact decide_eq_true (by omega)|(simp; omega)) ?_
   refine Goes.Jc Zar ?_
   refine Goes.Zq Zch ?_
   refine Goes.Ul Q4 (Goes.block ?_)
   refine Goes.Zq Qc ?_
   refine Goes.Zw Vp fits Hh Zb (by
    simp (maxSteps:=9^6) +decide (disch:=first|omega|(simp only[lens]<;>omega)|decide) only [go_sem,q183,Tryz.f183,Za,simprocAttr,e0,e21,e22,hl,idx,rp,lp,wp,rnd,Y6]
    rfl) ?_
   refine Goes.Zq Vq ?_
   refine Goes.Zw Sr fits Hh S (by
    simp (maxSteps:=9^6) +decide (disch:=first|omega|(simp only[lens]<;>omega)|decide) only [go_sem,q183,Tryz.f183,Za,simprocAttr,e0,e21,e22,hl,idx,rp,lp,wp,rnd,Y6]
    rfl) ?_
   refine Goes.Yy Sa (by simp (maxSteps:=9^6) +decide (disch:=first|omega|(simp only[lens]<;>omega)|decide) only [go_sem,Za,simprocAttr,e0,e21,e22,hl,idx,rp,lp,wp,rnd,Y6]<;>rfl) (by first|rfl|assumption|exact decide_eq_false (by omega)|(simp; omega)) ?_
   refine Goes.Jc Zcz ?_
   refine Goes.Zw Zku fits Hh Zb (by
    simp (maxSteps:=9^6) +decide (disch:=first|omega|(simp only[lens]<;>omega)|decide) only [go_sem,q183,Tryz.f183,Za,simprocAttr,e0,e21,e22,hl,idx,rp,lp,wp,rnd,Y6]
    rfl) ?_
   show Goes K Tryz.prog 79 none (.loop (q183 [1,1,0,1,2,2])) _ _ _ _
   rw[←Xq]
   refine (ih (i+1) _ h2 (by omega) (by omega) (W.move (by omega) q3) ?_ ?_ ?_).mono ?_
   ·simp (decide:=true) only [Zi,reduceIte,e0]
   ·simp (decide:=true) only [Zi,reduceIte,e21]
   ·simp (decide:=true) only [Zi,reduceIte]<;>rfl
   ·rintro x ds' ts' h' ⟨z1,z2,z3⟩
    refine⟨z1,fun s hs=>(z2 s hs).trans (by simp (decide:=true) only [Uj hs]),?_⟩
    rcases z3 with ⟨rfl,y1,y2,y3⟩|⟨rfl,q,y1,y2,y3,y4⟩
    ·exact .inl ⟨rfl,y1,by omega,fun m hm=>(y3 m (by omega)).trans (q3 m hm)⟩
    ·exact .inr ⟨rfl,q,y1,y2,y3,y4.back (by omega) q3⟩
  ·obtain⟨rfl,A⟩:=st (by omega)
   have A2:=A.back (h0:=h) (by rw[H.Zg,H.Ze]; omega) (fun m hm=>by rw[Zv (by omega),Y3 (by omega)])
   refine Goes.Lm Xq (Goes.loop ?_)
   refine Goes.Zq Q8 ?_
   refine Goes.Zw X8 fits Hh Zb (by
    simp (maxSteps:=9^6) +decide (disch:=first|omega|(simp only[lens]<;>omega)|decide) only [go_sem,q183,Tryz.f183,Za,simprocAttr,e0,e21,e22,hl,idx,rp,lp,wp,rnd,Y6]
    rfl) ?_
   refine Goes.Zq Wn ?_
   refine Goes.Ob Sz (by simp (maxSteps:=9^6) +decide (disch:=first|omega|(simp only[lens]<;>omega)|decide) only [go_sem,Za,simprocAttr,e0,e21,e22,hl,idx,rp,lp,wp,rnd,Y6]<;>rfl) (by first|rfl|assumption|exact decide_eq_true (by omega)|(simp; omega)) ?_
   refine Goes.Jc Zar ?_
   refine Goes.Zq Zch ?_
   refine Goes.Ul Q4 (Goes.block ?_)
   refine Goes.Zq Qc ?_
   refine Goes.Zw Vp fits Hh Zb (by
    simp (maxSteps:=9^6) +decide (disch:=first|omega|(simp only[lens]<;>omega)|decide) only [go_sem,q183,Tryz.f183,Za,simprocAttr,e0,e21,e22,hl,idx,rp,lp,wp,rnd,Y6]
    rfl) ?_
   refine Goes.Zq Vq ?_
   refine Goes.Zw Sr fits Hh S (by
    simp (maxSteps:=9^6) +decide (disch:=first|omega|(simp only[lens]<;>omega)|decide) only [go_sem,q183,Tryz.f183,Za,simprocAttr,e0,e21,e22,hl,idx,rp,lp,wp,rnd,Y6]
    rfl) ?_
   refine Goes.Ob Sa (by simp (maxSteps:=9^6) +decide (disch:=first|omega|(simp only[lens]<;>omega)|decide) only [go_sem,Za,simprocAttr,e0,e21,e22,hl,idx,rp,lp,wp,rnd,Y6]<;>rfl) (by first|rfl|assumption|exact decide_eq_true (by omega)|(simp; omega)) ?_
   refine Goes.Gl Zde ?_
   refine⟨rfl,fun s hs=>?_,.inr ⟨rfl,i,by omega,by omega,by omega,?_⟩⟩
   ·simp (decide:=true) only [Uj hs]
   ·rw[hP,←k3]
    rwa [Nat.zero_add] at A2
def Ql (sz ino jr k:Nat):Nat→Nat
 | 0=>2+jr+k * sz
 | 1=>2+jr+k * sz+1
 | 2=>2+jr+k * sz+2
 | 3=>2+jr+k * sz+2+ino / 4
 | _=>2+jr+k * sz+sz
def Znd (sz ino jr k:Nat):Nat→Nat × Nat × Nat × Nat × Nat
 | 0=>(4,k,2+jr+k * sz,1,0)
 | 1=>(5,k,2+jr+k * sz+1,1,1)
 | 2=>(6,k,2+jr+k * sz+2,ino / 4,2)
 | _=>(7,k,2+jr+k * sz+2+ino / 4,sz - 2 - ino / 4,2+ino / 4)
def Yhc (sz ino jr k:Nat):List C:=Zz4 (Znd sz ino jr k 0)++Zz4 (Znd sz ino jr k 1)++Zz4 (Znd sz ino jr k 2)++Zz4 (Znd sz ino jr k 3)
theorem Ybb {l pb p4 p5 p6 pg gr sz ino jr b d:Nat} {tl:Zy} (F:Fine gr sz ino jr) (s6:b<9223372036854775808) {k0:Nat} (hk0:k0<gr):∀ (k i:Nat) (ts:Zy) (h:Go.Ev.H),i+k=4→Ql sz ino jr k0 i≤b→WCtx l pb p4 p5 p6 pg gr sz ino jr b d tl h→Zp ts 0=.w (.c (.yield l))→Zp ts 69=.w (.g (Yhc sz ino jr k0))→Zp ts 70=.w (.c (.int .i64 i)) →
  Goes K Tryz.prog 79 none (q183 [1,1,1,1,2,2,1,1,0,2,1,1,1,1,2]) [] ts h fun x ds' ts' h'=>ds'=[]∧(∀ s,s≤8∨s=31∨s=32→Zp ts' s=Zp ts s)∧((x=.exit 4∧2+jr+k0 * sz+sz≤b∧h.next≤h'.next∧∀ m,m<h.next→h'.get m=h.get m) ∨
   (x=.ret∧∃ q,q<4∧Ql sz ino jr k0 q≤b∧b<Ql sz ino jr k0 (q+1)∧WAns l p4 p5 p6 d tl (Znd sz ino jr k0 q).1 k0 (b - Ql sz ino jr k0 0) h h')):=by
 obtain⟨g1,g2,g3,g4,g5,g6,g7,g8,g9,g10,g11⟩:=F
 intro k
 induction k with
 | zero =>
  intro i ts h hi hbe W e0 e69 e70
  obtain rfl:i=4:=by omega
  refine Goes.Lm O5 (Goes.loop ?_)
  refine Goes.Zq Bw ?_
  refine Goes.Zw Be fits Hh Zb (by
   simp (maxSteps:=9^6) +decide (disch:=first|omega|(simp only[lens]<;>omega)|decide) only [go_sem,q183,Tryz.f183,Zc,Za,simprocAttr,e70]
   rfl) ?_
  refine Goes.Zq Bb ?_
  refine Goes.Yy Gr (by simp (maxSteps:=9^6) +decide (disch:=first|omega|(simp only[lens]<;>omega)|decide) only [go_sem,Zc,Za,simprocAttr,e70]<;>rfl) (by first|rfl|assumption|exact decide_eq_false (by omega)|(simp; omega)) ?_
  refine Goes.Zln Tt ?_
  refine⟨rfl,fun s hs=>?_,.inl ⟨rfl,hbe,Nat.le_refl _,fun _ _=>rfl⟩⟩
  rcases hs with hs|rfl|rfl<;>first|(simp (decide:=true) only [Uj hs])|(simp (decide:=true) only [Zi,reduceIte])
 | succ k ih =>
  intro i ts h hi hbe W e0 e69 e70
  obtain⟨kk,gp,fr,sz',pl,hP⟩:∃ kk gp fr sz' pl,Znd sz ino jr k0 i=(kk,gp,fr,sz',pl):=⟨_,_,_,_,_,rfl⟩
  have m1:k0 * sz+sz≤gr * sz:=by
   have:=Nat.mul_le_mul_right sz (show k0+1≤gr by omega)
   rw[Nat.add_mul] at this
   omega
  have hi3:i=0∨i=1∨i=2∨i=3:=by omega
  have hx:Zce K (some ti267) (Yhc sz ino jr k0) (some i)=some (.g (Gm kk gp fr sz' pl))∧kk<256∧k0=gp∧fr=Ql sz ino jr k0 i∧fr+sz'=Ql sz ino jr k0 (i+1)∧pl+Ql sz ino jr k0 0=fr∧fr<1000000∧sz'<1000000:=by
   rcases hi3 with rfl|rfl|rfl|rfl<;>(simp only[Znd,Prod.mk.injEq] at hP; obtain⟨rfl,rfl,rfl,rfl,rfl⟩:=hP; refine⟨by kernel_rfl,by omega,rfl,rfl,?_,?_,?_,?_⟩<;>first|rfl|(simp only[Ql,Nat.reduceAdd,Nat.zero_add]<;>omega)|omega)
  obtain⟨idx,k1,rfl,k3,k4,k5,k6,k7⟩:=hx
  have W2:=W.move (h':=(h.new (.row 5 [[.int .u8 0,.int .i64 0,.int .i64 0,.int .i64 0,.int .i64 0]] false)).put h.next (.row 5 [Gm kk k0 fr sz' pl] false)) (by rw[H.Zg,H.Ze]; omega) (fun m hm=>by rw[Zv (by omega),Y3 (by omega)])
  obtain⟨E,h2,r,S,rnd,go,st⟩:=WCtx.round Hh W2 kk k0 fr sz' pl k1 (by omega) k6 k7 (by omega) s6 (by omega)
  have hl:=W.hl
  have bl:=W.bl
  have rp:Zc 5 [Gm kk k0 fr sz' pl] 0 5=some (Gm kk k0 fr sz' pl):=rfl
  have lp:(Gm kk k0 fr sz' pl).length=5:=rfl
  have wp:Zx 5 [[.int .u8 0,.int .i64 0,.int .i64 0,.int .i64 0,.int .i64 0]] 0 (Gm kk k0 fr sz' pl)=some [Gm kk k0 fr sz' pl]:=rfl
  by_cases hc:fr+sz'≤b
  ·obtain⟨rfl,n2,q2⟩:=go hc
   have q3:∀ m,m<h.next→h2.get m=h.get m:=fun m hm=>by
    rw[q2 m (by rw[H.Zg,H.Ze]; omega),Zv (by omega),Y3 (by omega)]
   rw[H.Zg,H.Ze] at n2
   refine Goes.Lm O5 (Goes.loop ?_)
   refine Goes.Zq Bw ?_
   refine Goes.Zw Be fits Hh Zb (by
    simp (maxSteps:=9^6) +decide (disch:=first|omega|(simp only[lens]<;>omega)|decide) only [go_sem,q183,Tryz.f183,Za,simprocAttr,e0,e69,e70,hl,idx,rp,lp,wp,rnd,Y6]
    rfl) ?_
   refine Goes.Zq Bb ?_
   refine Goes.Ob Gr (by simp (maxSteps:=9^6) +decide (disch:=first|omega|(simp only[lens]<;>omega)|decide) only [go_sem,Za,simprocAttr,e0,e69,e70,hl,idx,rp,lp,wp,rnd,Y6]<;>rfl) (by first|rfl|assumption|exact decide_eq_true (by omega)|(simp; omega)) ?_
   refine Goes.Jc Ey ?_
   refine Goes.Zq Fv ?_
   refine Goes.Ul E5 (Goes.block ?_)
   refine Goes.Zq Eo ?_
   refine Goes.Zw D6 fits Hh Zb (by
    simp (maxSteps:=9^6) +decide (disch:=first|omega|(simp only[lens]<;>omega)|decide) only [go_sem,q183,Tryz.f183,Za,simprocAttr,e0,e69,e70,hl,idx,rp,lp,wp,rnd,Y6]
    rfl) ?_
   refine Goes.Zq Dy ?_
   refine Goes.Zw Dc fits Hh S (by
    simp (maxSteps:=9^6) +decide (disch:=first|omega|(simp only[lens]<;>omega)|decide) only [go_sem,q183,Tryz.f183,Za,simprocAttr,e0,e69,e70,hl,idx,rp,lp,wp,rnd,Y6]
    rfl) ?_
   refine Goes.Yy Dn (by simp (maxSteps:=9^6) +decide (disch:=first|omega|(simp only[lens]<;>omega)|decide) only [go_sem,Za,simprocAttr,e0,e69,e70,hl,idx,rp,lp,wp,rnd,Y6]<;>rfl) (by first|rfl|assumption|exact decide_eq_false (by omega)|(simp; omega)) ?_
   refine Goes.Jc Nk ?_
   refine Goes.Zw Tc fits Hh Zb (by
    simp (maxSteps:=9^6) +decide (disch:=first|omega|(simp only[lens]<;>omega)|decide) only [go_sem,q183,Tryz.f183,Za,simprocAttr,e0,e69,e70,hl,idx,rp,lp,wp,rnd,Y6]
    rfl) ?_
   show Goes K Tryz.prog 79 none (.loop (q183 [1,1,1,1,2,2,1,1,0,2,1,1,1,1,2,2])) _ _ _ _
   rw[←O5]
   refine (ih (i+1) _ h2 (by omega) (by omega) (W.move (by omega) q3) ?_ ?_ ?_).mono ?_
   ·simp (decide:=true) only [Zi,reduceIte,e0]
   ·simp (decide:=true) only [Zi,reduceIte,e69]
   ·simp (decide:=true) only [Zi,reduceIte]<;>rfl
   ·rintro x ds' ts' h' ⟨z1,z2,z3⟩
    refine⟨z1,fun s hs=>(z2 s hs).trans (by rcases hs with hs|rfl|rfl<;>first|(simp (decide:=true) only [Uj hs])|(simp (decide:=true) only [Zi,reduceIte])),?_⟩
    rcases z3 with ⟨rfl,y1,y2,y3⟩|⟨rfl,q,y1,y2,y3,y4⟩
    ·exact .inl ⟨rfl,y1,by omega,fun m hm=>(y3 m (by omega)).trans (q3 m hm)⟩
    ·exact .inr ⟨rfl,q,y1,y2,y3,y4.back (by omega) q3⟩
  ·obtain⟨rfl,A⟩:=st (by omega)
   have A2:=A.back (h0:=h) (by rw[H.Zg,H.Ze]; omega) (fun m hm=>by rw[Zv (by omega),Y3 (by omega)])
   refine Goes.Lm O5 (Goes.loop ?_)
   refine Goes.Zq Bw ?_
   refine Goes.Zw Be fits Hh Zb (by
    simp (maxSteps:=9^6) +decide (disch:=first|omega|(simp only[lens]<;>omega)|decide) only [go_sem,q183,Tryz.f183,Za,simprocAttr,e0,e69,e70,hl,idx,rp,lp,wp,rnd,Y6]
    rfl) ?_
   refine Goes.Zq Bb ?_
   refine Goes.Ob Gr (by simp (maxSteps:=9^6) +decide (disch:=first|omega|(simp only[lens]<;>omega)|decide) only [go_sem,Za,simprocAttr,e0,e69,e70,hl,idx,rp,lp,wp,rnd,Y6]<;>rfl) (by first|rfl|assumption|exact decide_eq_true (by omega)|(simp; omega)) ?_
   refine Goes.Jc Ey ?_
   refine Goes.Zq Fv ?_
   refine Goes.Ul E5 (Goes.block ?_)
   refine Goes.Zq Eo ?_
   refine Goes.Zw D6 fits Hh Zb (by
    simp (maxSteps:=9^6) +decide (disch:=first|omega|(simp only[lens]<;>omega)|decide) only [go_sem,q183,Tryz.f183,Za,simprocAttr,e0,e69,e70,hl,idx,rp,lp,wp,rnd,Y6]
    rfl) ?_
   refine Goes.Zq Dy ?_
   refine Goes.Zw Dc fits Hh S (by
    simp (maxSteps:=9^6) +decide (disch:=first|omega|(simp only[lens]<;>omega)|decide) only [go_sem,q183,Tryz.f183,Za,simprocAttr,e0,e69,e70,hl,idx,rp,lp,wp,rnd,Y6]
    rfl) ?_
   refine Goes.Ob Dn (by simp (maxSteps:=9^6) +decide (disch:=first|omega|(simp only[lens]<;>omega)|decide) only [go_sem,Za,simprocAttr,e0,e69,e70,hl,idx,rp,lp,wp,rnd,Y6]<;>rfl) (by first|rfl|assumption|exact decide_eq_true (by omega)|(simp; omega)) ?_
   refine Goes.Gl Nn ?_
   refine⟨rfl,fun s hs=>?_,.inr ⟨rfl,i,by omega,by omega,by omega,?_⟩⟩
   ·rcases hs with hs|rfl|rfl<;>first|(simp (decide:=true) only [Uj hs])|(simp (decide:=true) only [Zi,reduceIte])
   ·rw[hP]
    rwa [show pl+b - fr=b - Ql sz ino jr k0 0 by omega] at A2
end
end Go.Proofs.YtmdibcklpmeleaaGreatDoor
set_option maxRecDepth 100000
namespace Go.Proofs.YtmdibcklpmeleaaGreatDoor
open Go.Ev
theorem Yd1 (a1 a2 a3 a4 a5 b1 b2 b3 b4 b5 c1 c2 c3 c4 c5:C):Yi K 266 (some [(0,.g [a1,a2,a3,a4,a5]),(1,.g [b1,b2,b3,b4,b5]),(2,.g [c1,c2,c3,c4,c5])])=some (.g [a1,a2,a3,a4,a5,b1,b2,b3,b4,b5,c1,c2,c3,c4,c5]):=by kernel_rfl
theorem Z31 (a1 a2 a3 a4 a5 b1 b2 b3 b4 b5 c1 c2 c3 c4 c5 d1 d2 d3 d4 d5:C):Yi K 267 (some [(0,.g [a1,a2,a3,a4,a5]),(1,.g [b1,b2,b3,b4,b5]),(2,.g [c1,c2,c3,c4,c5]),(3,.g [d1,d2,d3,d4,d5])])=some (.g [a1,a2,a3,a4,a5,b1,b2,b3,b4,b5,c1,c2,c3,c4,c5,d1,d2,d3,d4,d5]):=by kernel_rfl
theorem wrP {x y:List C} {n:Nat} (hx:x.length=n) (hy:y.length=n) (h:0<n):Zx n [x] 0 y=some [y]:=by
 subst hy
 exact Xx h hx
theorem rdP {x:List C} {n:Nat} (hx:x.length=n) (h:0<n):Zc n [x] 0 n=some x:=by
 subst hx
 exact Q6 h
section
variable (Hh:Hearts K Tryz.prog)
include Hh
set_option maxHeartbeats 4000000 in
theorem Z4c {l pb p4 p5 p6 pg gr sz ino jr b d:Nat} {tl:Zy} (F:Fine gr sz ino jr) (s6:b<9223372036854775808):∀ (m k:Nat) (ts:Zy) (h:Go.Ev.H),k+m=gr→2+jr+k * sz≤b→WCtx l pb p4 p5 p6 pg gr sz ino jr b d tl h→Zp ts 0=.w (.c (.yield l))→Zp ts 1=.w (.c (.ptr pg 0))→Zp ts 3=.w (.c (.int .i64 ((ino / 4:Nat):Int)))→Zp ts 31=.w (.c (.int .i64 gr))→Zp ts 32=.w (.c (.int .i64 k)) →
  Goes K Tryz.prog 79 none (q183 [1,1,1,1,2]) [] ts h fun x ds' ts' h'=>ds'=[]∧((x=.exit 2∧2+jr+gr * sz≤b∧h.next≤h'.next∧∀ m,m<h.next→h'.get m=h.get m) ∨
   (x=.ret∧∃ k0 q,k0<gr∧q<4∧Ql sz ino jr k0 q≤b∧b<Ql sz ino jr k0 (q+1)∧WAns l p4 p5 p6 d tl (Znd sz ino jr k0 q).1 k0 (b - Ql sz ino jr k0 0) h h')):=by
 have F':=F
 obtain⟨g1,g2,g3,g4,g5,g6,g7,g8,g9,g10,g11⟩:=F'
 intro m
 induction m with
 | zero =>
  intro k ts h hk hb W e0 e1 e3 e31 e32
  obtain rfl:k=gr:=by omega
  refine Goes.Lm Zcu (Goes.loop ?_)
  refine Goes.Zq Zht ?_
  refine Goes.Zw Zdq fits Hh Zb (by
   simp (maxSteps:=9^6) +decide (disch:=first|omega|(simp only[lens]<;>omega)|decide) only [go_sem,q183,Tryz.f183,Zc,Za,simprocAttr,e31,e32]
   rfl) ?_
  refine Goes.Zq Ze4 ?_
  refine Goes.Yy Zb9 (by simp (maxSteps:=9^6) +decide (disch:=first|omega|(simp only[lens]<;>omega)|decide) only [go_sem,Zc,Za,simprocAttr,e31,e32]<;>rfl) (by first|rfl|assumption|exact decide_eq_false (by omega)|(simp; omega)) ?_
  refine Goes.Zln Zk2 ?_
  exact⟨rfl,.inl ⟨rfl,hb,Nat.le_refl _,fun _ _=>rfl⟩⟩
 | succ m ih =>
  intro k ts h hk hb W e0 e1 e3 e31 e32
  have hk0:k<gr:=by omega
  have gm:(k:Int) * (sz:Int)=((k * sz:Nat):Int):=rfl
  have b1:k * sz≤gr * sz:=Nat.mul_le_mul (by omega) (by omega)
  have n1:(2:Int)+(jr:Int)=((2+jr:Nat):Int):=rfl
  have n2:((2+jr:Nat):Int)+((k * sz:Nat):Int)=((2+jr+k * sz:Nat):Int):=rfl
  have n3:((2+jr+k * sz:Nat):Int)+1=((2+jr+k * sz+1:Nat):Int):=rfl
  have n4:((2+jr+k * sz:Nat):Int)+2=((2+jr+k * sz+2:Nat):Int):=rfl
  have n5:((2+jr+k * sz+2:Nat):Int)+((ino / 4:Nat):Int)=((2+jr+k * sz+2+ino / 4:Nat):Int):=rfl
  have n6:(sz:Int) - 2=((sz - 2:Nat):Int):=by omega
  have n7:((sz - 2:Nat):Int) - ((ino / 4:Nat):Int)=((sz - 2 - ino / 4:Nat):Int):=by omega
  have n8:(2:Int)+((ino / 4:Nat):Int)=((2+ino / 4:Nat):Int):=rfl
  have hg:=W.hg
  have bg:=W.bg
  have bl:=W.bl
  refine Goes.Lm Zcu (Goes.loop ?_)
  refine Goes.Zq Zht ?_
  refine Goes.Zw Zdq fits Hh Zb (by
   simp (maxSteps:=9^6) +decide (disch:=first|omega|(simp only[lens]<;>omega)|decide) only [go_sem,q183,Tryz.f183,Za,simprocAttr,e0,e1,e3,e31,e32,hg,Yf,gm,n1,n2,n3,n4,n5,n6,n7,n8,Z31,wrP,rdP,read1]
   rfl) ?_
  refine Goes.Zq Ze4 ?_
  refine Goes.Ob Zb9 (by simp (maxSteps:=9^6) +decide (disch:=first|omega|(simp only[lens]<;>omega)|decide) only [go_sem,Za,simprocAttr,e0,e1,e3,e31,e32,hg,Yf,gm,n1,n2,n3,n4,n5,n6,n7,n8,Z31,wrP,rdP,read1]<;>rfl) (by first|rfl|assumption|exact decide_eq_true (by omega)|(simp; omega)) ?_
  refine Goes.Jc Zj4 ?_
  refine Goes.Zq Zms ?_
  refine Goes.Ul Zjy (Goes.block ?_)
  refine Goes.Zq Zih ?_
  refine Goes.Zw Zgq fits Hh Zb (by
   simp (maxSteps:=9^6) +decide (disch:=first|omega|(simp only[lens]<;>omega)|decide) only [go_sem,q183,Tryz.f183,Za,simprocAttr,e0,e1,e3,e31,e32,hg,Yf,gm,n1,n2,n3,n4,n5,n6,n7,n8,Z31,wrP,rdP,read1]
   rfl) ?_
  refine Goes.Zq Zgc ?_
  refine Goes.Zw Zef fits Hh Zb (by
   simp (maxSteps:=9^6) +decide (disch:=first|omega|(simp only[lens]<;>omega)|decide) only [go_sem,q183,Tryz.f183,Za,simprocAttr,e0,e1,e3,e31,e32,hg,Yf,gm,n1,n2,n3,n4,n5,n6,n7,n8,Z31,wrP,rdP,read1]
   rfl) ?_
  refine Goes.Zq Zeh ?_
  refine Goes.Zw Zdb fits Hh Zb (by
   simp only[q183,Tryz.f183,piece,part0,part1,part2,Yh,part3,part4,part5,part6,Z5,Zt]
   iterate 28 (refine Fb (by simp (maxSteps:=9^6) +decide (disch:=first|omega|(simp only[lens]<;>omega)|decide) only [go_sem,Za,simprocAttr,e0,e1,e3,e31,e32,hg,Yf,gm,n1,n2,n3,n4,n5,n6,n7,n8,Z31,wrP,rdP,read1]<;>rfl) ?_)
   exact Fh) ?_
  refine Goes.Zq Zcw ?_
  refine Goes.Zw Zbj fits Hh Zb (by
   simp (maxSteps:=9^6) +decide (disch:=first|omega|(simp only[lens]<;>omega)|decide) only [go_sem,q183,Tryz.f183,Za,simprocAttr,e0,e1,e3,e31,e32,hg,Yf,gm,n1,n2,n3,n4,n5,n6,n7,n8,Z31,wrP,rdP,read1]
   rfl) ?_
  refine Goes.Ul Zbh (Goes.block ?_)
  refine (Ybb Hh F s6 hk0 4 0 _ _ (by omega) (by show 2+jr+k * sz≤b; omega) (W.move ?_ ?_) ?_ ?_ ?_).mono ?_
  ·simp only[H.Zg,H.Ze]<;>omega
  ·intro m' hm
   rw[Zv (by omega),Y3 (by omega)]
  ·simp (decide:=true) only [Zi,reduceIte,e0]
  ·simp (decide:=true) only [Zi,reduceIte]<;>rfl
  ·simp (decide:=true) only [Zi,reduceIte]<;>rfl
  rintro x ds' ts' h' ⟨rfl,tsk,⟨rfl,y1,y2,y3⟩|⟨rfl,q,y1,y2,y3,y4⟩⟩
  ·have f0:Zp ts' 0=.w (.c (.yield l)):=(tsk 0 (.inl (by decide))).trans (by simp (decide:=true) only [Zi,reduceIte,e0])
   have f1:Zp ts' 1=.w (.c (.ptr pg 0)):=(tsk 1 (.inl (by decide))).trans (by simp (decide:=true) only [Zi,reduceIte,e1])
   have f3:Zp ts' 3=.w (.c (.int .i64 ((ino / 4:Nat):Int))):=(tsk 3 (.inl (by decide))).trans (by simp (decide:=true) only [Zi,reduceIte,e3])
   have f31:Zp ts' 31=.w (.c (.int .i64 gr)):=(tsk 31 (.inr (.inl rfl))).trans (by simp (decide:=true) only [Zi,reduceIte,e31])
   have f32:Zp ts' 32=.w (.c (.int .i64 k)):=(tsk 32 (.inr (.inr rfl))).trans (by simp (decide:=true) only [Zi,reduceIte,e32])
   simp only[H.Zg,H.Ze] at y2 y3
   have y4:∀ m,m<h.next→h'.get m=h.get m:=fun m' hm=>by
    rw[y3 m' (by omega),Zv (by omega),Y3 (by omega)]
   have mu:(k+1) * sz=k * sz+sz:=by rw[Nat.add_mul,Nat.one_mul]
   refine Goes.Zw Zk3 fits Hh Zb (by
    simp (maxSteps:=9^6) +decide (disch:=first|omega|(simp only[lens]<;>omega)|decide) only [go_sem,q183,Tryz.f183,Zc,Za,simprocAttr,f0,f1,f3,f31,f32]
    rfl) ?_
   show Goes K Tryz.prog 79 none (.loop (q183 [1,1,1,1,2,2])) _ _ _ _
   rw[←Zcu]
   refine (ih (k+1) _ h' (by omega) (by omega) (W.move (by omega) y4) ?_ ?_ ?_ ?_ ?_).mono ?_
   ·simp (decide:=true) only [Zi,reduceIte,f0]
   ·simp (decide:=true) only [Zi,reduceIte,f1]
   ·simp (decide:=true) only [Zi,reduceIte,f3]
   ·simp (decide:=true) only [Zi,reduceIte,f31]
   ·simp (decide:=true) only [Zi,reduceIte]<;>rfl
   rintro x ds' ts2 h2 ⟨z1,z3⟩
   refine⟨z1,?_⟩
   rcases z3 with ⟨rfl,z4,z5,z6⟩|⟨rfl,k0,q,z4,z5,z6,z7,z8⟩
   ·exact .inl ⟨rfl,z4,by omega,fun m' hm=>(z6 m' (by omega)).trans (y4 m' hm)⟩
   ·exact .inr ⟨rfl,k0,q,z4,z5,z6,z7,z8.back (by omega) y4⟩
  ·exact⟨rfl,.inr ⟨rfl,k,q,hk0,y1,y2,y3,y4.back (by simp only[H.Zg,H.Ze]<;>omega) (fun m' hm=>by rw[Zv (by omega),Y3 (by omega)])⟩⟩
def Ee (gr sz ino jr b:Nat):Nat × Nat × Nat :=
 if b=0 then (1,0,0) else if b=1 then (2,0,0) else if b<2+jr then (3,0,b - 2) else if 2+jr+gr * sz≤b then (0,0,0)
 else ((if (b - 2 - jr) % sz=0 then 4 else if (b - 2 - jr) % sz=1 then 5 else if (b - 2 - jr) % sz<2+ino / 4 then 6 else 7),(b - 2 - jr) / sz,(b - 2 - jr) % sz)
omit Hh in
theorem Zyg {gr sz ino jr b q:Nat} (F:Fine gr sz ino jr) (hq:q<3) (h1:Zbw jr q≤b) (h2:b<Zbw jr (q+1)):Ee gr sz ino jr b=((Ztu jr q).1,0,b - Zbw jr q):=by
 obtain⟨g1,g2,g3,g4,g5,g6,g7,g8,g9,g10,g11⟩:=F
 have:q=0∨q=1∨q=2:=by omega
 unfold Ee
 rcases this with rfl|rfl|rfl<;>simp only[Zbw,Ztu,Nat.reduceAdd] at h1 h2 ⊢
 ·obtain rfl:b=0:=by omega
  rfl
 ·obtain rfl:b=1:=by omega
  rfl
 ·rw[if_neg (by omega),if_neg (by omega),if_pos (by omega)]
omit Hh in
theorem Zsp {gr sz ino jr b k q:Nat} (F:Fine gr sz ino jr) (hk:k<gr) (hq:q<4) (h1:Ql sz ino jr k q≤b) (h2:b<Ql sz ino jr k (q+1)):Ee gr sz ino jr b=((Znd sz ino jr k q).1,k,b - Ql sz ino jr k 0):=by
 obtain⟨g1,g2,g3,g4,g5,g6,g7,g8,g9,g10,g11⟩:=F
 have m1:k * sz+sz≤gr * sz:=by
  have:=Nat.mul_le_mul_right sz (show k+1≤gr by omega)
  rw[Nat.add_mul] at this
  omega
 have e0:Ql sz ino jr k 0=2+jr+k * sz:=rfl
 have r1:2+jr+k * sz≤b∧b<2+jr+k * sz+sz:=by
  have:q=0∨q=1∨q=2∨q=3:=by omega
  rcases this with rfl|rfl|rfl|rfl<;>simp only[Ql,Nat.reduceAdd] at h1 h2<;>omega
 obtain⟨p,hp⟩:∃ p,b=2+jr+k * sz+p:=⟨b - (2+jr+k * sz),by omega⟩
 have hps:p<sz:=by omega
 have d1:b - 2 - jr=p+k * sz:=by omega
 have d2:(b - 2 - jr) / sz=k:=by rw[d1,Nat.add_mul_div_right _ _ (by omega),Nat.div_eq_of_lt hps,Nat.zero_add]
 have d3:(b - 2 - jr) % sz=p:=by rw[d1,Nat.add_mul_mod_self_right,Nat.mod_eq_of_lt hps]
 unfold Ee
 rw[if_neg (by omega),if_neg (by omega),if_neg (by omega),if_neg (by omega),d2,d3,e0]
 have:q=0∨q=1∨q=2∨q=3:=by omega
 rcases this with rfl|rfl|rfl|rfl<;>simp only[Ql,Znd,Nat.reduceAdd] at h1 h2 ⊢
 ·rw[if_pos (by omega)]; congr 2; omega
 ·rw[if_neg (by omega),if_pos (by omega)]; congr 2; omega
 ·rw[if_neg (by omega),if_neg (by omega),if_pos (by omega)]; congr 2; omega
 ·rw[if_neg (by omega),if_neg (by omega),if_neg (by omega)]; congr 2; omega
end
end Go.Proofs.YtmdibcklpmeleaaGreatDoor
set_option maxRecDepth 100000
namespace Go.Proofs.YtmdibcklpmeleaaGreatDoor
open Go.Ev
section
variable (Hh:Hearts K Tryz.prog)
include Hh
theorem Z89 (gr sz ino jr:Nat) (h:Go.Ev.H):Zd K Tryz.prog 151 [.g (Yf gr sz ino jr)] h (.w (.c (.fn 183 [] [some (h.next,0)]))) (h.new (.row 4 [Yf gr sz ino jr] false)):=by
 refine Zd.goes fits Hh (by kernel_rfl) (by kernel_rfl) (by kernel_rfl) (show Tryz.f151.body=some (q151 []) by kernel_rfl) rfl ?_
 show Goes K Tryz.prog 4 none _ _ _ _ _
 refine Goes.Zq Ygk ?_
 refine Goes.Zw q151_0 fits Hh Zb (by
  simp (maxSteps:=9^6) +decide (disch:=first|omega|(simp only[lens]<;>omega)|decide) only [go_sem,q151,Tryz.f151,Zc,Za,simprocAttr,Zn,Yf]
  rfl) ?_
 refine Goes.Zq q151_1 ?_
 refine Goes.Zw Ycc fits Hh Zb (by
  simp (maxSteps:=9^6) +decide (disch:=first|omega|(simp only[lens]<;>omega)|decide) only [go_sem,q151,Tryz.f151,Zc,Za,simprocAttr,Zn,Yf]
  rfl) ?_
 refine Goes.Gl Ycz ?_
 simp (maxSteps:=9^6) +decide (disch:=first|omega|(simp only[lens]<;>omega)|decide) only [go_sem,Zc,Za,simprocAttr,Zn,Yf]<;>rfl
set_option maxHeartbeats 4000000 in
theorem Ziq {l pb p4 p5 p6 pg gr sz ino jr b d:Nat} {tl:Zy} (F:Fine gr sz ino jr) (s6:b<9223372036854775808) {h:Go.Ev.H} (W:WCtx l pb p4 p5 p6 pg gr sz ino jr b d tl h) :
  ∃ v h',Zd K Tryz.prog 183 [.c (.yield l),.c (.ptr pg 0)] h v h'∧((2+jr+gr * sz≤b∧h.next≤h'.next∧∀ m,m<h.next→h'.get m=h.get m)∨WAns l p4 p5 p6 d tl (Ee gr sz ino jr b).1 (Ee gr sz ino jr b).2.1 (Ee gr sz ino jr b).2.2 h h'):=by
 have F':=F
 obtain⟨g1,g2,g3,g4,g5,g6,g7,g8,g9,g10,g11⟩:=F'
 have hg:=W.hg
 have bg:=W.bg
 have bl:=W.bl
 have q1:V5 .i64 (ino:Int) 4=some (.int .i64 ((ino / 4:Nat):Int)):=Lt (b:=4) (by omega) (by omega)
 refine Zd.Ya fits Hh (by kernel_rfl) (by kernel_rfl) (by kernel_rfl) (show Tryz.f183.body=some (q183 []) by kernel_rfl) rfl ?_
 show Goes K Tryz.prog 79 none _ _ _ _ _
 refine Goes.Zq Yhq ?_
 refine Goes.Zw q183_0 fits Hh Zb (by
  simp (maxSteps:=9^6) +decide (disch:=first|omega|(simp only[lens]<;>omega)|decide) only [go_sem,q183,Tryz.f183,Za,simprocAttr,hg,Yf,q1,Yd1,wrP,rdP,read1]
  rfl) ?_
 refine Goes.Zq q183_1 ?_
 refine Goes.Zw Z9o fits Hh Zb (by
  simp (maxSteps:=9^6) +decide (disch:=first|omega|(simp only[lens]<;>omega)|decide) only [go_sem,q183,Tryz.f183,Za,simprocAttr,hg,Yf,q1,Yd1,wrP,rdP,read1]
  rfl) ?_
 refine Goes.Zq Ybu ?_
 refine Goes.Zq Z57 ?_
 refine Goes.Zw Z0x fits Hh Zb (by
  simp (maxSteps:=9^6) +decide (disch:=first|omega|(simp only[lens]<;>omega)|decide) only [go_sem,q183,Tryz.f183,Za,simprocAttr,hg,Yf,q1,Yd1,wrP,rdP,read1]
  rfl) ?_
 refine Goes.Ul Z03 (Goes.block ?_)
 refine (Z1n Hh F s6 3 0 _ _ (by omega) (Nat.zero_le _) (W.move ?_ ?_) ?_ ?_ ?_).mono ?_
 ·simp only[H.Zg,H.Ze]<;>omega
 ·intro m' hm
  rw[Zv (by omega),Y3 (by omega)]
 ·simp (decide:=true) only [Zi,reduceIte,U9,List.getElem?_cons_zero]
 ·simp (decide:=true) only [Zi,reduceIte]<;>rfl
 ·simp (decide:=true) only [Zi,reduceIte]<;>rfl
 rintro x ds' ts' h' ⟨rfl,tsk,⟨rfl,y1,y2,y3⟩|⟨rfl,q,y1,y2,y3,y4⟩⟩
 ·have f0:Zp ts' 0=.w (.c (.yield l)):=(tsk 0 (by decide)).trans (by simp (decide:=true) only [Zi,reduceIte,U9,List.getElem?_cons_zero])
  have f1:Zp ts' 1=.w (.c (.ptr pg 0)):=(tsk 1 (by decide)).trans (by simp (decide:=true) only [Zi,reduceIte,U9,List.getElem?_cons_succ,List.getElem?_cons_zero])
  have f3:Zp ts' 3=.w (.c (.int .i64 ((ino / 4:Nat):Int))):=(tsk 3 (by decide)).trans (by simp (decide:=true) only [Zi,reduceIte])
  simp only[H.Zg,H.Ze] at y2 y3
  have y4:∀ m,m<h.next→h'.get m=h.get m:=fun m' hm=>by
   rw[y3 m' (by omega),Zv (by omega),Y3 (by omega)]
  have W2:=W.move (by omega) y4
  have hg2:=W2.hg
  refine Goes.Zq Z4k ?_
  refine Goes.Zw Z04 fits Hh Zb (by
   simp (maxSteps:=9^6) +decide (disch:=first|omega|(simp only[lens]<;>omega)|decide) only [go_sem,q183,Tryz.f183,Zc,Za,simprocAttr,f0,f1,f3,hg2,Yf,read1]
   rfl) ?_
  refine Goes.Ul Z0j (Goes.block ?_)
  refine (Z4c Hh F s6 gr 0 _ _ (by omega) (by omega) W2 ?_ ?_ ?_ ?_ ?_).mono ?_
  ·simp (decide:=true) only [Zi,reduceIte,f0]
  ·simp (decide:=true) only [Zi,reduceIte,f1]
  ·simp (decide:=true) only [Zi,reduceIte,f3]
  ·simp (decide:=true) only [Zi,reduceIte]
  ·simp (decide:=true) only [Zi,reduceIte]<;>rfl
  rintro x ds' ts2 h2 ⟨rfl,⟨rfl,z4,z5,z6⟩|⟨rfl,k0,q,z4,z5,z6,z7,z8⟩⟩
  ·
   exact⟨_,_,(by simp (maxSteps:=9^6) +decide (disch:=first|omega|(simp only[lens]<;>omega)|decide) only [go_sem,Zc,Za,simprocAttr]<;>rfl),.inl ⟨z4,by omega,fun m hm=>(z6 m (by omega)).trans (y4 m hm)⟩⟩
  ·refine⟨_,_,(by simp (maxSteps:=9^6) +decide (disch:=first|omega|(simp only[lens]<;>omega)|decide) only [go_sem,Zc,Za,simprocAttr]<;>rfl),.inr ?_⟩
   rw[Zsp F z4 z5 z6 z7]
   exact z8.back (by omega) y4
 ·refine⟨_,_,(by simp (maxSteps:=9^6) +decide (disch:=first|omega|(simp only[lens]<;>omega)|decide) only [go_sem,Zc,Za,simprocAttr]<;>rfl),.inr ?_⟩
  rw[Zyg F y1 y2 y3]
  exact y4.back (by simp only[H.Zg,H.Ze]<;>omega) (fun m hm=>by rw[Zv (by omega),Y3 (by omega)])
theorem Z4v {gr sz ino jr b pb p4 p5 p6 pg:Nat} (F:Fine gr sz ino jr) (s6:b<9223372036854775808) (ts:Zy) (h:Go.Ev.H) (d1:p4≠p5) (d2:p4≠p6) (d3:p5≠p6) (d4:pb≠p4) (d5:pb≠p5) (d6:pb≠p6) (b4:p4<h.next) (b5:p5<h.next) (b6:p6<h.next) (bb:pb<h.next) (bg:pg<h.next)
  (e3:Zp ts 3=.w (.c (.ptr pb 0))) (e4:Zp ts 4=.w (.c (.ptr p4 0))) (e5:Zp ts 5=.w (.c (.ptr p5 0))) (e6:Zp ts 6=.w (.c (.ptr p6 0))) (e16:Zp ts 16=.w (.c (.fn 183 [] [some (pg,0)])))
  (hb:h.get pb=some (.row 1 [[.int .i64 b]] false)) (r4:∃ x,h.get p4=some (.row 1 [[x]] false)) (r5:∃ x,h.get p5=some (.row 1 [[x]] false)) (r6:∃ x,h.get p6=some (.row 1 [[x]] false)) (hg:h.get pg=some (.row 4 [Yf gr sz ino jr] false)) :
  Goes K Tryz.prog 36 none (q115 [1,1,0,1,2]) [] ts h fun x ds' ts' h'=>ts'=ts∧ds'=[h.next]∧h'.get h.next=some .defers∧((x=.normal∧Ee gr sz ino jr b=(0,0,0)∧∀ m,m<h.next→h'.get m=h.get m) ∨
   (x=.ret∧h'.get p4=some (.row 1 [[.int .u8 (Ee gr sz ino jr b).1]] false)∧h'.get p5=some (.row 1 [[.int .i64 (Ee gr sz ino jr b).2.1]] false)∧h'.get p6=some (.row 1 [[.int .i64 (Ee gr sz ino jr b).2.2]] false)∧∀ m,m<h.next→m≠p4→m≠p5→m≠p6→h'.get m=h.get m)):=by
 have g0:∀ (o:O) m,m<h.next→((h.new .defers).new o).get m=h.get m:=fun o m hm=>by rw[Y3 (by rw[H.Ze]; omega),Y3 (by omega)]
 have W:WCtx (h.next+1) pb p4 p5 p6 pg gr sz ino jr b h.next ts ((h.new .defers).new (.loop ts 36 [17] (q115 [1,1,0,1,2,5]) (q115 [1,1,0,1,2,6]) .ready none h.next)) :=
  ⟨d1,d2,d3,d4,d5,d6,by omega,by omega,by omega,by omega,by simp only[H.Ze]; omega,by simp only[H.Ze]; omega,by simp only[H.Ze]; omega,by simp only[H.Ze]; omega,by simp only[H.Ze]; omega,by simp only[H.Ze]; omega,e3,e4,e5,e6,
   by rw[Mk (by simp only[H.Ze]<;>omega)],by rw[g0 _ _ bb]; exact hb,by rw[g0 _ _ b4]; exact r4,by rw[g0 _ _ b5]; exact r5,by rw[g0 _ _ b6]; exact r6,by rw[g0 _ _ bg]; exact hg⟩
 have gd:∀ o:O,((h.new .defers).new o).get h.next=some .defers:=fun o=>by rw[Y3 (by rw[H.Ze]; omega),El]
 rw[Zvv]
 refine Goes.Zws fits Hh (f:=183) (first:=[]) (caps:=[some (pg,0)]) (by simp only[Z0,Y0,e16,asC]) (exE (Ziq Hh F s6 W) ?_)
 rintro v h3 (⟨w1,w2,w3⟩|A)
 ·simp only[H.Ze] at w2 w3
  have hN:Ee gr sz ino jr b=(0,0,0):=by
   obtain⟨g1,g2,g3,g4,g5,g6,g7,g8,g9,g10,g11⟩:=F
   unfold Ee
   rw[if_neg (by omega),if_neg (by omega),if_neg (by omega),if_pos w1]
  refine⟨_,_,_,_,_,_,_,_,(w3 _ (by omega)).trans W.hl,by simp,?_⟩
  show _∧_∧_
  refine⟨rfl,rfl,?_,.inl ⟨rfl,hN,fun m hm=>?_⟩⟩
  ·rw[Zv (by omega),w3 _ (by omega),gd]
  ·rw[Zv (by omega),w3 _ (by omega),g0 _ _ hm]
 ·have kp:=A.keep
  simp only[H.Ze] at kp
  refine⟨_,_,_,_,_,_,_,_,A.hl,by simp,?_⟩
  show _∧_∧_
  refine⟨rfl,rfl,?_,.inr ⟨rfl,?_,?_,?_,fun m hm n4 n5 n6=>?_⟩⟩
  ·rw[Zv (by omega),kp _ (by omega) (by omega) (by omega) (by omega) (by omega),gd]
  ·rw[Zv (by omega),A.r4]
  ·rw[Zv (by omega),A.r5]
  ·rw[Zv (by omega),A.r6]
  ·rw[Zv (by omega),kp _ (by omega) (by omega) n4 n5 n6,g0 _ _ hm]
set_option maxHeartbeats 4000000 in
theorem Yec {gr sz ino jr:Nat} (F:Fine gr sz ino jr) (h:Go.Ev.H) (b:Nat) (s6:b<9223372036854775808):Zd K Tryz.prog 115 [.g (Yf gr sz ino jr),.c (.int .i64 b)] h (.tup [.c (.int .u8 ((Ee gr sz ino jr b).1:Nat)),.c (.int .i64 ((Ee gr sz ino jr b).2.1:Nat)),.c (.int .i64 ((Ee gr sz ino jr b).2.2:Nat))]) h:=by
 obtain⟨v,h',c,rfl,hk⟩:∃ v h',Zd K Tryz.prog 115 [.g (Yf gr sz ino jr),.c (.int .i64 b)] h v h'∧v=.tup [.c (.int .u8 ((Ee gr sz ino jr b).1:Nat)),.c (.int .i64 ((Ee gr sz ino jr b).2.1:Nat)),.c (.int .i64 ((Ee gr sz ino jr b).2.2:Nat))]∧∀ m,m<h.next→h'.get m=h.get m:=by
  refine Zd.Ya fits Hh (by kernel_rfl) (by kernel_rfl) (by kernel_rfl) (show Tryz.f115.body=some (q115 []) by kernel_rfl) rfl ?_
  show Goes K Tryz.prog 36 none _ _ _ _ _
  refine Goes.Zq Ydd ?_
  refine Goes.Zw q115_0 fits Hh Zb (by
   simp (maxSteps:=9^6) +decide (disch:=first|omega|(simp only[lens]<;>omega)|decide) only [go_sem,q115,Tryz.f115,Zc,Za,simprocAttr,Yf,read1,Zn]
   rfl) ?_
  refine Goes.Zq q115_1 ?_
  refine Goes.Zq Zze ?_
  refine Goes.Zw Zu4 fits Hh (Bo Zb (Zqw Hh F)) (by
   simp (maxSteps:=9^6) +decide (disch:=first|omega|(simp only[lens]<;>omega)|decide) only [go_sem,q115,Tryz.f115,Zc,Za,simprocAttr,Yf,read1,Zn]
   rfl) ?_
  refine Goes.Yy Zug (by simp (maxSteps:=9^6) +decide (disch:=first|omega|(simp only[lens]<;>omega)|decide) only [go_sem,Zc,Za,simprocAttr,Yf,read1,Zn]<;>rfl) (by first|rfl|assumption|exact decide_eq_false (by omega)|(simp; omega)) ?_
  refine Goes.Jc Z2u ?_
  refine Goes.Zq Yc2 ?_
  refine Goes.Zq Z8y ?_
  refine Goes.Zw Z3g fits Hh (Bo Zb (Z89 Hh gr sz ino jr)) (by
   simp (maxSteps:=9^6) +decide (disch:=first|omega|(simp only[lens]<;>omega)|decide) only [go_sem,q115,Tryz.f115,Zc,Za,simprocAttr,Yf,read1,Zn]
   rfl) ?_
  refine Goes.Ul Z3q (Goes.block ?_)
  refine (Z4v Hh F s6 _ _ (pb:=h.next+1) (p4:=h.next+1+1) (p5:=h.next+1+1+1) (p6:=h.next+1+1+1+1) (pg:=h.next+1+1+1+1+1) (by omega) (by omega) (by omega) (by omega) (by omega) (by omega) (by simp only[H.Ze]<;>omega) (by simp only[H.Ze]<;>omega) (by simp only[H.Ze]<;>omega) (by simp only[H.Ze]<;>omega) (by simp only[H.Ze]<;>omega) (by simp (maxSteps:=9^6) +decide (disch:=first|omega|(simp only[lens]<;>omega)|decide) only [go_sem,Zc,Za,simprocAttr]) (by simp (maxSteps:=9^6) +decide (disch:=first|omega|(simp only[lens]<;>omega)|decide) only [go_sem,Zc,Za,simprocAttr]) (by simp (maxSteps:=9^6) +decide (disch:=first|omega|(simp only[lens]<;>omega)|decide) only [go_sem,Zc,Za,simprocAttr]) (by simp (maxSteps:=9^6) +decide (disch:=first|omega|(simp only[lens]<;>omega)|decide) only [go_sem,Zc,Za,simprocAttr]) (by simp (maxSteps:=9^6) +decide (disch:=first|omega|(simp only[lens]<;>omega)|decide) only [go_sem,Zc,Za,simprocAttr]) (by simp (maxSteps:=9^6) +decide (disch:=first|omega|(simp only[lens]<;>omega)|decide) only [go_sem,Zc,Za,simprocAttr]) ⟨_,by simp (maxSteps:=9^6) +decide (disch:=first|omega|(simp only[lens]<;>omega)|decide) only [go_sem,Zc,Za,simprocAttr]<;>rfl⟩ ⟨_,by simp (maxSteps:=9^6) +decide (disch:=first|omega|(simp only[lens]<;>omega)|decide) only [go_sem,Zc,Za,simprocAttr]<;>rfl⟩ ⟨_,by simp (maxSteps:=9^6) +decide (disch:=first|omega|(simp only[lens]<;>omega)|decide) only [go_sem,Zc,Za,simprocAttr]<;>rfl⟩ (by simp (maxSteps:=9^6) +decide (disch:=first|omega|(simp only[lens]<;>omega)|decide) only [go_sem,Zc,Za,simprocAttr]<;>rfl)).mono ?_
  rintro x ds' ts' h' ⟨rfl,rfl,gd,⟨rfl,hN,kp⟩|⟨rfl,r4,r5,r6,kp⟩⟩
  ·simp only[H.Ze] at gd kp
   have k4:=(kp (h.next+1+1) (by omega)).trans (show _=some (.row 1 [[.int .u8 0]] false) by simp (maxSteps:=9^6) +decide (disch:=first|omega|(simp only[lens]<;>omega)|decide) only [go_sem,Zc,Za,simprocAttr])
   have k5:=(kp (h.next+1+1+1) (by omega)).trans (show _=some (.row 1 [[.int .i64 0]] false) by simp (maxSteps:=9^6) +decide (disch:=first|omega|(simp only[lens]<;>omega)|decide) only [go_sem,Zc,Za,simprocAttr])
   have k6:=(kp (h.next+1+1+1+1) (by omega)).trans (show _=some (.row 1 [[.int .i64 0]] false) by simp (maxSteps:=9^6) +decide (disch:=first|omega|(simp only[lens]<;>omega)|decide) only [go_sem,Zc,Za,simprocAttr])
   refine Goes.Zq Z7s ?_
   refine Goes.Zw Z13 fits Hh Zb (by
    simp (maxSteps:=9^6) +decide (disch:=first|omega|(simp only[lens]<;>omega)|decide) only [go_sem,q115,Tryz.f115,Zc,Za,simprocAttr,k4,k5,k6,gd,read1,Zx]
    rfl) ?_
   refine Goes.Gl Z1g ?_
   refine⟨_,_,(by simp (maxSteps:=9^6) +decide (disch:=first|omega|(simp only[lens]<;>omega)|decide) only [go_sem,Zc,Za,simprocAttr,gd,read1]<;>rfl),by rw[hN]<;>rfl,fun m hm=>?_⟩
   simp (maxSteps:=9^6) +decide (disch:=first|omega|(simp only[lens]<;>omega)|decide) only [go_sem,Zc,Za,simprocAttr]
   rw[kp m (by omega)]
   simp (maxSteps:=9^6) +decide (disch:=first|omega|(simp only[lens]<;>omega)|decide) only [go_sem,Zc,Za,simprocAttr]
  ·simp only[H.Ze] at gd kp
   refine⟨_,_,(by simp (maxSteps:=9^6) +decide (disch:=first|omega|(simp only[lens]<;>omega)|decide) only [go_sem,Zc,Za,simprocAttr,gd,r4,r5,r6,read1]<;>rfl),rfl,fun m hm=>?_⟩
   simp (maxSteps:=9^6) +decide (disch:=first|omega|(simp only[lens]<;>omega)|decide) only [go_sem,Zc,Za,simprocAttr]
   rw[kp m (by omega) (by omega) (by omega) (by omega)]
   simp (maxSteps:=9^6) +decide (disch:=first|omega|(simp only[lens]<;>omega)|decide) only [go_sem,Zc,Za,simprocAttr]
 exact Zd.quiet c rfl hk
theorem Ycp {gr sz ino jr:Nat} (F:Fine gr sz ino jr) (h:Go.Ev.H) (z:Int) (hz:z<0):Zd K Tryz.prog 115 [.g (Yf gr sz ino jr),.c (.int .i64 z)] h (.tup [.c (.int .u8 0),.c (.int .i64 0),.c (.int .i64 0)]) h:=by
 obtain⟨v,h',c,rfl,hk⟩:∃ v h',Zd K Tryz.prog 115 [.g (Yf gr sz ino jr),.c (.int .i64 z)] h v h'∧v=.tup [.c (.int .u8 0),.c (.int .i64 0),.c (.int .i64 0)]∧∀ m,m<h.next→h'.get m=h.get m:=by
  refine Zd.Ya fits Hh (by kernel_rfl) (by kernel_rfl) (by kernel_rfl) (show Tryz.f115.body=some (q115 []) by kernel_rfl) rfl ?_
  show Goes K Tryz.prog 36 none _ _ _ _ _
  refine Goes.Zq Ydd ?_
  refine Goes.Zw q115_0 fits Hh Zb (by
   simp (maxSteps:=9^6) +decide (disch:=first|omega|(simp only[lens]<;>omega)|decide) only [go_sem,q115,Tryz.f115,Zc,Za,simprocAttr,Yf,read1,Zn,Zx]
   rfl) ?_
  refine Goes.Zq q115_1 ?_
  refine Goes.Zq Zze ?_
  refine Goes.Zw Zu4 fits Hh (Bo Zb (Zqw Hh F)) (by
   simp (maxSteps:=9^6) +decide (disch:=first|omega|(simp only[lens]<;>omega)|decide) only [go_sem,q115,Tryz.f115,Zc,Za,simprocAttr,Yf,read1,Zn,Zx]
   rfl) ?_
  refine Goes.Ob Zug (by simp (maxSteps:=9^6) +decide (disch:=first|omega|(simp only[lens]<;>omega)|decide) only [go_sem,Zc,Za,simprocAttr,Yf,read1,Zn,Zx]<;>rfl) (by first|rfl|assumption|exact decide_eq_true (by omega)|(simp; omega)) ?_
  refine Goes.Zq Z10 ?_
  refine Goes.Zw Zv2 fits Hh Zb (by
   simp (maxSteps:=9^6) +decide (disch:=first|omega|(simp only[lens]<;>omega)|decide) only [go_sem,q115,Tryz.f115,Zc,Za,simprocAttr,Yf,read1,Zn,Zx]
   rfl) ?_
  refine Goes.Gl Zx8 ?_
  refine⟨_,_,(by simp (maxSteps:=9^6) +decide (disch:=first|omega|(simp only[lens]<;>omega)|decide) only [go_sem,Zc,Za,simprocAttr,read1]<;>rfl),rfl,fun m hm=>by (first|(simp (discharger:=omega) only [H.get_put,H.Zh,H.Zk,H.Ze,H.Zg,H.Zj,if_neg]; done)|(simp only[H.get_put,H.Zh,H.Zk,H.Ze,H.Zg,H.Zj]; (repeat' split)<;>first|rfl|(exfalso; omega)|omega))⟩
 exact Zd.quiet c rfl hk
end
end Go.Proofs.YtmdibcklpmeleaaGreatDoor
