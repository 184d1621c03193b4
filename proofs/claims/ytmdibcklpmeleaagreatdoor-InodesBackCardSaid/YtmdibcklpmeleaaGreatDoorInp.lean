/- inode.Put, of any inode, at any place of a page. -/
import Derived.Test.YtmdibcklpmeleaaGreatDoorIbk
import Derived.Test.YtmdibcklpmeleaaGreatDoorEvC
import Derived.Test.YtmdibcklpmeleaaGreatDoorIng
set_option linter.unusedSimpArgs false
set_option linter.unusedVariables false
set_option linter.unusedSectionVars false
set_option maxRecDepth 100000
set_option maxHeartbeats 4000000
namespace Go.Proofs.YtmdibcklpmeleaaGreatDoor
open Go.Ev
theorem ty162:K.types.get 162=some ti162:=by kernel_rfl
theorem sz162:ti162.size=1:=by rfl
theorem ag162:ti162.agg=false:=by rfl
theorem de162:ti162.desc=(.pointer 30):=by rfl
theorem ze162:ti162.zero=(.c (.pnil)):=by rfl
theorem by162:ti162.bytes=8:=by rfl
attribute [go_sem] ty95 sz95 ag95 de95 ze95 by95 ty162 sz162 ag162 de162 ze162 by162
noncomputable def q57 (p:List Nat):Code:=piece p (Z5 Tryz.f57)
theorem Yh4:q57 []=.seq (q57 [0]) (q57 [1]):=by kernel_rfl
theorem q57_0:q57 [0]=.region 0 (Zt (q57 [0])) false:=by kernel_rfl
theorem q57_1:q57 [1]=.seq (q57 [1,0]) (q57 [1,1]):=by kernel_rfl
theorem Yft:q57 [1,0]=.block 0 (q57 [1,0,2]):=by kernel_rfl
theorem Ycl:q57 [1,0,2]=.seq (q57 [1,0,2,0]) (q57 [1,0,2,1]):=by kernel_rfl
theorem Z72:q57 [1,0,2,0]=.region 1 (Zt (q57 [1,0,2,0])) false:=by kernel_rfl
theorem Z4n:q57 [1,0,2,1]=.cond (.tmp 10) (q57 [1,0,2,1,3]) (q57 [1,0,2,1,4]):=by kernel_rfl
theorem Z0t:q57 [1,0,2,1,4]=.seq (q57 [1,0,2,1,4,0]) (q57 [1,0,2,1,4,1]):=by kernel_rfl
theorem Zxv:q57 [1,0,2,1,4,0]=.region 3 (Zt (q57 [1,0,2,1,4,0])) false:=by kernel_rfl
theorem Zy3:q57 [1,0,2,1,4,1]=.cond (.tmp 13) (q57 [1,0,2,1,4,1,3]) (q57 [1,0,2,1,4,1,4]):=by kernel_rfl
theorem Ztg:q57 [1,0,2,1,4,1,4]=.seq (q57 [1,0,2,1,4,1,4,0]) (q57 [1,0,2,1,4,1,4,1]):=by kernel_rfl
theorem Zq4:q57 [1,0,2,1,4,1,4,0]=.region 5 (Zt (q57 [1,0,2,1,4,1,4,0])) false:=by kernel_rfl
theorem Zpa:q57 [1,0,2,1,4,1,4,1]=.cond (.tmp 17) (q57 [1,0,2,1,4,1,4,1,3]) (q57 [1,0,2,1,4,1,4,1,4]):=by kernel_rfl
theorem Zm0:q57 [1,0,2,1,4,1,4,1,4]=.skip:=by kernel_rfl
theorem Yd3:q57 [1,1]=.seq (q57 [1,1,0]) (q57 [1,1,1]):=by kernel_rfl
theorem Ycs:q57 [1,1,0]=.region 7 (Zt (q57 [1,1,0])) false:=by kernel_rfl
theorem Ybg:q57 [1,1,1]=.seq (q57 [1,1,1,0]) (q57 [1,1,1,1]):=by kernel_rfl
theorem Z71:q57 [1,1,1,0]=.region 8 (Zt (q57 [1,1,1,0])) false:=by kernel_rfl
theorem Z45:q57 [1,1,1,1]=.seq (q57 [1,1,1,1,0]) (q57 [1,1,1,1,1]):=by kernel_rfl
theorem Z2q:q57 [1,1,1,1,0]=.region 9 (Zt (q57 [1,1,1,1,0])) false:=by kernel_rfl
theorem Z05:q57 [1,1,1,1,1]=.seq (q57 [1,1,1,1,1,0]) (q57 [1,1,1,1,1,1]):=by kernel_rfl
theorem Zvo:q57 [1,1,1,1,1,0]=.region 10 (Zt (q57 [1,1,1,1,1,0])) false:=by kernel_rfl
theorem Zxj:q57 [1,1,1,1,1,1]=.seq (q57 [1,1,1,1,1,1,0]) (q57 [1,1,1,1,1,1,1]):=by kernel_rfl
theorem Zu8:q57 [1,1,1,1,1,1,0]=.seq (q57 [1,1,1,1,1,1,0,0]) (q57 [1,1,1,1,1,1,0,1]):=by kernel_rfl
theorem Zrv:q57 [1,1,1,1,1,1,0,0]=.region 11 (Zt (q57 [1,1,1,1,1,1,0,0])) false:=by kernel_rfl
theorem Zqx:q57 [1,1,1,1,1,1,0,1]=.block 1 (q57 [1,1,1,1,1,1,0,1,2]):=by kernel_rfl
theorem Zmr:q57 [1,1,1,1,1,1,0,1,2]=.rangeFunc (.tmp 37) #[38,39] (q57 [1,1,1,1,1,1,0,1,2,5]) (q57 [1,1,1,1,1,1,0,1,2,6]):=by kernel_rfl
theorem Zaa:q57 [1,1,1,1,1,1,0,1,2,5]=.seq (q57 [1,1,1,1,1,1,0,1,2,5,0]) (q57 [1,1,1,1,1,1,0,1,2,5,1]):=by kernel_rfl
theorem Zij:q57 [1,1,1,1,1,1,0,1,2,5,0]=.region 12 (Zt (q57 [1,1,1,1,1,1,0,1,2,5,0])) false:=by kernel_rfl
theorem Zh7:q57 [1,1,1,1,1,1,0,1,2,5,1]=.region 13 (Zt (q57 [1,1,1,1,1,1,0,1,2,5,1])) false:=by kernel_rfl
theorem Zau:q57 [1,1,1,1,1,1,0,1,2,6]=.block 2 (q57 [1,1,1,1,1,1,0,1,2,6,2]):=by kernel_rfl
theorem Zic:q57 [1,1,1,1,1,1,0,1,2,6,2]=.region 14 (Zt (q57 [1,1,1,1,1,1,0,1,2,6,2])) false:=by kernel_rfl
theorem Ztf:q57 [1,1,1,1,1,1,1]=.seq (q57 [1,1,1,1,1,1,1,0]) (q57 [1,1,1,1,1,1,1,1]):=by kernel_rfl
theorem Zpc:q57 [1,1,1,1,1,1,1,0]=.region 15 (Zt (q57 [1,1,1,1,1,1,1,0])) false:=by kernel_rfl
theorem Zpm:q57 [1,1,1,1,1,1,1,1]=.ret:=by kernel_rfl
noncomputable def q102 (p:List Nat):Code:=piece p (Z5 Tryz.f102)
theorem Yg6:q102 []=.seq (q102 [0]) (q102 [1]):=by kernel_rfl
theorem q102_0:q102 [0]=.region 0 (Zt (q102 [0])) false:=by kernel_rfl
theorem q102_1:q102 [1]=.seq (q102 [1,0]) (q102 [1,1]):=by kernel_rfl
theorem Yci:q102 [1,0]=.region 1 (Zt (q102 [1,0])) false:=by kernel_rfl
theorem Z94:q102 [1,1]=.ret:=by kernel_rfl
noncomputable def q132 (p:List Nat):Code:=piece p (Z5 Tryz.f132)
theorem Yhd:q132 []=.seq (q132 [0]) (q132 [1]):=by kernel_rfl
theorem q132_0:q132 [0]=.seq (q132 [0,0]) (q132 [0,1]):=by kernel_rfl
theorem Yaa:q132 [0,0]=.region 0 (Zt (q132 [0,0])) false:=by kernel_rfl
theorem Z9m:q132 [0,1]=.cond (.tmp 21) (q132 [0,1,3]) (q132 [0,1,4]):=by kernel_rfl
theorem Z76:q132 [0,1,4]=.skip:=by kernel_rfl
theorem q132_1:q132 [1]=.seq (q132 [1,0]) (q132 [1,1]):=by kernel_rfl
theorem Yap:q132 [1,0]=.seq (q132 [1,0,0]) (q132 [1,0,1]):=by kernel_rfl
theorem Z78:q132 [1,0,0]=.region 1 (Zt (q132 [1,0,0])) false:=by kernel_rfl
theorem Z8r:q132 [1,0,1]=.block 0 (q132 [1,0,1,2]):=by kernel_rfl
theorem Zf4:q132 [1,0,1,2]=.loop (q132 [1,0,1,2,2]):=by kernel_rfl
theorem Zmo:q132 [1,0,1,2,2]=.seq (q132 [1,0,1,2,2,0]) (q132 [1,0,1,2,2,1]):=by kernel_rfl
theorem Zhk:q132 [1,0,1,2,2,0]=.region 2 (Zt (q132 [1,0,1,2,2,0])) false:=by kernel_rfl
theorem Zhe:q132 [1,0,1,2,2,1]=.seq (q132 [1,0,1,2,2,1,0]) (q132 [1,0,1,2,2,1,1]):=by kernel_rfl
theorem Zet:q132 [1,0,1,2,2,1,0]=.cond (.tmp 27) (q132 [1,0,1,2,2,1,0,3]) (q132 [1,0,1,2,2,1,0,4]):=by kernel_rfl
theorem Zno:q132 [1,0,1,2,2,1,0,3]=.skip:=by kernel_rfl
theorem Znc:q132 [1,0,1,2,2,1,0,4]=.exit 0:=by kernel_rfl
theorem Zqy:q132 [1,0,1,2,2,1,1]=.seq (q132 [1,0,1,2,2,1,1,0]) (q132 [1,0,1,2,2,1,1,1]):=by kernel_rfl
theorem Zmy:q132 [1,0,1,2,2,1,1,0]=.block 1 (q132 [1,0,1,2,2,1,1,0,2]):=by kernel_rfl
theorem Zkp:q132 [1,0,1,2,2,1,1,0,2]=.seq (q132 [1,0,1,2,2,1,1,0,2,0]) (q132 [1,0,1,2,2,1,1,0,2,1]):=by kernel_rfl
theorem Zia:q132 [1,0,1,2,2,1,1,0,2,0]=.region 3 (Zt (q132 [1,0,1,2,2,1,1,0,2,0])) false:=by kernel_rfl
theorem Zil:q132 [1,0,1,2,2,1,1,0,2,1]=.seq (q132 [1,0,1,2,2,1,1,0,2,1,0]) (q132 [1,0,1,2,2,1,1,0,2,1,1]):=by kernel_rfl
theorem Zgh:q132 [1,0,1,2,2,1,1,0,2,1,0]=.region 4 (Zt (q132 [1,0,1,2,2,1,1,0,2,1,0])) false:=by kernel_rfl
theorem Zfq:q132 [1,0,1,2,2,1,1,0,2,1,1]=.cond (.tmp 36) (q132 [1,0,1,2,2,1,1,0,2,1,1,3]) (q132 [1,0,1,2,2,1,1,0,2,1,1,4]):=by kernel_rfl
theorem Zdv:q132 [1,0,1,2,2,1,1,0,2,1,1,4]=.skip:=by kernel_rfl
theorem Zmt:q132 [1,0,1,2,2,1,1,1]=.region 5 (Zt (q132 [1,0,1,2,2,1,1,1])) false:=by kernel_rfl
theorem Z98:q132 [1,1]=.region 6 (Zt (q132 [1,1])) false:=by kernel_rfl
theorem rs57:Tryz.f57.results.toList=[.tmp 6]:=rfl
theorem rs102:Tryz.f102.results.toList=[.tmp 2]:=rfl
theorem rs132:Tryz.f132.results.toList=[]:=rfl
attribute [go_sem] rs57 rs102 rs132
section
variable (Hh:Hearts K Tryz.prog)
include Hh
section
variable {l p p7 pm px pw d:Nat} {lts:Zy}
noncomputable def Np (lts:Zy) (st:LoopState) (d:Nat):O:=.loop lts 44 [38,39] (q57 [1,1,1,1,1,1,0,1,2,5]) (q57 [1,1,1,1,1,1,0,1,2,6]) st none d
theorem ptA (l:Nat) (ts:Zy) (h:Go.Ev.H) {t w:C} (e1:Zp ts 38=.w (.c t)) (e2:Zp ts 39=.w (.c w)):Goes K Tryz.prog 44 (some l) (q57 [1,1,1,1,1,1,0,1,2,5]) [] ts h fun x ds' ts' h'=>x=.normal∧ds'=[]∧h'=h∧(∀ s,s≤7→Zp ts' s=Zp ts s)∧Zp ts' 8=Zp ts 38∧Zp ts' 9=Zp ts 39:=by
 refine Goes.Zq Zaa ?_
 refine Goes.Zw Zij fits Hh Zb (by
  simp (maxSteps:=9^6) +decide (disch:=first|omega|(simp only[lens]<;>omega)|decide) only [go_sem,q57,Tryz.f57,Zc,Za,simprocAttr,e1,e2]
  rfl) ?_
 refine Goes.Zw Zh7 fits Hh Zb (by
  simp (maxSteps:=9^6) +decide (disch:=first|omega|(simp only[lens]<;>omega)|decide) only [go_sem,q57,Tryz.f57,Zc,Za,simprocAttr,e1,e2]
  rfl) ?_
 refine⟨rfl,rfl,rfl,fun s hs=>?_,?_,?_⟩
 ·simp (decide:=true) only [Uj hs]
 ·rw[e1]; simp (maxSteps:=9^6) +decide (disch:=first|omega|(simp only[lens]<;>omega)|decide) only [go_sem,Zc,Za,simprocAttr]
 ·rw[e2]; simp (maxSteps:=9^6) +decide (disch:=first|omega|(simp only[lens]<;>omega)|decide) only [go_sem,Zc,Za,simprocAttr]
theorem ptB (l:Nat) {ts:Zy} {h:Go.Ev.H} {a v:Nat} {ns:List Nat} (aa:a+4≤64) (vv:v<4294967296) (pl:p+64≤256) (e7:Zp ts 7=.w (.c (.ptr p7 0))) (e8:Zp ts 8=.w (.c (.int .i64 (a:Int)))) (e9:Zp ts 9=.w (.c (.int .u32 (v:Int)))) (h7:h.get p7=some (.row 1 [[.slice pm p 64 1]] false)) (hx:h.get pm=some (.row 256 [pgL ns] false)) (nl:ns.length=256) :
  Goes K Tryz.prog 44 (some l) (q57 [1,1,1,1,1,1,0,1,2,6]) [] ts h fun x _ _ h'=>x=.normal∧h'=h.put pm (.row 256 [pgL (Uk ns (p+a) v)] false):=by
 have xl:(pgL ns).length=256:=by rw[Et,nl]
 refine Goes.Ul Zau (Goes.block ?_)
 refine Goes.Zw Zic fits Hh (Zf Zb (fun _ _ _ _=>Znv Hh)) (by
  simp (maxSteps:=9^6) +decide (disch:=first|omega|(simp only[lens]<;>omega)|decide) only [go_sem,q57,Tryz.f57,Zc,Za,simprocAttr,e7,e8,e9,h7,hx,xl,read1]
  rfl) ?_
 exact⟨rfl,rfl⟩
theorem Z2b (l p7 pm:Nat) (pl:p+64≤256):∃ E,Sound K Tryz.prog E∧∀ (lts:Zy) (d a v:Nat) (ns:List Nat) (h:Go.Ev.H),l≠pm→l≠p7→Zp lts 7=.w (.c (.ptr p7 0))→a+4≤64→v<4294967296→h.get l=some (Np lts .ready d)→h.get p7=some (.row 1 [[.slice pm p 64 1]] false)→h.get pm=some (.row 256 [pgL ns] false)→ns.length=256 →
  Df E l (some [.c (.int .i64 (a:Int)),.c (.int .u32 (v:Int))]) h (some (Np lts .ready d))=some (.val (.w (.c (.bool true))) (((h.put l (Np lts .busy d)).put pm (.row 256 [pgL (Uk ns (p+a) v)] false)).put l (Np lts .ready d))):=by
 have ne:(q57 [1,1,1,1,1,1,0,1,2,5])≠(q57 [1,1,1,1,1,1,0,1,2,6]):=fun e=>by
  rw[Zau,Zaa] at e
  cases e
 obtain⟨E,S,g⟩:=rounds (K:=K) (P:=Tryz.prog) (n:=44) (l:=l) ne
  (PA:=fun ts _=>∃ t w,Zp ts 38=.w (.c t)∧Zp ts 39=.w (.c w))
  (QA:=fun ts ts'=>(∀ s,s≤7→Zp ts' s=Zp ts s)∧Zp ts' 8=Zp ts 38∧Zp ts' 9=Zp ts 39)
  (PB:=fun ts h=>∃ (a v:Nat) (ns:List Nat),a+4≤64∧v<4294967296∧Zp ts 7=.w (.c (.ptr p7 0))∧Zp ts 8=.w (.c (.int .i64 (a:Int)))∧Zp ts 9=.w (.c (.int .u32 (v:Int)))∧h.get p7=some (.row 1 [[.slice pm p 64 1]] false)∧h.get pm=some (.row 256 [pgL ns] false)∧ns.length=256)
  (QB:=fun ts h h'=>∀ (a v:Nat) (ns:List Nat),Zp ts 8=.w (.c (.int .i64 (a:Int)))→Zp ts 9=.w (.c (.int .u32 (v:Int)))→h.get pm=some (.row 256 [pgL ns] false)→h'=h.put pm (.row 256 [pgL (Uk ns (p+a) v)] false))
  (fun ts h ⟨t,w,e1,e2⟩=>ptA Hh l ts h e1 e2)
  (fun ts h ⟨a,v,ns,aa,vv,e7,e8,e9,h7,hx,nl⟩=>(ptB Hh l aa vv pl e7 e8 e9 h7 hx nl).mono fun x _ _ h' ⟨x1,x2⟩=>⟨x1,fun a' v' ns' f1 f2 f3=>by
   rw[e8] at f1
   rw[e9] at f2
   rw[hx] at f3
   have a1:(a:Int)=(a':Int):=by injection f1 with f1; injection f1 with f1; injection f1
   have a2:(v:Int)=(v':Int):=by injection f2 with f2; injection f2 with f2; injection f2
   obtain rfl:a=a':=by omega
   obtain rfl:v=v':=by omega
   have a3:pgL ns=pgL ns':=by injection f3 with f3; injection f3 with _ f3; injection f3
   rw[x2,←Vg ns,←Vg ns',←Rn,←Rn,a3]⟩)
 refine⟨E,S,fun lts d a v ns h nl np e7 aa vv hl h7 hx xl=>?_⟩
 have z1:Zp ((lts.set 38 (.w (.c (.int .i64 (a:Int))))).set 39 (.w (.c (.int .u32 (v:Int))))) 38=.w (.c (.int .i64 (a:Int))):=by simp (decide:=true) only [Zi,reduceIte]
 have z2:Zp ((lts.set 38 (.w (.c (.int .i64 (a:Int))))).set 39 (.w (.c (.int .u32 (v:Int))))) 39=.w (.c (.int .u32 (v:Int))):=by simp (decide:=true) only [Zi,reduceIte]
 have z7:Zp ((lts.set 38 (.w (.c (.int .i64 (a:Int))))).set 39 (.w (.c (.int .u32 (v:Int))))) 7=.w (.c (.ptr p7 0)):=by simp (decide:=true) only [Zi,reduceIte,e7]
 have hx':(h.put l (Np lts .busy d)).get pm=some (.row 256 [pgL ns] false):=by rw[Zv (Ne.symm nl)]; exact hx
 have h7':(h.put l (Np lts .busy d)).get p7=some (.row 1 [[.slice pm p 64 1]] false):=by rw[Zv (Ne.symm np)]; exact h7
 obtain⟨ts',h',⟨a1,a2,a3⟩,b,r⟩:=g [.c (.int .i64 (a:Int)),.c (.int .u32 (v:Int))] h lts _ [38,39] d hl rfl ⟨_,_,z1,z2⟩ fun ts' ⟨a1,a2,a3⟩=>⟨a,v,ns,aa,vv,(a1 7 (by decide)).trans z7,a2.trans z1,a3.trans z2,h7',hx',xl⟩
 have b:=b a v ns (a2.trans z1) (a3.trans z2) hx'
 subst b
 exact r (by rw[Zv nl]; exact Yk ..)
def Rnd (E:Task→Option Out) (l p7 pm p d:Nat) (lts:Zy):Prop:=∀ (a v:Nat) (ns:List Nat) (h:Go.Ev.H),a+4≤64→v<4294967296→h.get l=some (Np lts .ready d)→h.get p7=some (.row 1 [[.slice pm p 64 1]] false)→h.get pm=some (.row 256 [pgL ns] false)→ns.length=256 →
  ∃ h',Df E l (some [.c (.int .i64 (a:Int)),.c (.int .u32 (v:Int))]) h (some (Np lts .ready d))=some (.val (.w (.c (.bool true))) h')∧h'.next=h.next∧h'.get l=some (Np lts .ready d)∧h'.get pm=some (.row 256 [pgL (Uk ns (p+a) v)] false)∧∀ k,k≠l→k≠pm→h'.get k=h.get k
theorem Ye3 (l p7 pm:Nat) (pl:p+64≤256) (nl:l≠pm) (np:l≠p7) (e7:Zp lts 7=.w (.c (.ptr p7 0))) (d:Nat):∃ E,Sound K Tryz.prog E∧Rnd E l p7 pm p d lts:=by
 obtain⟨E,S,g⟩:=Z2b Hh l p7 pm pl
 refine⟨E,S,fun a v ns h aa vv hl h7 hx xl=>⟨_,g lts d a v ns h nl np e7 aa vv hl h7 hx xl,rfl,Yk ..,?_,fun k k1 k2=>?_⟩⟩
 ·rw[Zv (Ne.symm nl),Yk]
 ·rw[Zv k1,Zv k2,Zv k1]
theorem Zv7 {E:Task→Option Out} (S:Sound K Tryz.prog E) (R:Rnd E l p7 pm p d lts) (n7:p7≠l∧p7≠pm) {ps:List Nat} (pl:ps.length=11) (pb:∀ v∈ps,v<4294967296):∀ (vs:List Nat) (i:Nat) (ns:List Nat) (ts:Zy) (h:Go.Ev.H),i+vs.length=11→ps.drop i=vs→h.get l=some (Np lts .ready d)→h.get p7=some (.row 1 [[.slice pm p 64 1]] false)→h.get pm=some (.row 256 [pgL ns] false)→ns.length=256 →
  Zp ts 0=.w (.c (.yield l))→Zp ts 1=.w (.c (.ptr pw 0))→Zp ts 25=.w (.g (ps.map fun v:Nat=>C.int .u32 (v:Int)))→Zp ts 26=.w (.c (.int .i64 (i:Int))) →
  Goes K Tryz.prog 44 none (q132 [1,0,1,2]) [] ts h fun x ds' ts' h'=>x=.exit 0∧ds'=[]∧Zp ts' 0=.w (.c (.yield l))∧Zp ts' 1=.w (.c (.ptr pw 0))∧h'.next=h.next∧h'.get l=some (Np lts .ready d)∧h'.get pm=some (.row 256 [pgL (Zh0 ns (p+(12+4 * i)) vs)] false)∧∀ k,k≠l→k≠pm→h'.get k=h.get k:=by
 intro vs
 induction vs with
 | nil =>
  intro i ns ts h hi hv hl h7 hx xl e0 e1 e25 e26
  obtain rfl:i=11:=by simpa using hi
  refine Goes.Lm Zf4 (Goes.loop ?_)
  refine Goes.Zq Zmo ?_
  refine Goes.Zw Zhk fits Hh Zb (by
   simp (maxSteps:=9^6) +decide (disch:=first|omega|(simp only[lens]<;>omega)|decide) only [go_sem,q132,Tryz.f132,Zc,Za,simprocAttr,e0,e1,e25,e26]
   rfl) ?_
  refine Goes.Zq Zhe ?_
  refine Goes.Yy Zet (by simp (maxSteps:=9^6) +decide (disch:=first|omega|(simp only[lens]<;>omega)|decide) only [go_sem,Zc,Za,simprocAttr,e0,e1,e25,e26]<;>rfl) (by first|rfl|assumption|exact decide_eq_false (by omega)|(simp; omega)) ?_
  refine Goes.Zln Znc ?_
  exact⟨rfl,rfl,by simp (decide:=true) only [Zi,reduceIte,e0],by simp (decide:=true) only [Zi,reduceIte,e1],rfl,hl,hx,fun _ _ _=>rfl⟩
 | cons v vs ih =>
  intro i ns ts h hi hv hl h7 hx xl e0 e1 e25 e26
  have hi':i<11:=by rw[List.length_cons] at hi; omega
  have iv:ps[i]? = some v:=by
   have:=congrArg (fun l=>l[0]?) hv
   simpa using this
  have vb:v<4294967296:=pb v (List.mem_of_getElem? iv)
  have hv':ps.drop (i+1)=vs:=by rw[←List.drop_drop,hv]; rfl
  have ix:(ps.map fun v:Nat=>C.int .u32 (v:Int))[i]? = some (.int .u32 (v:Int)):=by rw[List.getElem?_map,iv]; rfl
  have Ll:(ps.map fun v:Nat=>C.int .u32 (v:Int)).length=11:=by rw[List.length_map,pl]
  obtain⟨L,hL⟩:∃ L,(ps.map fun v:Nat=>C.int .u32 (v:Int))=L:=⟨_,rfl⟩
  simp only[hL] at ih
  rw[hL] at ix Ll e25
  obtain⟨h2,r,n2,l2,x2,k2⟩:=R (12+4 * i) v ns h (by omega) vb hl h7 hx xl
  have n32:(4:Int) * (i:Int)=((4 * i:Nat):Int):=rfl
  have n33:(12:Int)+((4 * i:Nat):Int)=((12+4 * i:Nat):Int):=rfl
  have n4:(i:Int)+1=((i+1:Nat):Int):=rfl
  refine Goes.Lm Zf4 (Goes.loop ?_)
  refine Goes.Zq Zmo ?_
  refine Goes.Zw Zhk fits Hh Zb (by
   simp (maxSteps:=9^6) +decide (disch:=first|omega|(simp only[lens]<;>omega)|decide) only [go_sem,q132,Tryz.f132,Zc,Za,simprocAttr,e0,e1,e25,e26,hl,r,n32,n33,n4,ix,Ll,Y6,Zce]
   rfl) ?_
  refine Goes.Zq Zhe ?_
  refine Goes.Ob Zet (by simp (maxSteps:=9^6) +decide (disch:=first|omega|(simp only[lens]<;>omega)|decide) only [go_sem,Zc,Za,simprocAttr,e0,e1,e25,e26,hl,r,n32,n33,n4,ix,Ll,Y6,Zce]<;>rfl) (by first|rfl|assumption|exact decide_eq_true (by omega)|(simp; omega)) ?_
  refine Goes.Jc Zno ?_
  refine Goes.Zq Zqy ?_
  refine Goes.Ul Zmy (Goes.block ?_)
  refine Goes.Zq Zkp ?_
  refine Goes.Zw Zia fits Hh Zb (by
   simp (maxSteps:=9^6) +decide (disch:=first|omega|(simp only[lens]<;>omega)|decide) only [go_sem,q132,Tryz.f132,Zc,Za,simprocAttr,e0,e1,e25,e26,hl,r,n32,n33,n4,ix,Ll,Y6,Zce]
   rfl) ?_
  refine Goes.Zq Zil ?_
  refine Goes.Zw Zgh fits Hh S (by
   simp (maxSteps:=9^6) +decide (disch:=first|omega|(simp only[lens]<;>omega)|decide) only [go_sem,q132,Tryz.f132,Zc,Za,simprocAttr,e0,e1,e25,e26,hl,r,n32,n33,n4,ix,Ll,Y6,Zce]
   rfl) ?_
  refine Goes.Yy Zfq (by simp (maxSteps:=9^6) +decide (disch:=first|omega|(simp only[lens]<;>omega)|decide) only [go_sem,Zc,Za,simprocAttr,e0,e1,e25,e26,hl,r,n32,n33,n4,ix,Ll,Y6,Zce]<;>rfl) (by first|rfl|assumption|exact decide_eq_false (by omega)|(simp; omega)) ?_
  refine Goes.Jc Zdv ?_
  refine Goes.Zw Zmt fits Hh Zb (by
   simp (maxSteps:=9^6) +decide (disch:=first|omega|(simp only[lens]<;>omega)|decide) only [go_sem,q132,Tryz.f132,Zc,Za,simprocAttr,e0,e1,e25,e26,hl,r,n32,n33,n4,ix,Ll,Y6,Zce]
   rfl) ?_
  show Goes K Tryz.prog 44 none (.loop (q132 [1,0,1,2,2])) _ _ _ _
  rw[←Zf4]
  refine (ih (i+1) _ _ h2 (by rw[List.length_cons] at hi; omega) hv' l2 ((k2 _ n7.1 n7.2).trans h7) x2 (by rw[Ye]; exact xl) ?_ ?_ ?_ ?_).mono ?_
  ·simp (decide:=true) only [Zi,reduceIte,e0]
  ·simp (decide:=true) only [Zi,reduceIte,e1]
  ·simp (decide:=true) only [Zi,reduceIte,e25]
  ·simp (decide:=true) only [Zi,reduceIte]<;>rfl
  rintro x ds' ts2 h3 ⟨rfl,rfl,z0,z1,z2,z3,z4,z5⟩
  exact⟨rfl,rfl,z0,z1,z2.trans n2,z3,z4,fun k k1 k3=>(z5 k k1 k3).trans (k2 k k1 k3)⟩
theorem Z5l {E:Task→Option Out} (S:Sound K Tryz.prog E) (R:Rnd E l p7 pm p d lts) (n7:p7≠l∧p7≠pm) (nw:pw≠l∧pw≠pm) (nx':px≠l∧px≠pm) {k li g s p0 p1 p2 p3 p4 p5 p6 p7' p8 p9 p10 nx:Nat} (gb:g<4294967296) (sb:s<4294967296) (pb:∀ v∈[p0,p1,p2,p3,p4,p5,p6,p7',p8,p9,p10],v<4294967296) (nb:nx<4294967296) {ns:List Nat} {h:Go.Ev.H} (hl:h.get l=some (Np lts .ready d)) (h7:h.get p7=some (.row 1 [[.slice pm p 64 1]] false)) (hx:h.get pm=some (.row 256 [pgL ns] false)) (xl:ns.length=256) (hw:h.get pw=some (.row 1 [[.ptr px 0]] false)) (hi:h.get px=some (.row 16 [Dq k li g s p0 p1 p2 p3 p4 p5 p6 p7' p8 p9 p10 nx] false)) :
  ∃ v h',Zd K Tryz.prog 132 [.c (.yield l),.c (.ptr pw 0)] h v h'∧h'.next=h.next∧h'.get l=some (Np lts .ready d)∧h'.get pm=some (.row 256 [pgL (Uk (Zh0 (Uk (Uk ns (p+4) g) (p+8) s) (p+12) [p0,p1,p2,p3,p4,p5,p6,p7',p8,p9,p10]) (p+56) nx)] false)∧∀ m,m≠l→m≠pm→h'.get m=h.get m:=by
 obtain⟨h1,r1,n1,l1,x1,k1⟩:=R 4 g ns h (by omega) gb hl h7 hx xl
 obtain⟨h2,r2,n2,l2,x2,k2⟩:=R 8 s _ h1 (by omega) sb l1 ((k1 _ n7.1 n7.2).trans h7) x1 (by rw[Ye]; exact xl)
 have w1:=(k1 _ nw.1 nw.2).trans hw
 have i1:=(k1 _ nx'.1 nx'.2).trans hi
 have w2:=(k2 _ nw.1 nw.2).trans w1
 have i2:=(k2 _ nx'.1 nx'.2).trans i1
 have h72:=(k2 _ n7.1 n7.2).trans ((k1 _ n7.1 n7.2).trans h7)
 have r1':Df E l (some [.c (.int .i64 4),.c (.int .u32 (g:Int))]) h (some (Np lts .ready d))=some (.val (.w (.c (.bool true))) h1):=r1
 have r2':Df E l (some [.c (.int .i64 8),.c (.int .u32 (s:Int))]) h1 (some (Np lts .ready d))=some (.val (.w (.c (.bool true))) h2):=r2
 refine Zd.Ya fits Hh (by kernel_rfl) (by kernel_rfl) (by kernel_rfl) (show Tryz.f132.body=some (q132 []) by kernel_rfl) rfl ?_
 show Goes K Tryz.prog 44 none _ _ _ _ _
 refine Goes.Zq Yhd ?_
 refine Goes.Zq q132_0 ?_
 refine Goes.Zw Yaa fits Hh S (by
  simp only[q132,Tryz.f132,piece,part0,part1,part2,Yh,part3,part4,part5,part6,Z5,Zt]
  iterate 17 (refine Fb (by simp (maxSteps:=9^6) +decide (disch:=first|omega|(simp only[lens]<;>omega)|decide) only [go_sem,Zc,Za,simprocAttr,hl,hw,hi,Dq,r1',l1,w1,i1,r2',w2,i2,read1]<;>rfl) ?_)
  exact Fh) ?_
 refine Goes.Yy Z9m (by simp (maxSteps:=9^6) +decide (disch:=first|omega|(simp only[lens]<;>omega)|decide) only [go_sem,Zc,Za,simprocAttr,hl,hw,hi,Dq,r1',l1,w1,i1,r2',w2,i2,read1]<;>rfl) (by first|rfl|assumption|exact decide_eq_false (by omega)|(simp; omega)) ?_
 refine Goes.Jc Z76 ?_
 refine Goes.Zq q132_1 ?_
 refine Goes.Zq Yap ?_
 refine Goes.Zw Z78 fits Hh Zb (by
  simp (maxSteps:=9^6) +decide (disch:=first|omega|(simp only[lens]<;>omega)|decide) only [go_sem,q132,Tryz.f132,Zc,Za,simprocAttr,hl,hw,hi,Dq,r1',l1,w1,i1,r2',w2,i2,read1]
  rfl) ?_
 refine Goes.Ul Z8r (Goes.block ?_)
 refine (Zv7 Hh (pw:=pw) S R n7 rfl pb _ 0 _ _ h2 rfl rfl l2 h72 x2 (by rw[Ye,Ye]; exact xl) ?_ ?_ ?_ ?_).mono ?_
 ·simp (decide:=true) only [Zi,reduceIte,U9,List.getElem?_cons_zero]
 ·simp (decide:=true) only [Zi,reduceIte,U9,List.getElem?_cons_succ,List.getElem?_cons_zero]
 ·simp (decide:=true) only [Zi,reduceIte]<;>rfl
 ·simp (decide:=true) only [Zi,reduceIte]<;>rfl
 rintro x ds' ts' h3 ⟨rfl,rfl,f0,f1,n3,l3,x3,k3⟩
 obtain⟨h4,r4,n4,l4,x4,k4⟩:=R 56 nx _ h3 (by omega) nb l3 ((k3 _ n7.1 n7.2).trans h72) x3 (by rw[Ec,Ye,Ye]; exact xl)
 have w3:=(k3 _ nw.1 nw.2).trans w2
 have i3:=(k3 _ nx'.1 nx'.2).trans i2
 have r4':Df E l (some [.c (.int .i64 56),.c (.int .u32 (nx:Int))]) h3 (some (Np lts .ready d))=some (.val (.w (.c (.bool true))) h4):=r4
 refine Goes.Zw Z98 fits Hh S (by
  simp (maxSteps:=9^6) +decide (disch:=first|omega|(simp only[lens]<;>omega)|decide) only [go_sem,q132,Tryz.f132,Zc,Za,simprocAttr,f0,f1,l3,w3,i3,Dq,r4',read1]
  rfl) ?_
 exact⟨_,_,(by simp (maxSteps:=9^6) +decide (disch:=first|omega|(simp only[lens]<;>omega)|decide) only [go_sem,Zc,Za,simprocAttr]<;>rfl),by rw[n4,n3,n2,n1],l4,x4,fun m m1 m2=>(k4 m m1 m2).trans ((k3 m m1 m2).trans ((k2 m m1 m2).trans (k1 m m1 m2)))⟩
theorem Z9l {ts:Zy} {h:Go.Ev.H} (pl:p+64≤256) {k li g s p0 p1 p2 p3 p4 p5 p6 p7' p8 p9 p10 nx:Nat} (gb:g<4294967296) (sb:s<4294967296) (pb:∀ v∈[p0,p1,p2,p3,p4,p5,p6,p7',p8,p9,p10],v<4294967296) (nb:nx<4294967296) {ns:List Nat} (h7:h.get p7=some (.row 1 [[.slice pm p 64 1]] false)) (hx:h.get pm=some (.row 256 [pgL ns] false)) (xl:ns.length=256) (hw:h.get pw=some (.row 1 [[.ptr px 0]] false)) (hi:h.get px=some (.row 16 [Dq k li g s p0 p1 p2 p3 p4 p5 p6 p7' p8 p9 p10 nx] false))
  (e7:Zp ts 7=.w (.c (.ptr p7 0))) (e37:Zp ts 37=.w (.c (.fn 132 [] [some (pw,0)]))) (l7:p7<h.next) (lm:pm<h.next) (lw:pw<h.next) (lx:px<h.next) (n7:p7≠pm) (nw:pw≠pm) (nxm:px≠pm) :
  Goes K Tryz.prog 44 none (q57 [1,1,1,1,1,1,0,1,2]) [] ts h fun x ds' ts' h'=>x=.normal∧ts'=ts∧ds'=[h.next]∧h'.next=h.next+1+1∧h'.get h.next=some .defers∧h'.get pm=some (.row 256 [pgL (Uk (Zh0 (Uk (Uk ns (p+4) g) (p+8) s) (p+12) [p0,p1,p2,p3,p4,p5,p6,p7',p8,p9,p10]) (p+56) nx)] false)∧∀ m,m<h.next→m≠pm→h'.get m=h.get m:=by
 have g0:∀ (o:O) m,m<h.next→((h.new .defers).new o).get m=h.get m:=fun o m hm=>by rw[Y3 (by rw[H.Ze]; omega),Y3 (by omega)]
 have gd:∀ o:O,((h.new .defers).new o).get h.next=some .defers:=fun o=>by rw[Y3 (by rw[H.Ze]; omega),El]
 obtain⟨E,S,R⟩:=Ye3 Hh (lts:=ts) (h.next+1) p7 pm pl (by omega) (by omega) e7 h.next
 rw[Zmr]
 refine Goes.Zws fits Hh (f:=132) (first:=[]) (caps:=[some (pw,0)]) (by simp only[Z0,Y0,e37,asC]) (exE (Z5l Hh (px:=px) (pw:=pw) S R ⟨by omega,n7⟩ ⟨by omega,nw⟩ ⟨by omega,nxm⟩ gb sb pb nb (by rw[Mk (by simp only[H.Ze]<;>omega)]; rfl) (by rw[g0 _ _ l7]; exact h7) (by rw[g0 _ _ lm]; exact hx) xl (by rw[g0 _ _ lw]; exact hw) (by rw[g0 _ _ lx]; exact hi)) ?_)
 rintro v h3 ⟨w0,w1,w2,w3⟩
 refine⟨_,_,_,_,_,_,_,_,w1,by simp,?_⟩
 show _∧_∧_
 refine⟨rfl,rfl,rfl,?_,?_,?_,fun m hm hne=>?_⟩
 ·rw[H.Zg,w0]; rfl
 ·rw[Zv (by omega),w3 _ (by omega) (by omega),gd]
 ·rw[Zv (by omega),w2]
 ·rw[Zv (by omega),w3 _ (by omega) hne,g0 _ _ hm]
end
end
end Go.Proofs.YtmdibcklpmeleaaGreatDoor
set_option maxRecDepth 100000
set_option maxHeartbeats 4000000
namespace Go.Proofs.YtmdibcklpmeleaaGreatDoor
open Go.Ev
theorem Yis {ns:List Nat} {p:Nat} (nl:ns.length=256) (pl:p+64≤256):Zx 256 [pgL ns] p (List.replicate 64 (.int .u8 0))=some [pgL (Zel ns p)]:=by
 have e:List.replicate 64 (C.int .u8 0)=.int .u8 0 :: .int .u8 0 :: List.replicate 62 (.int .u8 0):=rfl
 have z:pgL (List.replicate 64 0)=List.replicate 64 (.int .u8 0):=rfl
 unfold Zel
 rw[show pgL (ns.take p++(List.replicate 64 0++ns.drop (p+64)))=(pgL ns).take p++List.replicate 64 (.int .u8 0)++(pgL ns).drop (p+64) by rw[←z]; simp only[pgL,List.map_append,List.map_take,List.map_drop,List.append_assoc]]
 rw[e]
 simp only[Zx]
 rw[Nat.div_eq_of_lt (by omega),Nat.mod_eq_of_lt (by omega),List.getElem?_cons_zero]
 simp only[Et,nl,List.length_cons,List.length_replicate]
 rw[Wx (by omega),cond_true]
 rfl
section
variable (Hh:Hearts K Tryz.prog)
include Hh
theorem Ycg (x:Nat) (h:Go.Ev.H):Zd K Tryz.prog 102 [.c (.ptr x 0)] h (.w (.c (.fn 132 [] [some (h.next,0)]))) (h.new (.row 1 [[.ptr x 0]] false)):=by
 refine Zd.goes fits Hh (by kernel_rfl) (by kernel_rfl) (by kernel_rfl) (show Tryz.f102.body=some (q102 []) by kernel_rfl) rfl ?_
 show Goes K Tryz.prog 4 none _ _ _ _ _
 refine Goes.Zq Yg6 ?_
 refine Goes.Zw q102_0 fits Hh Zb (by
  simp (maxSteps:=9^6) +decide (disch:=first|omega|(simp only[lens]<;>omega)|decide) only [go_sem,q102,Tryz.f102,Zc,Za,simprocAttr,Zn]
  rfl) ?_
 refine Goes.Zq q102_1 ?_
 refine Goes.Zw Yci fits Hh Zb (by
  simp (maxSteps:=9^6) +decide (disch:=first|omega|(simp only[lens]<;>omega)|decide) only [go_sem,q102,Tryz.f102,Zc,Za,simprocAttr,Zn]
  rfl) ?_
 refine Goes.Gl Z94 ?_
 simp (maxSteps:=9^6) +decide (disch:=first|omega|(simp only[lens]<;>omega)|decide) only [go_sem,Zc,Za,simprocAttr,Zn]<;>rfl
theorem Ycv {ns:List Nat} {p:Nat} (nl:ns.length=256) (pc:p=0∨p=64∨p=128∨p=192) {k l g s p0 p1 p2 p3 p4 p5 p6 p7 p8 p9 p10 nx:Nat} (kb:k<256) (lb:l<65536) (gb:g<4294967296) (sb:s<4294967296) (pb:∀ v∈[p0,p1,p2,p3,p4,p5,p6,p7,p8,p9,p10],v<4294967296) (nb:nx<4294967296) (hm:Zh4 k l s p0 p1 p2 p3 p4 p5 p6 p7 p8 p9 p10 nx=true) {h:Go.Ev.H} {m:Nat} (hp:h.get m=some (.row 256 [pgL ns] false)) (lm:m<h.next) :
  ∃ h',Zd K Tryz.prog 57 [.c (.ptr m 0),.c (.int .i64 (p:Int)),.g (Dq k l g s p0 p1 p2 p3 p4 p5 p6 p7 p8 p9 p10 nx)] h (.w (.c (.int .i64 0))) h'∧h.next≤h'.next∧h'.get m=some (.row 256 [pgL (F5 ns p k l g s [p0,p1,p2,p3,p4,p5,p6,p7,p8,p9,p10] nx)] false)∧∀ j,j<h.next→j≠m→h'.get j=h.get j:=by
 have pl:p+64≤256:=by omega
 have pd:decide ((p:Int)=0∨(p:Int)=64∨(p:Int)=128∨(p:Int)=192)=true:=decide_eq_true (by omega)
 have p1':(p:Int)+64=((p+64:Nat):Int):=rfl
 have xl:(pgL ns).length=256:=by rw[Et,nl]
 have rc:read1 256 [pgL ns] 255=some (.int .u8 ((atN ns 255:Nat):Int)):=Z3v ⟨by omega,by omega⟩
 have hi:=fun h=>Zi6 Hh k l g s p0 p1 p2 p3 p4 p5 p6 p7 p8 p9 p10 nx h
 rw[hm] at hi
 change ∀ h,Zd K Tryz.prog 32 [.g (Dq k l g s p0 p1 p2 p3 p4 p5 p6 p7 p8 p9 p10 nx)] h (.w (.c (.bool true))) h at hi
 have cl:(Zel ns p).length=256:=by rw[Mo (by omega),nl]
 have cw:=Yis nl pl
 simp only[List.reduceReplicate] at cw
 have q7:∀ x:C,read1 1 [[x]] 0=some x:=fun _=>rfl
 obtain⟨w,hw⟩:∃ w,Dq k l g s p0 p1 p2 p3 p4 p5 p6 p7 p8 p9 p10 nx=w:=⟨_,rfl⟩
 have wl:w.length=16:=by rw[←hw]; rfl
 have rk:read1 16 [w] 0=some (.int .u8 (k:Int)):=by rw[←hw]; rfl
 have rl:read1 16 [w] 1=some (.int .i64 (l:Int)):=by rw[←hw]; rfl
 have wk:Jm .u8 (k:Int)=.int .u8 ((k % 256:Nat):Int):=wr8
 have ek:(C.int .u8 (k:Int))=.int .u8 ((k % 256:Nat):Int):=by rw[Nat.mod_eq_of_lt kb]
 have sk:Zx 256 [pgL (Zel ns p)] p [.int .u8 (k:Int)]=some [pgL ((Zel ns p).set p k)]:=by rw[ek]; exact Ye8 ⟨by omega,by omega⟩
 have sl:((Zel ns p).set p k).length=256:=by rw[List.length_set,cl]
 have p2l:(Ut ((Zel ns p).set p k) (p+2) l).length=256:=by rw[Yt,sl]
 obtain⟨N,hN⟩:∃ N,(Zel ns p).set p k=N:=⟨_,rfl⟩
 obtain⟨M,hM⟩:∃ M,Ut N (p+2) l=M:=⟨_,rfl⟩
 unfold F5
 rw[hN] at sk sl p2l ⊢
 rw[hM] at p2l ⊢
 obtain⟨Z,hZ⟩:∃ Z,Zel ns p=Z:=⟨_,rfl⟩
 rw[hZ] at sk cw cl
 have Zl:(pgL Z).length=256:=by rw[Et,cl]
 rw[hw] at hi ⊢
 obtain⟨v,h',cc,rfl,r1,r2,r3⟩:∃ v h',Zd K Tryz.prog 57 [.c (.ptr m 0),.c (.int .i64 (p:Int)),.g w] h v h'∧v=.w (.c (.int .i64 0))∧h.next≤h'.next∧h'.get m=some (.row 256 [pgL (Uk (Zh0 (Uk (Uk M (p+4) g) (p+8) s) (p+12) [p0,p1,p2,p3,p4,p5,p6,p7,p8,p9,p10]) (p+56) nx)] false)∧∀ j,j<h.next→j≠m→h'.get j=h.get j:=by
  refine Zd.Ya fits Hh (by kernel_rfl) (by kernel_rfl) (by kernel_rfl) (show Tryz.f57.body=some (q57 []) by kernel_rfl) rfl ?_
  show Goes K Tryz.prog 44 none _ _ _ _ _
  refine Goes.Zq Yh4 ?_
  refine Goes.Zw q57_0 fits Hh Zb (by
   simp (maxSteps:=9^6) +decide (disch:=first|omega|(simp only[lens]<;>omega)|decide) only [go_sem,q57,Tryz.f57,Za,simprocAttr,pd,p1',hp,xl,rc,wl,q7,cw,rk,rl,sk,sl,cl,Zl,hM,Zn,Yp,Ue,bound,Jg,reaches,Zm,Bf,Lf,Dm,Nat.add_zero,Nat.zero_add,Nat.mul_one,Nat.add_sub_cancel_left]
   rfl) ?_
  refine Goes.Zq q57_1 ?_
  refine Goes.Ul Yft (Goes.block ?_)
  refine Goes.Zq Ycl ?_
  refine Goes.Zw Z72 fits Hh Zb (by
   simp (maxSteps:=9^6) +decide (disch:=first|omega|(simp only[lens]<;>omega)|decide) only [go_sem,q57,Tryz.f57,Za,simprocAttr,pd,p1',hp,xl,rc,wl,q7,cw,rk,rl,sk,sl,cl,Zl,hM,Zn,Yp,Ue,bound,Jg,reaches,Zm,Bf,Lf,Dm,Nat.add_zero,Nat.zero_add,Nat.mul_one,Nat.add_sub_cancel_left]
   rfl) ?_
  refine Goes.Yy Z4n (by simp (maxSteps:=9^6) +decide (disch:=first|omega|(simp only[lens]<;>omega)|decide) only [go_sem,Za,simprocAttr,pd,p1',hp,xl,rc,wl,q7,cw,rk,rl,sk,sl,cl,Zl,hM,Zn,Yp,Ue,bound,Jg,reaches,Zm,Bf,Lf,Dm,Nat.add_zero,Nat.zero_add,Nat.mul_one,Nat.add_sub_cancel_left]<;>rfl) (by first|rfl|assumption|exact decide_eq_false (by omega)|(simp; omega)) ?_
  refine Goes.Zq Z0t ?_
  refine Goes.Zw Zxv fits Hh (Zf Zb (fun _ _ _ _=>Sq Hh)) (by
   simp (maxSteps:=9^6) +decide (disch:=first|omega|(simp only[lens]<;>omega)|decide) only [go_sem,q57,Tryz.f57,Za,simprocAttr,pd,p1',hp,xl,rc,wl,q7,cw,rk,rl,sk,sl,cl,Zl,hM,Zn,Yp,Ue,bound,Jg,reaches,Zm,Bf,Lf,Dm,Nat.add_zero,Nat.zero_add,Nat.mul_one,Nat.add_sub_cancel_left]
   rfl) ?_
  refine Goes.Yy Zy3 (by simp (maxSteps:=9^6) +decide (disch:=first|omega|(simp only[lens]<;>omega)|decide) only [go_sem,Za,simprocAttr,pd,p1',hp,xl,rc,wl,q7,cw,rk,rl,sk,sl,cl,Zl,hM,Zn,Yp,Ue,bound,Jg,reaches,Zm,Bf,Lf,Dm,Nat.add_zero,Nat.zero_add,Nat.mul_one,Nat.add_sub_cancel_left]<;>rfl) (by first|rfl|assumption|exact decide_eq_false (by omega)|(simp; omega)) ?_
  refine Goes.Zq Ztg ?_
  refine Goes.Zw Zq4 fits Hh (Bo Zb hi) (by
   simp (maxSteps:=9^6) +decide (disch:=first|omega|(simp only[lens]<;>omega)|decide) only [go_sem,q57,Tryz.f57,Za,simprocAttr,pd,p1',hp,xl,rc,wl,q7,cw,rk,rl,sk,sl,cl,Zl,hM,Zn,Yp,Ue,bound,Jg,reaches,Zm,Bf,Lf,Dm,Nat.add_zero,Nat.zero_add,Nat.mul_one,Nat.add_sub_cancel_left]
   rfl) ?_
  refine Goes.Yy Zpa (by simp (maxSteps:=9^6) +decide (disch:=first|omega|(simp only[lens]<;>omega)|decide) only [go_sem,Za,simprocAttr,pd,p1',hp,xl,rc,wl,q7,cw,rk,rl,sk,sl,cl,Zl,hM,Zn,Yp,Ue,bound,Jg,reaches,Zm,Bf,Lf,Dm,Nat.add_zero,Nat.zero_add,Nat.mul_one,Nat.add_sub_cancel_left]<;>rfl) (by first|rfl|assumption|exact decide_eq_false (by omega)|(simp; omega)) ?_
  refine Goes.Jc Zm0 ?_
  refine Goes.Zq Yd3 ?_
  refine Goes.Zw Ycs fits Hh Zb (by
   simp (maxSteps:=9^6) +decide (disch:=first|omega|(simp only[lens]<;>omega)|decide) only [go_sem,q57,Tryz.f57,Za,simprocAttr,pd,p1',hp,xl,rc,wl,q7,cw,rk,rl,sk,sl,cl,Zl,hM,Zn,Yp,Ue,bound,Jg,reaches,Zm,Bf,Lf,Dm,Nat.add_zero,Nat.zero_add,Nat.mul_one,Nat.add_sub_cancel_left]
   rfl) ?_
  refine Goes.Zq Ybg ?_
  refine Goes.Zw Z71 fits Hh Zb (by
   simp (maxSteps:=9^6) +decide (disch:=first|omega|(simp only[lens]<;>omega)|decide) only [go_sem,q57,Tryz.f57,Za,simprocAttr,pd,p1',hp,xl,rc,wl,q7,cw,rk,rl,sk,sl,cl,Zl,hM,Zn,Yp,Ue,bound,Jg,reaches,Zm,Bf,Lf,Dm,Nat.add_zero,Nat.zero_add,Nat.mul_one,Nat.add_sub_cancel_left]
   rfl) ?_
  refine Goes.Zq Z45 ?_
  refine Goes.Zw Z2q fits Hh Zb (by
   simp (maxSteps:=9^6) +decide (disch:=first|omega|(simp only[lens]<;>omega)|decide) only [go_sem,q57,Tryz.f57,Za,simprocAttr,pd,p1',hp,xl,rc,wl,q7,cw,rk,rl,sk,sl,cl,Zl,hM,Zn,Yp,Ue,bound,Jg,reaches,Zm,Bf,Lf,Dm,Nat.add_zero,Nat.zero_add,Nat.mul_one,Nat.add_sub_cancel_left]
   rfl) ?_
  refine Goes.Zq Z05 ?_
  refine Goes.Zw Zvo fits Hh (Zf Zb (fun _ _ _ _=>Znq Hh)) (by
   simp (maxSteps:=9^6) +decide (disch:=first|omega|(simp only[lens]<;>omega)|decide) only [go_sem,q57,Tryz.f57,Za,simprocAttr,pd,p1',hp,xl,rc,wl,q7,cw,rk,rl,sk,sl,cl,Zl,hM,Zn,Yp,Ue,bound,Jg,reaches,Zm,Bf,Lf,Dm,Nat.add_zero,Nat.zero_add,Nat.mul_one,Nat.add_sub_cancel_left]
   rfl) ?_
  refine Goes.Zq Zxj ?_
  refine Goes.Zq Zu8 ?_
  refine Goes.Zw Zrv fits Hh (Bo Zb (Ycg Hh h.next)) (by
   simp (maxSteps:=9^6) +decide (disch:=first|omega|(simp only[lens]<;>omega)|decide) only [go_sem,q57,Tryz.f57,Za,simprocAttr,pd,p1',hp,xl,rc,wl,q7,cw,rk,rl,sk,sl,cl,Zl,hM,Zn,Yp,Ue,bound,Jg,reaches,Zm,Bf,Lf,Dm,Nat.add_zero,Nat.zero_add,Nat.mul_one,Nat.add_sub_cancel_left]
   rfl) ?_
  refine Goes.Ul Zqx (Goes.block ?_)
  refine Goes.abs fun hB eB=>?_
  have nB:hB.next=h.next+1+1+1:=by rw[eB]; simp only[H.Zg,H.Ze]
  have kB:∀ j,j<h.next→j≠m→hB.get j=h.get j:=fun j hj hne=>by rw[eB]; (first|(simp (discharger:=omega) only [H.get_put,H.Zh,H.Zk,H.Ze,H.Zg,H.Zj,if_neg]; done)|(simp only[H.get_put,H.Zh,H.Zk,H.Ze,H.Zg,H.Zj]; (repeat' split)<;>first|rfl|(exfalso; omega)|omega))
  have b7:hB.get (h.next+1)=some (.row 1 [[.slice m p 64 1]] false):=by rw[eB]; simp (maxSteps:=9^6) +decide (disch:=first|omega|(simp only[lens]<;>omega)|decide) only [go_sem,Zc,Za,simprocAttr]<;>rfl
  have bm:hB.get m=some (.row 256 [pgL M] false):=by rw[eB]; simp (maxSteps:=9^6) +decide (disch:=first|omega|(simp only[lens]<;>omega)|decide) only [go_sem,Zc,Za,simprocAttr]<;>rfl
  have bw:hB.get (h.next+1+1)=some (.row 1 [[.ptr h.next 0]] false):=by rw[eB]; simp (maxSteps:=9^6) +decide (disch:=first|omega|(simp only[lens]<;>omega)|decide) only [go_sem,Zc,Za,simprocAttr]<;>rfl
  have bx:hB.get h.next=some (.row 16 [w] false):=by rw[eB]; simp (maxSteps:=9^6) +decide (disch:=first|omega|(simp only[lens]<;>omega)|decide) only [go_sem,Zc,Za,simprocAttr]<;>rfl
  clear eB
  rw[←hw] at bx
  refine (Z9l Hh (h:=hB) (p7:=h.next+1) (pm:=m) (px:=h.next) (pw:=h.next+1+1) pl gb sb pb nb b7 bm p2l bw bx ?_ ?_ (by omega) (by omega) (by omega) (by omega) (by omega) (by omega) (by omega)).mono ?_
  ·simp (decide:=true) only [Zi,reduceIte]
  ·simp (decide:=true) only [Zi,reduceIte]<;>rfl
  rintro x ds' ts' hD ⟨rfl,rfl,rfl,nD,gd,mD,kD⟩
  rw[nB] at gd nD
  refine Goes.Zq Ztf ?_
  refine Goes.Zw Zpc fits Hh Zb (by
   simp (maxSteps:=9^6) +decide (disch:=first|omega|(simp only[lens]<;>omega)|decide) only [go_sem,q57,Tryz.f57,Zc,Za,simprocAttr,nB,gd]
   rfl) ?_
  refine Goes.Gl Zpm ?_
  refine⟨_,_,(by simp (maxSteps:=9^6) +decide (disch:=first|omega|(simp only[lens]<;>omega)|decide) only [go_sem,Zc,Za,simprocAttr,gd,nB]<;>rfl),rfl,?_,?_,fun j hj hne=>?_⟩
  ·simp only[H.Zg,H.Ze,H.Zj,nD]<;>omega
  ·refine Eq.trans ?_ mD; (first|(simp (discharger:=omega) only [H.get_put,H.Zh,H.Zk,H.Ze,H.Zg,H.Zj,if_neg]; done)|(simp only[H.get_put,H.Zh,H.Zk,H.Ze,H.Zg,H.Zj]; (repeat' split)<;>first|rfl|(exfalso; omega)|omega))
  ·refine Eq.trans ?_ ((kD j (by omega) hne).trans (kB j hj hne)); (first|(simp (discharger:=omega) only [H.get_put,H.Zh,H.Zk,H.Ze,H.Zg,H.Zj,if_neg]; done)|(simp only[H.get_put,H.Zh,H.Zk,H.Ze,H.Zg,H.Zj]; (repeat' split)<;>first|rfl|(exfalso; omega)|omega))
 exact⟨h',cc,r1,r2,r3⟩
end
end Go.Proofs.YtmdibcklpmeleaaGreatDoor
set_option maxRecDepth 100000
set_option maxHeartbeats 4000000
namespace Go.Proofs.YtmdibcklpmeleaaGreatDoor
open Go.Ev
noncomputable def q9 (p:List Nat):Code:=piece p (Z5 Tryz.f9)
theorem q9_:q9 []=.seq (q9 [0]) (q9 [1]):=by kernel_rfl
theorem q9_0:q9 [0]=.region 0 (Zt (q9 [0])) false:=by kernel_rfl
theorem q9_1:q9 [1]=.seq (q9 [1,0]) (q9 [1,1]):=by kernel_rfl
theorem Z5t:q9 [1,0]=.seq (q9 [1,0,0]) (q9 [1,0,1]):=by kernel_rfl
theorem Zyd:q9 [1,0,0]=.region 1 (Zt (q9 [1,0,0])) false:=by kernel_rfl
theorem Zx5:q9 [1,0,1]=.seq (q9 [1,0,1,0]) (q9 [1,0,1,1]):=by kernel_rfl
theorem Zr6:q9 [1,0,1,0]=.region 2 (Zt (q9 [1,0,1,0])) false:=by kernel_rfl
theorem Zq7:q9 [1,0,1,1]=.cond (.tmp 14) (q9 [1,0,1,1,3]) (q9 [1,0,1,1,4]):=by kernel_rfl
theorem Zkq:q9 [1,0,1,1,4]=.skip:=by kernel_rfl
theorem Z6u:q9 [1,1]=.seq (q9 [1,1,0]) (q9 [1,1,1]):=by kernel_rfl
theorem Zv1:q9 [1,1,0]=.seq (q9 [1,1,0,0]) (q9 [1,1,0,1]):=by kernel_rfl
theorem Zrd:q9 [1,1,0,0]=.region 4 (Zt (q9 [1,1,0,0])) false:=by kernel_rfl
theorem Zrk:q9 [1,1,0,1]=.seq (q9 [1,1,0,1,0]) (q9 [1,1,0,1,1]):=by kernel_rfl
theorem Zlh:q9 [1,1,0,1,0]=.region 5 (Zt (q9 [1,1,0,1,0])) false:=by kernel_rfl
theorem Zjd:q9 [1,1,0,1,1]=.cond (.tmp 25) (q9 [1,1,0,1,1,3]) (q9 [1,1,0,1,1,4]):=by kernel_rfl
theorem Z06:q9 [1,1,0,1,1,3]=.seq (q9 [1,1,0,1,1,3,0]) (q9 [1,1,0,1,1,3,1]):=by kernel_rfl
theorem Zyn:q9 [1,1,0,1,1,3,0]=.region 6 (Zt (q9 [1,1,0,1,1,3,0])) false:=by kernel_rfl
theorem Zwj:q9 [1,1,0,1,1,3,1]=.ret:=by kernel_rfl
theorem Zo2:q9 [1,1,0,1,1,4]=.skip:=by kernel_rfl
theorem Z68:q9 [1,1,1]=.seq (q9 [1,1,1,0]) (q9 [1,1,1,1]):=by kernel_rfl
theorem Zzb:q9 [1,1,1,0]=.seq (q9 [1,1,1,0,0]) (q9 [1,1,1,0,1]):=by kernel_rfl
theorem Ztj:q9 [1,1,1,0,0]=.region 7 (Zt (q9 [1,1,1,0,0])) false:=by kernel_rfl
theorem Zsa:q9 [1,1,1,0,1]=.cond (.tmp 28) (q9 [1,1,1,0,1,3]) (q9 [1,1,1,0,1,4]):=by kernel_rfl
theorem Z3d:q9 [1,1,1,0,1,3]=.seq (q9 [1,1,1,0,1,3,0]) (q9 [1,1,1,0,1,3,1]):=by kernel_rfl
theorem Zxp:q9 [1,1,1,0,1,3,0]=.region 8 (Zt (q9 [1,1,1,0,1,3,0])) false:=by kernel_rfl
theorem Zxk:q9 [1,1,1,0,1,3,1]=.ret:=by kernel_rfl
theorem Z3j:q9 [1,1,1,0,1,4]=.skip:=by kernel_rfl
theorem Z99:q9 [1,1,1,1]=.seq (q9 [1,1,1,1,0]) (q9 [1,1,1,1,1]):=by kernel_rfl
theorem Z8q:q9 [1,1,1,1,0]=.region 9 (Zt (q9 [1,1,1,1,0])) false:=by kernel_rfl
theorem Z63:q9 [1,1,1,1,1]=.ret:=by kernel_rfl
noncomputable def q33 (p:List Nat):Code:=piece p (Z5 Tryz.f33)
theorem Yip:q33 []=.seq (q33 [0]) (q33 [1]):=by kernel_rfl
theorem q33_0:q33 [0]=.region 0 (Zt (q33 [0])) false:=by kernel_rfl
theorem q33_1:q33 [1]=.seq (q33 [1,0]) (q33 [1,1]):=by kernel_rfl
theorem Yfi:q33 [1,0]=.region 1 (Zt (q33 [1,0])) false:=by kernel_rfl
theorem Yer:q33 [1,1]=.seq (q33 [1,1,0]) (q33 [1,1,1]):=by kernel_rfl
theorem Yad:q33 [1,1,0]=.seq (q33 [1,1,0,0]) (q33 [1,1,0,1]):=by kernel_rfl
theorem Z77:q33 [1,1,0,0]=.region 2 (Zt (q33 [1,1,0,0])) false:=by kernel_rfl
theorem Z6f:q33 [1,1,0,1]=.cond (.tmp 22) (q33 [1,1,0,1,3]) (q33 [1,1,0,1,4]):=by kernel_rfl
theorem Z36:q33 [1,1,0,1,4]=.skip:=by kernel_rfl
theorem Z9f:q33 [1,1,1]=.seq (q33 [1,1,1,0]) (q33 [1,1,1,1]):=by kernel_rfl
theorem Z5u:q33 [1,1,1,0]=.region 4 (Zt (q33 [1,1,1,0])) false:=by kernel_rfl
theorem Z4h:q33 [1,1,1,1]=.seq (q33 [1,1,1,1,0]) (q33 [1,1,1,1,1]):=by kernel_rfl
theorem Z2y:q33 [1,1,1,1,0]=.seq (q33 [1,1,1,1,0,0]) (q33 [1,1,1,1,0,1]):=by kernel_rfl
theorem Zv9:q33 [1,1,1,1,0,0]=.region 5 (Zt (q33 [1,1,1,1,0,0])) false:=by kernel_rfl
theorem Zv8:q33 [1,1,1,1,0,1]=.cond (.tmp 30) (q33 [1,1,1,1,0,1,3]) (q33 [1,1,1,1,0,1,4]):=by kernel_rfl
theorem Zte:q33 [1,1,1,1,0,1,4]=.skip:=by kernel_rfl
theorem Z23:q33 [1,1,1,1,1]=.seq (q33 [1,1,1,1,1,0]) (q33 [1,1,1,1,1,1]):=by kernel_rfl
theorem Zvt:q33 [1,1,1,1,1,0]=.seq (q33 [1,1,1,1,1,0,0]) (q33 [1,1,1,1,1,0,1]):=by kernel_rfl
theorem Zs7:q33 [1,1,1,1,1,0,0]=.region 7 (Zt (q33 [1,1,1,1,1,0,0])) false:=by kernel_rfl
theorem Zsv:q33 [1,1,1,1,1,0,1]=.seq (q33 [1,1,1,1,1,0,1,0]) (q33 [1,1,1,1,1,0,1,1]):=by kernel_rfl
theorem Zo8:q33 [1,1,1,1,1,0,1,0]=.region 8 (Zt (q33 [1,1,1,1,1,0,1,0])) false:=by kernel_rfl
theorem Zp6:q33 [1,1,1,1,1,0,1,1]=.cond (.tmp 36) (q33 [1,1,1,1,1,0,1,1,3]) (q33 [1,1,1,1,1,0,1,1,4]):=by kernel_rfl
theorem Znm:q33 [1,1,1,1,1,0,1,1,4]=.skip:=by kernel_rfl
theorem Zxn:q33 [1,1,1,1,1,1]=.seq (q33 [1,1,1,1,1,1,0]) (q33 [1,1,1,1,1,1,1]):=by kernel_rfl
theorem Zsz:q33 [1,1,1,1,1,1,0]=.region 10 (Zt (q33 [1,1,1,1,1,1,0])) false:=by kernel_rfl
theorem Zuz:q33 [1,1,1,1,1,1,1]=.ret:=by kernel_rfl
theorem rs33:Tryz.f33.results.toList=[.tmp 6]:=rfl
theorem rs9:Tryz.f9.results.toList=[.tmp 6]:=rfl
attribute [go_sem] rs33 rs9
def Zt4 (n m:Nat):Prop:=m=n+6∨m=n+13∨m=n+15∨m=n+17∨m=n+25
section
variable (Hh:Hearts K Tryz.prog)
include Hh
variable {n a b c e:Nat} {md:Int} {kn:Bool} {L:List (List C)} {h:Go.Ev.H}
theorem Yae (f:U7 a b c e=true) (M:MdE n a b c e md kn [] [] L h) {j:Nat} (jl:j<a * c) {ns ms:List Nat} (hx:L[Dp b c e j]? = some (pgL ns)) (nl:ns.length=256) (ml:ms.length=256) {y:List C} (yl:y.length=16)
  (hi:∀ h m,h.get m=some (.row 256 [pgL ns] false)→m<h.next→∃ h',Zd K Tryz.prog 57 [.c (.ptr m 0),.c (.int .i64 (Nh c j:Nat)),.g y] h (.w (.c (.int .i64 0))) h'∧h.next≤h'.next∧h'.get m=some (.row 256 [pgL ms] false)∧∀ k,k<h.next→k≠m→h'.get k=h.get k) :
  ∃ h',Zd K Tryz.prog 33 [.c (.ptr (n+13) 0),.c (.int .i64 ((j+1:Nat):Int)),.g y] h (.w (.c (.int .i64 0))) h'∧MdE n a b c e md false [((Dp b c e j:Nat),[])] [((Dp b c e j:Nat),pgL ms)] L h'∧h.next≤h'.next∧∀ m,m<h.next→¬Zt4 n m→h'.get m=h.get m:=by
 obtain⟨g1,g2,g3,g4,g5,g6,g7,g8,g9,g10,g11⟩:=Yn f
 have ka:j / c<a:=Nat.div_lt_of_lt_mul (by rw[Nat.mul_comm]; omega)
 have tc:j % c<c:=Nat.mod_lt _ (by omega)
 have st:=Bl (b:=b) ka
 obtain⟨z,hz⟩:∃ z,Dp b c e j=z:=⟨_,rfl⟩
 obtain⟨p,hp⟩:∃ p,Nh c j=p:=⟨_,rfl⟩
 rw[hz] at hx ⊢
 rw[hp] at hi
 unfold Dp at hz
 unfold Nh at hp
 have zl:z<2+e+a * b:=by omega
 have oz:=Ztp (z:=z) (Yn f) (by omega) zl
 have t1:((j+1:Nat):Int).toNat - 1=j:=by omega
 have d1:decide (1≤((j+1:Nat):Int))=true:=decide_eq_true (by omega)
 have d2:decide (((j+1:Nat):Int)≤((a * c:Nat):Int))=true:=decide_eq_true (by omega)
 have xl:(pgL ns).length=256:=by rw[Et,nl]
 have xf:=Nz ns
 have wl:(pgL ms).length=256:=by rw[Et,ml]
 have wf:=Nz ms
 have at0:At [] L z (pgL ns):=.inr ⟨rfl,hx⟩
 obtain⟨x,hxx⟩:∃ x,pgL ns=x:=⟨_,rfl⟩
 obtain⟨w,hww⟩:∃ w,pgL ms=w:=⟨_,rfl⟩
 rw[hxx] at at0 xl xf hx
 rw[hww] at wl wf ⊢
 simp only[hxx,hww] at hi
 have MM:=M
 obtain⟨nx,hs,gl⟩:n+32≤h.next∧h.get (n+13)=some (.row 8 [stL (stN n kn)] false)∧h.get (n+12)=some (.row 9 [gdL (gdN n a b c e md)] false):=by
  obtain⟨lm,_,_,M⟩:=M
  exact⟨M.nx,M.hs,M.hg⟩
 unfold gdL gdN at gl
 obtain⟨v,h',cc,rfl,M',nn,hk⟩:∃ v h',Zd K Tryz.prog 33 [.c (.ptr (n+13) 0),.c (.int .i64 ((j+1:Nat):Int)),.g y] h v h'∧v=.w (.c (.int .i64 0))∧MdE n a b c e md false [((z:Nat),[])] [((z:Nat),w)] L h'∧h.next≤h'.next∧∀ m,m<h.next→¬Zt4 n m→h'.get m=h.get m:=by
  refine Zd.Ya fits Hh (by kernel_rfl) (by kernel_rfl) (by kernel_rfl) (show Tryz.f33.body=some (q33 []) by kernel_rfl) rfl ?_
  show Goes K Tryz.prog 42 none _ _ _ _ _
  refine Goes.Zq Yip ?_
  refine Goes.Zw q33_0 fits Hh Zb (by
   simp (maxSteps:=9^6) +decide (disch:=first|omega|(simp only[lens]<;>omega)|decide) only [go_sem,q33,Tryz.f33,Za,simprocAttr,f,hs,stN,gl,Yf,t1,d1,d2,hz,hp,xl,wl,yl,read1,Zn]
   rfl) ?_
  refine Goes.Zq q33_1 ?_
  refine Goes.Zw Yfi fits Hh (Zf (Zf Zb (fun _ _ _ _=>Rz Hh)) (fun _ _ _ _=>Ff Hh)) (by
   simp (maxSteps:=9^6) +decide (disch:=first|omega|(simp only[lens]<;>omega)|decide) only [go_sem,q33,Tryz.f33,Za,simprocAttr,f,hs,stN,gl,Yf,t1,d1,d2,hz,hp,xl,wl,yl,read1,Zn]
   rfl) ?_
  refine Goes.Zq Yer ?_
  refine Goes.Zq Yad ?_
  refine Goes.Zw Z77 fits Hh Zb (by
   simp (maxSteps:=9^6) +decide (disch:=first|omega|(simp only[lens]<;>omega)|decide) only [go_sem,q33,Tryz.f33,Za,simprocAttr,f,hs,stN,gl,Yf,t1,d1,d2,hz,hp,xl,wl,yl,read1,Zn]
   rfl) ?_
  refine Goes.Yy Z6f (by simp (maxSteps:=9^6) +decide (disch:=first|omega|(simp only[lens]<;>omega)|decide) only [go_sem,Za,simprocAttr,f,hs,stN,gl,Yf,t1,d1,d2,hz,hp,xl,wl,yl,read1,Zn]<;>rfl) (by first|rfl|assumption|exact decide_eq_false (by omega)|(simp; omega)) ?_
  refine Goes.Jc Z36 ?_
  refine Goes.Zq Z9f ?_
  refine Goes.abs fun hA eA=>?_
  have nA:hA.next=h.next+1:=by rw[eA]; first|rfl|simp only[H.Zg,H.Ze]
  have kA:∀ m,m<h.next→hA.get m=h.get m:=fun m hm=>by rw[eA]; (first|(simp (discharger:=omega) only [H.get_put,H.Zh,H.Zk,H.Ze,H.Zg,H.Zj,if_neg]; done)|(simp only[H.get_put,H.Zh,H.Zk,H.Ze,H.Zg,H.Zj]; (repeat' split)<;>first|rfl|(exfalso; omega)|omega))
  have cA:hA.get h.next=some (.row 16 [y] false):=by rw[eA]; simp (maxSteps:=9^6) +decide (disch:=first|omega|(simp only[lens]<;>omega)|decide) only [go_sem,Za,simprocAttr]<;>rfl
  clear eA
  have MA:=M.keep (h2:=hA) (by omega) (fun m hm=>kA m (by omega))
  obtain⟨hA1,e1,rA,nA1⟩:=MA.rs.get f oz zl at0 xl xf
  have c1:=Zr9 Hh e1
  have cA1:=(rA.2.1 h.next (by omega) (by omega)).trans cA
  have MA1:=MA.rd rA
  have kA1:∀ m,m<h.next→m≠n+6→hA1.get m=h.get m:=fun m hm hne=>(rA.2.1 m (by omega) hne).trans (kA m hm)
  refine Goes.Zw Z5u fits Hh (Z8 Zb c1) (by
   simp (maxSteps:=9^6) +decide (disch:=first|omega|(simp only[lens]<;>omega)|decide) only [go_sem,q33,Tryz.f33,Za,simprocAttr,Yo,f,hs,stN,gl,Yf,t1,d1,d2,hz,hp,xl,wl,yl,read1,Zn]
   rfl) ?_
  refine Goes.Zq Z4h ?_
  refine Goes.Zq Z2y ?_
  refine Goes.Zw Zv9 fits Hh Zb (by
   simp (maxSteps:=9^6) +decide (disch:=first|omega|(simp only[lens]<;>omega)|decide) only [go_sem,q33,Tryz.f33,Za,simprocAttr,f,hs,stN,gl,Yf,t1,d1,d2,hz,hp,xl,wl,yl,nA,nA1,cA1,read1,Zn]
   rfl) ?_
  refine Goes.Yy Zv8 (by simp (maxSteps:=9^6) +decide (disch:=first|omega|(simp only[lens]<;>omega)|decide) only [go_sem,Za,simprocAttr,f,hs,stN,gl,Yf,t1,d1,d2,hz,hp,xl,wl,yl,nA,nA1,cA1,read1,Zn]<;>rfl) (by first|rfl|assumption|exact decide_eq_false (by omega)|(simp; omega)) ?_
  refine Goes.Jc Zte ?_
  refine Goes.Zq Z23 ?_
  refine Goes.Zq Zvt ?_
  refine Goes.abs fun hB eB=>?_
  have nB:hB.next=h.next+1+1:=by rw[eB]; simp only[H.Zg,H.Ze,nA1,nA]
  have cB:hB.get h.next=some (.row 16 [y] false):=by rw[eB]; refine Eq.trans ?_ cA1; (first|(simp (discharger:=omega) only [H.get_put,H.Zh,H.Zk,H.Ze,H.Zg,H.Zj,if_neg]; done)|(simp only[H.get_put,H.Zh,H.Zk,H.Ze,H.Zg,H.Zj]; (repeat' split)<;>first|rfl|(exfalso; omega)|omega))
  have kB:∀ m,m<h.next→m≠n+6→hB.get m=h.get m:=fun m hm hne=>by rw[eB]; refine Eq.trans ?_ (kA1 m hm hne); (first|(simp (discharger:=omega) only [H.get_put,H.Zh,H.Zk,H.Ze,H.Zg,H.Zj,if_neg]; done)|(simp only[H.get_put,H.Zh,H.Zk,H.Ze,H.Zg,H.Zj]; (repeat' split)<;>first|rfl|(exfalso; omega)|omega))
  have bB:hB.get (h.next+1)=some (.row 256 [x] false):=by rw[eB]; simp (maxSteps:=9^6) +decide (disch:=first|omega|(simp only[lens]<;>omega)|decide) only [go_sem,Za,simprocAttr,nA1,nA,xl]<;>rfl
  have MB:=MA1.keep (h2:=hB) (by omega) (fun m hm=>by rw[eB]; (first|(simp (discharger:=omega) only [H.get_put,H.Zh,H.Zk,H.Ze,H.Zg,H.Zj,if_neg]; done)|(simp only[H.get_put,H.Zh,H.Zk,H.Ze,H.Zg,H.Zj]; (repeat' split)<;>first|rfl|(exfalso; omega)|omega)))
  clear eB
  obtain⟨hC,c2,nC,bC,kC⟩:=hi hB _ bB (by omega)
  have MC:=MB.keep nC (fun m hm=>kC m (by omega) (by omega))
  have r16:Zc 16 [y] 0 16=some y:=X3 (by omega)
  refine Goes.Zw Zs7 fits Hh (Z8 Zb c2) (by
   simp (maxSteps:=9^6) +decide (disch:=first|omega|(simp only[lens]<;>omega)|decide) only [go_sem,q33,Tryz.f33,Za,simprocAttr,Yo,f,hs,stN,gl,Yf,t1,d1,d2,hz,hp,xl,wl,yl,nA,nA1,cA1,nB,cB,bB,r16,nA,read1,Zn]
   rfl) ?_
  refine Goes.Zq Zsv ?_
  refine Goes.Zw Zo8 fits Hh Zb (by
   simp (maxSteps:=9^6) +decide (disch:=first|omega|(simp only[lens]<;>omega)|decide) only [go_sem,q33,Tryz.f33,Za,simprocAttr,f,hs,stN,gl,Yf,t1,d1,d2,hz,hp,xl,wl,yl,nA,nA1,cA1,nB,cB,bB,r16,nA,read1,Zn]
   rfl) ?_
  refine Goes.Yy Zp6 (by simp (maxSteps:=9^6) +decide (disch:=first|omega|(simp only[lens]<;>omega)|decide) only [go_sem,Za,simprocAttr,f,hs,stN,gl,Yf,t1,d1,d2,hz,hp,xl,wl,yl,nA,nA1,cA1,nB,cB,bB,r16,nA,read1,Zn]<;>rfl) (by first|rfl|assumption|exact decide_eq_false (by omega)|(simp; omega)) ?_
  refine Goes.Jc Znm ?_
  refine Goes.Zq Zxn ?_
  obtain⟨lm,fl,sn,MC⟩:=MC
  have c3:=Z4m Hh (MC.Yio f oz zl wl wf rfl rfl rfl (by decide))
  refine Goes.Zw Zsz fits Hh (Z8 Zb c3) (by
   simp (maxSteps:=9^6) +decide (disch:=first|omega|(simp only[lens]<;>omega)|decide) only [go_sem,q33,Tryz.f33,Za,simprocAttr,Yo,f,hs,stN,gl,Yf,t1,d1,d2,hz,hp,xl,wl,yl,nA,nA1,cA1,nB,cB,bB,r16,nA,bC,read1,Zn]
   rfl) ?_
  refine Goes.Gl Zuz ?_
  refine⟨_,_,(by simp (maxSteps:=9^6) +decide (disch:=first|omega|(simp only[lens]<;>omega)|decide) only [go_sem,Za,simprocAttr]<;>rfl),rfl,⟨lm,fl,sn,MC.txn _ _⟩,(by rw[Z0y]; omega),fun m hm ho=>?_⟩
  rw[Z39 _ _ (fun q=>ho (.inr (.inl q))) (fun q=>ho (.inr (.inr (.inr (.inr q))))) (fun q=>ho (.inr (.inr (.inl q)))) (fun q=>ho (.inr (.inr (.inr (.inl q)))))]
  exact (kC m (by omega) (by omega)).trans (kB m hm fun q=>ho (.inl q))
 exact⟨h',cc,M',nn,hk⟩
theorem Yg0 (f:U7 a b c e=true) (M:MdE n a b c e md kn [] [] L h) {z:Int} (hz:¬(1≤z∧z≤((a * c:Nat):Int))) {y:List C} (yl:y.length=16) :
  ∃ h',Zd K Tryz.prog 9 [.c (.ptr (n+13) 0),.c (.int .i64 z),.g y] h (.w (.c (.int .i64 2))) h'∧Rd n L h h':=by
 have dd:(decide (1≤z)&&decide (z≤((a * c:Nat):Int)))=false:=by
  rw[←Bool.decide_and]
  exact decide_eq_false hz
 obtain⟨lm,fl,sn,M⟩:=M
 have nx:=M.nx
 have hs:=M.hs
 have ht:=M.ht
 have gl:=M.hg
 have hm:=M.hm
 unfold gdL gdN at gl
 obtain⟨v,h',cc,rfl,rd⟩:∃ v h',Zd K Tryz.prog 9 [.c (.ptr (n+13) 0),.c (.int .i64 z),.g y] h v h'∧v=.w (.c (.int .i64 2))∧Rd n L h h':=by
  refine Zd.Ya fits Hh (by kernel_rfl) (by kernel_rfl) (by kernel_rfl) (show Tryz.f9.body=some (q9 []) by kernel_rfl) rfl ?_
  show Goes K Tryz.prog 33 none _ _ _ _ _
  refine Goes.Zq q9_ ?_
  refine Goes.Zw q9_0 fits Hh Zb (by
   simp (maxSteps:=9^6) +decide (disch:=first|omega|(simp only[lens]<;>omega)|decide) only [go_sem,q9,Tryz.f9,Za,simprocAttr,f,hs,stN,ht,txN,gl,Yf,dd,yl,read1,Zn]
   rfl) ?_
  refine Goes.Zq q9_1 ?_
  refine Goes.Zq Z5t ?_
  refine Goes.Zw Zyd fits Hh (Zf Zb (fun _ _ _ _=>Zfs Hh)) (by
   simp (maxSteps:=9^6) +decide (disch:=first|omega|(simp only[lens]<;>omega)|decide) only [go_sem,q9,Tryz.f9,Za,simprocAttr,f,hs,stN,ht,txN,gl,Yf,dd,yl,read1,Zn]
   rfl) ?_
  refine Goes.Zq Zx5 ?_
  refine Goes.Zw Zr6 fits Hh Zb (by
   simp (maxSteps:=9^6) +decide (disch:=first|omega|(simp only[lens]<;>omega)|decide) only [go_sem,q9,Tryz.f9,Za,simprocAttr,f,hs,stN,ht,txN,gl,Yf,dd,yl,read1,Zn]
   rfl) ?_
  refine Goes.Yy Zq7 (by simp (maxSteps:=9^6) +decide (disch:=first|omega|(simp only[lens]<;>omega)|decide) only [go_sem,Za,simprocAttr,f,hs,stN,ht,txN,gl,Yf,dd,yl,read1,Zn]<;>rfl) (by first|rfl|assumption|exact decide_eq_false (by omega)|(simp; omega)) ?_
  refine Goes.Jc Zkq ?_
  refine Goes.Zq Z6u ?_
  refine Goes.Zq Zv1 ?_
  refine Goes.Zw Zrd fits Hh (Zf (Zf Zb (fun _ _ _ _=>Rz Hh)) (fun _ _ _ _=>Ff Hh)) (by
   simp (maxSteps:=9^6) +decide (disch:=first|omega|(simp only[lens]<;>omega)|decide) only [go_sem,q9,Tryz.f9,Za,simprocAttr,f,hs,stN,ht,txN,gl,Yf,dd,yl,read1,Zn]
   rfl) ?_
  refine Goes.Zq Zrk ?_
  refine Goes.Zw Zlh fits Hh Zb (by
   simp (maxSteps:=9^6) +decide (disch:=first|omega|(simp only[lens]<;>omega)|decide) only [go_sem,q9,Tryz.f9,Za,simprocAttr,f,hs,stN,ht,txN,gl,Yf,dd,yl,read1,Zn]
   rfl) ?_
  refine Goes.Ob Zjd (by simp (maxSteps:=9^6) +decide (disch:=first|omega|(simp only[lens]<;>omega)|decide) only [go_sem,Za,simprocAttr,f,hs,stN,ht,txN,gl,Yf,dd,yl,read1,Zn]<;>rfl) (by first|rfl|assumption|exact decide_eq_true (by omega)|(simp; omega)) ?_
  refine Goes.Zq Z06 ?_
  refine Goes.Zw Zyn fits Hh Zb (by
   simp (maxSteps:=9^6) +decide (disch:=first|omega|(simp only[lens]<;>omega)|decide) only [go_sem,q9,Tryz.f9,Za,simprocAttr,f,hs,stN,ht,txN,gl,Yf,dd,yl,read1,Zn]
   rfl) ?_
  refine Goes.Gl Zwj ?_
  refine⟨_,_,(by simp (maxSteps:=9^6) +decide (disch:=first|omega|(simp only[lens]<;>omega)|decide) only [go_sem,Za,simprocAttr]<;>rfl),rfl,(Rd.refl fl sn hm).then ?_ (fun m hm=>?_) (by omega)⟩
  ·first|omega|(simp only[H.Zg,H.Ze]<;>omega)
  ·(first|(simp (discharger:=omega) only [H.get_put,H.Zh,H.Zk,H.Ze,H.Zg,H.Zj,if_neg]; done)|(simp only[H.get_put,H.Zh,H.Zk,H.Ze,H.Zg,H.Zj]; (repeat' split)<;>first|rfl|(exfalso; omega)|omega))
 exact⟨h',cc,rd⟩
theorem Yhz (f:U7 a b c e=true) (M:MdE n a b c e md kn [] [] L h) {z:Int} (hz:1≤z∧z≤((a * c:Nat):Int)) {k l g s p0 p1 p2 p3 p4 p5 p6 p7 p8 p9 p10 nx:Int} (hm:Zh4 k l s p0 p1 p2 p3 p4 p5 p6 p7 p8 p9 p10 nx=false) :
  ∃ h',Zd K Tryz.prog 9 [.c (.ptr (n+13) 0),.c (.int .i64 z),.g (Dq k l g s p0 p1 p2 p3 p4 p5 p6 p7 p8 p9 p10 nx)] h (.w (.c (.int .i64 70))) h'∧Rd n L h h':=by
 have d1:=decide_eq_true hz.1
 have d2:=decide_eq_true hz.2
 obtain⟨lm,fl,sn,M⟩:=M
 have nn0:=M.nx
 have hs:=M.hs
 have ht:=M.ht
 have gl:=M.hg
 have hm6:=M.hm
 unfold gdL gdN at gl
 have c5:=fun h=>Zi6 Hh k l g s p0 p1 p2 p3 p4 p5 p6 p7 p8 p9 p10 nx h
 rw[hm] at c5
 have yl:(Dq k l g s p0 p1 p2 p3 p4 p5 p6 p7 p8 p9 p10 nx).length=16:=rfl
 have cI:∀ h,Zd K Tryz.prog 32 [.g (Dq k l g s p0 p1 p2 p3 p4 p5 p6 p7 p8 p9 p10 nx)] h (.w (.c (.bool false))) h:=c5
 obtain⟨y,hy⟩:∃ y,Dq k l g s p0 p1 p2 p3 p4 p5 p6 p7 p8 p9 p10 nx=y:=⟨_,rfl⟩
 rw[hy] at yl cI ⊢
 obtain⟨v,h',cc,rfl,rd⟩:∃ v h',Zd K Tryz.prog 9 [.c (.ptr (n+13) 0),.c (.int .i64 z),.g y] h v h'∧v=.w (.c (.int .i64 70))∧Rd n L h h':=by
  refine Zd.Ya fits Hh (by kernel_rfl) (by kernel_rfl) (by kernel_rfl) (show Tryz.f9.body=some (q9 []) by kernel_rfl) rfl ?_
  show Goes K Tryz.prog 33 none _ _ _ _ _
  refine Goes.Zq q9_ ?_
  refine Goes.Zw q9_0 fits Hh Zb (by
   simp (maxSteps:=9^6) +decide (disch:=first|omega|(simp only[lens]<;>omega)|decide) only [go_sem,q9,Tryz.f9,Za,simprocAttr,f,hs,stN,ht,txN,gl,Yf,d1,d2,yl,read1,Zn]
   rfl) ?_
  refine Goes.Zq q9_1 ?_
  refine Goes.Zq Z5t ?_
  refine Goes.Zw Zyd fits Hh (Zf Zb (fun _ _ _ _=>Zfs Hh)) (by
   simp (maxSteps:=9^6) +decide (disch:=first|omega|(simp only[lens]<;>omega)|decide) only [go_sem,q9,Tryz.f9,Za,simprocAttr,f,hs,stN,ht,txN,gl,Yf,d1,d2,yl,read1,Zn]
   rfl) ?_
  refine Goes.Zq Zx5 ?_
  refine Goes.Zw Zr6 fits Hh Zb (by
   simp (maxSteps:=9^6) +decide (disch:=first|omega|(simp only[lens]<;>omega)|decide) only [go_sem,q9,Tryz.f9,Za,simprocAttr,f,hs,stN,ht,txN,gl,Yf,d1,d2,yl,read1,Zn]
   rfl) ?_
  refine Goes.Yy Zq7 (by simp (maxSteps:=9^6) +decide (disch:=first|omega|(simp only[lens]<;>omega)|decide) only [go_sem,Za,simprocAttr,f,hs,stN,ht,txN,gl,Yf,d1,d2,yl,read1,Zn]<;>rfl) (by first|rfl|assumption|exact decide_eq_false (by omega)|(simp; omega)) ?_
  refine Goes.Jc Zkq ?_
  refine Goes.Zq Z6u ?_
  refine Goes.Zq Zv1 ?_
  refine Goes.Zw Zrd fits Hh (Zf (Zf Zb (fun _ _ _ _=>Rz Hh)) (fun _ _ _ _=>Ff Hh)) (by
   simp (maxSteps:=9^6) +decide (disch:=first|omega|(simp only[lens]<;>omega)|decide) only [go_sem,q9,Tryz.f9,Za,simprocAttr,f,hs,stN,ht,txN,gl,Yf,d1,d2,yl,read1,Zn]
   rfl) ?_
  refine Goes.Zq Zrk ?_
  refine Goes.Zw Zlh fits Hh Zb (by
   simp (maxSteps:=9^6) +decide (disch:=first|omega|(simp only[lens]<;>omega)|decide) only [go_sem,q9,Tryz.f9,Za,simprocAttr,f,hs,stN,ht,txN,gl,Yf,d1,d2,yl,read1,Zn]
   rfl) ?_
  refine Goes.Yy Zjd (by simp (maxSteps:=9^6) +decide (disch:=first|omega|(simp only[lens]<;>omega)|decide) only [go_sem,Za,simprocAttr,f,hs,stN,ht,txN,gl,Yf,d1,d2,yl,read1,Zn]<;>rfl) (by first|rfl|assumption|exact decide_eq_false (by omega)|(simp; omega)) ?_
  refine Goes.Jc Zo2 ?_
  refine Goes.Zq Z68 ?_
  refine Goes.Zq Zzb ?_
  refine Goes.Zw Ztj fits Hh (Bo Zb cI) (by
   simp (maxSteps:=9^6) +decide (disch:=first|omega|(simp only[lens]<;>omega)|decide) only [go_sem,q9,Tryz.f9,Za,simprocAttr,f,hs,stN,ht,txN,gl,Yf,d1,d2,yl,read1,Zn]
   rfl) ?_
  refine Goes.Ob Zsa (by simp (maxSteps:=9^6) +decide (disch:=first|omega|(simp only[lens]<;>omega)|decide) only [go_sem,Za,simprocAttr,f,hs,stN,ht,txN,gl,Yf,d1,d2,yl,read1,Zn]<;>rfl) (by first|rfl|assumption|exact decide_eq_true (by omega)|(simp; omega)) ?_
  refine Goes.Zq Z3d ?_
  refine Goes.Zw Zxp fits Hh Zb (by
   simp (maxSteps:=9^6) +decide (disch:=first|omega|(simp only[lens]<;>omega)|decide) only [go_sem,q9,Tryz.f9,Za,simprocAttr,f,hs,stN,ht,txN,gl,Yf,d1,d2,yl,read1,Zn]
   rfl) ?_
  refine Goes.Gl Zxk ?_
  refine⟨_,_,(by simp (maxSteps:=9^6) +decide (disch:=first|omega|(simp only[lens]<;>omega)|decide) only [go_sem,Za,simprocAttr]<;>rfl),rfl,(Rd.refl fl sn hm6).then ?_ (fun m hm=>?_) (by omega)⟩
  ·first|omega|(simp only[H.Zg,H.Ze]<;>omega)
  ·(first|(simp (discharger:=omega) only [H.get_put,H.Zh,H.Zk,H.Ze,H.Zg,H.Zj,if_neg]; done)|(simp only[H.get_put,H.Zh,H.Zk,H.Ze,H.Zg,H.Zj]; (repeat' split)<;>first|rfl|(exfalso; omega)|omega))
 exact⟨h',cc,rd⟩
theorem Yf3 (f:U7 a b c e=true) (M:MdE n a b c e md kn [] [] L h) {j:Nat} (jl:j<a * c) {ns:List Nat} (hx:L[Dp b c e j]? = some (pgL ns)) (nl:ns.length=256) {k l g s p0 p1 p2 p3 p4 p5 p6 p7 p8 p9 p10 nx:Nat} (kb:k<256) (lb:l<65536) (gb:g<4294967296) (sb:s<4294967296) (pb:∀ v∈[p0,p1,p2,p3,p4,p5,p6,p7,p8,p9,p10],v<4294967296) (nb:nx<4294967296) (hm:Zh4 k l s p0 p1 p2 p3 p4 p5 p6 p7 p8 p9 p10 nx=true) :
  ∃ h',Zd K Tryz.prog 9 [.c (.ptr (n+13) 0),.c (.int .i64 ((j+1:Nat):Int)),.g (Dq k l g s p0 p1 p2 p3 p4 p5 p6 p7 p8 p9 p10 nx)] h (.w (.c (.int .i64 0))) h'∧MdE n a b c e md false [((Dp b c e j:Nat),[])] [((Dp b c e j:Nat),pgL (F5 ns (Nh c j) k l g s [p0,p1,p2,p3,p4,p5,p6,p7,p8,p9,p10] nx))] L h'∧h.next≤h'.next∧∀ m,m<h.next→¬Zt4 n m→h'.get m=h.get m:=by
 have d1:decide (1≤((j+1:Nat):Int))=true:=decide_eq_true (by omega)
 have d2:decide (((j+1:Nat):Int)≤((a * c:Nat):Int))=true:=decide_eq_true (by omega)
 have pc:=N9 c j
 have ml:(F5 ns (Nh c j) k l g s [p0,p1,p2,p3,p4,p5,p6,p7,p8,p9,p10] nx).length=256:=by rw[Ziy (by omega),nl]
 have cI:=fun h=>Zi6 Hh k l g s p0 p1 p2 p3 p4 p5 p6 p7 p8 p9 p10 nx h
 rw[hm] at cI
 have yl:(Dq k l g s p0 p1 p2 p3 p4 p5 p6 p7 p8 p9 p10 nx).length=16:=rfl
 change ∀ h,Zd K Tryz.prog 32 [.g (Dq k l g s p0 p1 p2 p3 p4 p5 p6 p7 p8 p9 p10 nx)] h (.w (.c (.bool true))) h at cI
 have hW:=fun (h:Go.Ev.H) (M:MdE n a b c e md kn [] [] L h)=>Yae Hh f M jl hx nl ml yl fun h m q1 q2=>Ycv Hh nl pc kb lb gb sb pb nb hm q1 q2
 obtain⟨y,hy⟩:∃ y,Dq k l g s p0 p1 p2 p3 p4 p5 p6 p7 p8 p9 p10 nx=y:=⟨_,rfl⟩
 rw[hy] at yl cI ⊢
 simp only[hy] at hW
 obtain⟨lc,hlc⟩:∃ lc:Gt,[(((Dp b c e j:Nat):Int),pgL (F5 ns (Nh c j) k l g s [p0,p1,p2,p3,p4,p5,p6,p7,p8,p9,p10] nx))]=lc:=⟨_,rfl⟩
 obtain⟨lt,hlt⟩:∃ lt:Gt,[(((Dp b c e j:Nat):Int),[])]=lt:=⟨_,rfl⟩
 rw[hlc,hlt]
 simp only[hlc,hlt] at hW
 obtain⟨nx',hs,gl,ht⟩:n+32≤h.next∧h.get (n+13)=some (.row 8 [stL (stN n kn)] false)∧h.get (n+12)=some (.row 9 [gdL (gdN n a b c e md)] false)∧h.get (n+20)=some (.row 13 [txL (txN n)] false):=by
  obtain⟨lm,_,_,M⟩:=M
  exact⟨M.nx,M.hs,M.hg,M.ht⟩
 unfold gdL gdN at gl
 obtain⟨v,h',cc,rfl,M',nn,hk⟩:∃ v h',Zd K Tryz.prog 9 [.c (.ptr (n+13) 0),.c (.int .i64 ((j+1:Nat):Int)),.g y] h v h'∧v=.w (.c (.int .i64 0))∧MdE n a b c e md false lt lc L h'∧h.next≤h'.next∧∀ m,m<h.next→¬Zt4 n m→h'.get m=h.get m:=by
  refine Zd.Ya fits Hh (by kernel_rfl) (by kernel_rfl) (by kernel_rfl) (show Tryz.f9.body=some (q9 []) by kernel_rfl) rfl ?_
  show Goes K Tryz.prog 33 none _ _ _ _ _
  refine Goes.Zq q9_ ?_
  refine Goes.Zw q9_0 fits Hh Zb (by
   simp (maxSteps:=9^6) +decide (disch:=first|omega|(simp only[lens]<;>omega)|decide) only [go_sem,q9,Tryz.f9,Za,simprocAttr,f,hs,stN,ht,txN,gl,Yf,d1,d2,yl,read1,Zn]
   rfl) ?_
  refine Goes.Zq q9_1 ?_
  refine Goes.Zq Z5t ?_
  refine Goes.Zw Zyd fits Hh (Zf Zb (fun _ _ _ _=>Zfs Hh)) (by
   simp (maxSteps:=9^6) +decide (disch:=first|omega|(simp only[lens]<;>omega)|decide) only [go_sem,q9,Tryz.f9,Za,simprocAttr,f,hs,stN,ht,txN,gl,Yf,d1,d2,yl,read1,Zn]
   rfl) ?_
  refine Goes.Zq Zx5 ?_
  refine Goes.Zw Zr6 fits Hh Zb (by
   simp (maxSteps:=9^6) +decide (disch:=first|omega|(simp only[lens]<;>omega)|decide) only [go_sem,q9,Tryz.f9,Za,simprocAttr,f,hs,stN,ht,txN,gl,Yf,d1,d2,yl,read1,Zn]
   rfl) ?_
  refine Goes.Yy Zq7 (by simp (maxSteps:=9^6) +decide (disch:=first|omega|(simp only[lens]<;>omega)|decide) only [go_sem,Za,simprocAttr,f,hs,stN,ht,txN,gl,Yf,d1,d2,yl,read1,Zn]<;>rfl) (by first|rfl|assumption|exact decide_eq_false (by omega)|(simp; omega)) ?_
  refine Goes.Jc Zkq ?_
  refine Goes.Zq Z6u ?_
  refine Goes.Zq Zv1 ?_
  refine Goes.Zw Zrd fits Hh (Zf (Zf Zb (fun _ _ _ _=>Rz Hh)) (fun _ _ _ _=>Ff Hh)) (by
   simp (maxSteps:=9^6) +decide (disch:=first|omega|(simp only[lens]<;>omega)|decide) only [go_sem,q9,Tryz.f9,Za,simprocAttr,f,hs,stN,ht,txN,gl,Yf,d1,d2,yl,read1,Zn]
   rfl) ?_
  refine Goes.Zq Zrk ?_
  refine Goes.Zw Zlh fits Hh Zb (by
   simp (maxSteps:=9^6) +decide (disch:=first|omega|(simp only[lens]<;>omega)|decide) only [go_sem,q9,Tryz.f9,Za,simprocAttr,f,hs,stN,ht,txN,gl,Yf,d1,d2,yl,read1,Zn]
   rfl) ?_
  refine Goes.Yy Zjd (by simp (maxSteps:=9^6) +decide (disch:=first|omega|(simp only[lens]<;>omega)|decide) only [go_sem,Za,simprocAttr,f,hs,stN,ht,txN,gl,Yf,d1,d2,yl,read1,Zn]<;>rfl) (by first|rfl|assumption|exact decide_eq_false (by omega)|(simp; omega)) ?_
  refine Goes.Jc Zo2 ?_
  refine Goes.Zq Z68 ?_
  refine Goes.Zq Zzb ?_
  refine Goes.Zw Ztj fits Hh (Bo Zb cI) (by
   simp (maxSteps:=9^6) +decide (disch:=first|omega|(simp only[lens]<;>omega)|decide) only [go_sem,q9,Tryz.f9,Za,simprocAttr,f,hs,stN,ht,txN,gl,Yf,d1,d2,yl,read1,Zn]
   rfl) ?_
  refine Goes.Yy Zsa (by simp (maxSteps:=9^6) +decide (disch:=first|omega|(simp only[lens]<;>omega)|decide) only [go_sem,Za,simprocAttr,f,hs,stN,ht,txN,gl,Yf,d1,d2,yl,read1,Zn]<;>rfl) (by first|rfl|assumption|exact decide_eq_false (by omega)|(simp; omega)) ?_
  refine Goes.Jc Z3j ?_
  refine Goes.Zq Z99 ?_
  refine Goes.abs fun hA eA=>?_
  have nA:hA.next=h.next+1:=by rw[eA]; first|rfl|simp only[H.Zg,H.Ze]
  have kA:∀ m,m<h.next→hA.get m=h.get m:=fun m hm=>by rw[eA]; (first|(simp (discharger:=omega) only [H.get_put,H.Zh,H.Zk,H.Ze,H.Zg,H.Zj,if_neg]; done)|(simp only[H.get_put,H.Zh,H.Zk,H.Ze,H.Zg,H.Zj]; (repeat' split)<;>first|rfl|(exfalso; omega)|omega))
  have cA:hA.get h.next=some (.row 16 [y] false):=by rw[eA]; simp (maxSteps:=9^6) +decide (disch:=first|omega|(simp only[lens]<;>omega)|decide) only [go_sem,Za,simprocAttr]<;>rfl
  clear eA
  obtain⟨hC,c9,MC,nC,kC⟩:=hW hA (M.keep (by omega) (fun m hm=>kA m (by omega)))
  refine Goes.Zw Z8q fits Hh (Z8 Zb c9) (by
   simp (maxSteps:=9^6) +decide (disch:=first|omega|(simp only[lens]<;>omega)|decide) only [go_sem,q9,Tryz.f9,Za,simprocAttr,Yo,f,hs,stN,ht,txN,gl,Yf,d1,d2,yl,nA,cA,read1,Zn]
   rfl) ?_
  refine Goes.Gl Z63 ?_
  exact⟨_,_,(by simp (maxSteps:=9^6) +decide (disch:=first|omega|(simp only[lens]<;>omega)|decide) only [go_sem,Za,simprocAttr]<;>rfl),rfl,MC,by omega,fun m hm ho=>(kC m (by omega) ho).trans (kA m hm)⟩
 exact⟨h',cc,M',nn,hk⟩
end
end Go.Proofs.YtmdibcklpmeleaaGreatDoor
