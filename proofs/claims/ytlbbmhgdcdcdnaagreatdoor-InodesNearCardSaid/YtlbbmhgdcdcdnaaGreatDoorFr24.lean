/- quernlaw24.fresh and Begin: a store over a new image, its handle open. -/
import Derived.Test.YtlbbmhgdcdcdnaaGreatDoorMd
set_option linter.unusedSimpArgs false
set_option linter.unusedVariables false
set_option linter.unusedSectionVars false
set_option maxRecDepth 100000
set_option maxHeartbeats 4000000
namespace Go.Proofs.YtlbbmhgdcdcdnaaGreatDoor
open Go.Ev
noncomputable def q6 (p:List Nat):Code:=piece p (bodyOf Tryz.f6)
theorem q6_:q6 []=.seq (q6 [0]) (q6 [1]):=by kernel_rfl
theorem q6_0:q6 [0]=.region 0 (opsA (q6 [0])) false:=by kernel_rfl
theorem q6_1:q6 [1]=.seq (q6 [1,0]) (q6 [1,1]):=by kernel_rfl
theorem q6_10:q6 [1,0]=.region 1 (opsA (q6 [1,0])) false:=by kernel_rfl
theorem q6_11:q6 [1,1]=.seq (q6 [1,1,0]) (q6 [1,1,1]):=by kernel_rfl
theorem q6_110:q6 [1,1,0]=.region 2 (opsA (q6 [1,1,0])) false:=by kernel_rfl
theorem q6_111:q6 [1,1,1]=.seq (q6 [1,1,1,0]) (q6 [1,1,1,1]):=by kernel_rfl
theorem q6_1110:q6 [1,1,1,0]=.seq (q6 [1,1,1,0,0]) (q6 [1,1,1,0,1]):=by kernel_rfl
theorem q6_11100:q6 [1,1,1,0,0]=.region 3 (opsA (q6 [1,1,1,0,0])) false:=by kernel_rfl
theorem q6_11101:q6 [1,1,1,0,1]=.cond (.tmp 27) (q6 [1,1,1,0,1,3]) (q6 [1,1,1,0,1,4]):=by kernel_rfl
theorem q6_111014:q6 [1,1,1,0,1,4]=.skip:=by kernel_rfl
theorem q6_1111:q6 [1,1,1,1]=.seq (q6 [1,1,1,1,0]) (q6 [1,1,1,1,1]):=by kernel_rfl
theorem q6_11110:q6 [1,1,1,1,0]=.region 5 (opsA (q6 [1,1,1,1,0])) false:=by kernel_rfl
theorem q6_11111:q6 [1,1,1,1,1]=.seq (q6 [1,1,1,1,1,0]) (q6 [1,1,1,1,1,1]):=by kernel_rfl
theorem q6_111110:q6 [1,1,1,1,1,0]=.region 6 (opsA (q6 [1,1,1,1,1,0])) false:=by kernel_rfl
theorem q6_111111:q6 [1,1,1,1,1,1]=.ret:=by kernel_rfl
theorem rs6:Tryz.f6.results.toList=[.tmp 4,.tmp 5]:=rfl
attribute [go_sem] rs6
noncomputable def frM (h:Go.Ev.H) (a b c e:Nat) (md:Int) (L:List (List C)):Go.Ev.H:=newSt (((((h.new (.row 4 [geoL a b c e] false)).new (.row 256 L false)).new (.row 256 L false)).new (.row 256 L false)).new (.row 6 [dkL ⟨h.next+1+1,h.next+1+1+1,2+e+a * b,.snil,0,0⟩] false)) (h.next+1+1+1+1) a b c e md 1
def stB (n:Nat):Stt:=⟨n+12,n+20,n+21,n+22,.snil,false⟩
def txB (n:Nat):Tx:=⟨n+15,n+16,n+17,n+19,1,false,0,0,.mnil,.mnil,.mnil,.mnil,.pnil⟩
noncomputable def begun (h:Go.Ev.H) (a b c e:Nat) (md:Int) (L:List (List C)):Go.Ev.H:=begM (cleanM (frM h a b c e md L) (h.next+13) (stB h.next)) (h.next+20) (txB h.next) 3 0
theorem xBeg (h:Go.Ev.H) (a b c e:Nat) (md:Int) (L:List (List C)) (fb:fineB a b c e=true):xSBegin [.c (.ptr (h.next+13) 0),.c (.int .i64 3),.c (.int .i64 0)] (frM h a b c e md L)=some (.w (.c (.int .i64 0)),begun h a b c e md L):=by
 have f1:(frM h a b c e md L).get (h.next+13)=some (.row 8 [stL (stB h.next)] false):=by unfold frM newSt; simp (discharger:=omega) only [H.get_put,H.get_new,H.next_new,H.next_put,if_neg,if_pos]; rfl
 have f2:(frM h a b c e md L).get (h.next+20)=some (.row 13 [txL (txB h.next)] false):=by unfold frM newSt; simp (discharger:=omega) only [H.get_put,H.get_new,H.next_new,H.next_put,if_neg,if_pos]; rfl
 have f3:(frM h a b c e md L).get (h.next+12)=some (.row 9 [gdL (gdN h.next a b c e md)] false):=by unfold frM newSt; simp (discharger:=omega) only [H.get_put,H.get_new,H.next_new,H.next_put,if_neg,if_pos]; rfl
 have f4:(frM h a b c e md L).get (h.next+19)=some (.row 1 [[.map (h.next+18)]] false):=by unfold frM newSt; simp (discharger:=omega) only [H.get_put,H.get_new,H.next_new,H.next_put,if_neg,if_pos]; rfl
 have f5:(frM h a b c e md L).get (h.next+18)=some (.map []):=by unfold frM newSt; simp (discharger:=omega) only [H.get_put,H.get_new,H.next_new,H.next_put,if_neg,if_pos]<;>rfl
 have f6:(frM h a b c e md L).get (h.next+15)=some (.map []):=by unfold frM newSt; simp (discharger:=omega) only [H.get_put,H.get_new,H.next_new,H.next_put,if_neg,if_pos]<;>rfl
 have f7:(frM h a b c e md L).get (h.next+16)=some (.map []):=by unfold frM newSt; simp (discharger:=omega) only [H.get_put,H.get_new,H.next_new,H.next_put,if_neg,if_pos]<;>rfl
 have f8:(frM h a b c e md L).get (h.next+17)=some (.map []):=by unfold frM newSt; simp (discharger:=omega) only [H.get_put,H.get_new,H.next_new,H.next_put,if_neg,if_pos]<;>rfl
 have s3:sizeI 3=some 5:=rfl
 unfold xSBegin begun
 simp (maxSteps:=9^6) +decide (disch:=first|omega|(simp only[lens]<;>omega)|decide) only [go_sem,readRow,loadIn,simprocAttr,f1,stB,f2,txB,f3,gdL,gdN,f4,f5,f6,f7,f8,fb,s3]<;>rfl
theorem begun_md (h:Go.Ev.H) (l0:0<h.next) (hst:h.get 0=some stepsO) (a b c e:Nat) (md:Int) (L:List (List C)):Md h.next a b c e md false [] [] [] L (begun h a b c e md L):=by
 refine⟨?_,l0,Nat.le_refl _,?_,?_,?_,?_,?_,?_,?_,?_,?_,?_,?_,?_,?_,?_,?_,?_⟩
 ·refine Eq.trans ?_ hst
  unfold begun begM cloneM cleanM frM newSt
  simp (discharger:=omega) only [H.get_put,H.get_new,H.next_new,H.next_put,if_neg]
 all_goals (unfold begun begM cloneM cleanM frM newSt; simp (discharger:=omega) only [H.get_put,H.get_new,H.next_new,H.next_put,if_neg,if_pos]; rfl)
section
variable (Hh:Hearts K Tryz.prog)
include Hh
theorem fresh24Ok {a b c d:Nat} {md:Int} (f:fineB a b c d=true) (m1:1≤md) (m2:md≤3) {h:Go.Ev.H} (hst:h.get 0=some stepsO) (l0:0<h.next):∃ L,Image a b c d L∧CallOk K Tryz.prog 6 [.g [.int .i64 (a:Int),.int .i64 (b:Int),.int .i64 (c:Int),.int .i64 (d:Int)],.c (.int .u8 md)] h (.tup [.c (.ptr (h.next+13) 0),.c (.bool true)]) (frM h a b c d md L):=by
 obtain⟨g1,g2,g3,g4,g5,g6,g7,g8,g9,g10,g11⟩:=fineB_fine f
 obtain⟨L,I,c1⟩:=makeOk Hh f (h:=h.new (.row 4 [[.int .i64 (a:Int),.int .i64 (b:Int),.int .i64 (c:Int),.int .i64 (d:Int)]] false)) (by rw[get_new_ne (by omega)]; exact hst) (by rw[H.next_new]; omega)
 rw[H.next_new] at c1
 refine⟨L,I,?_⟩
 have im:=I.im
 have ll:=I.len
 obtain⟨N,hN⟩:∃ N,2+d+a * b=N:=⟨_,rfl⟩
 unfold frM
 rw[hN] at c1 ll g11 ⊢
 have nn:1≤N:=by omega
 refine CallOk.goes fits Hh (by kernel_rfl) (by kernel_rfl) (by kernel_rfl) (show Tryz.f6.body=some (q6 []) by kernel_rfl) rfl ?_
 show Goes K Tryz.prog 42 none _ _ _ _ _
 refine Goes.seqQ q6_ ?_
 refine Goes.opsQ q6_0 fits Hh E0_sound (by
  simp (maxSteps:=9^6) +decide (disch:=first|omega|(simp only[lens]<;>omega)|decide) only [go_sem,q6,Tryz.f6,loadIn,simprocAttr,f,im,ll,hN,rd4,read1,opBox]
  rfl) ?_
 refine Goes.seqQ q6_1 ?_
 refine Goes.opsQ q6_10 fits Hh (E1_sound E0_sound c1) (by
  simp (maxSteps:=9^6) +decide (disch:=first|omega|(simp only[lens]<;>omega)|decide) only [go_sem,q6,Tryz.f6,loadIn,simprocAttr,E1_call,f,im,ll,hN,rd4,read1,opBox]
  rfl) ?_
 refine Goes.seqQ q6_11 ?_
 refine Goes.opsQ q6_110 fits Hh (EX_sound E0_sound (fun _ _ _ _=>xDLoad_ok Hh)) (by
  simp (maxSteps:=9^6) +decide (disch:=first|omega|(simp only[lens]<;>omega)|decide) only [go_sem,q6,Tryz.f6,loadIn,simprocAttr,f,im,ll,hN,rd4,read1,opBox]
  rfl) ?_
 refine Goes.seqQ q6_111 ?_
 refine Goes.seqQ q6_1110 ?_
 refine Goes.opsQ q6_11100 fits Hh E0_sound (by
  simp (maxSteps:=9^6) +decide (disch:=first|omega|(simp only[lens]<;>omega)|decide) only [go_sem,q6,Tryz.f6,loadIn,simprocAttr,f,im,ll,hN,rd4,read1,opBox]
  rfl) ?_
 refine Goes.condFQ q6_11101 (by simp (maxSteps:=9^6) +decide (disch:=first|omega|(simp only[lens]<;>omega)|decide) only [go_sem,loadIn,simprocAttr,f,im,ll,hN,rd4,read1,opBox]<;>rfl) (by first|rfl|assumption|exact decide_eq_false (by omega)|(simp; omega)) ?_
 refine Goes.skipQ q6_111014 ?_
 refine Goes.seqQ q6_1111 ?_
 refine Goes.opsQ q6_11110 fits Hh (EX_sound E0_sound (fun _ _ _ _=>xSNew_ok Hh)) (by
  simp (maxSteps:=9^6) +decide (disch:=first|omega|(simp only[lens]<;>omega)|decide) only [go_sem,q6,Tryz.f6,loadIn,simprocAttr,f,im,ll,hN,rd4,read1,opBox]
  rfl) ?_
 refine Goes.seqQ q6_11111 ?_
 refine Goes.opsQ q6_111110 fits Hh E0_sound (by
  simp (maxSteps:=9^6) +decide (disch:=first|omega|(simp only[lens]<;>omega)|decide) only [go_sem,q6,Tryz.f6,loadIn,simprocAttr,f,im,ll,hN,rd4,read1,opBox]
  rfl) ?_
 refine Goes.retQ q6_111111 ?_
 simp (maxSteps:=9^6) +decide (disch:=first|omega|(simp only[lens]<;>omega)|decide) only [go_sem,loadIn,simprocAttr,geoL]<;>rfl
end
end Go.Proofs.YtlbbmhgdcdcdnaaGreatDoor
