/- mkfs.descs. -/
import Derived.Test.YtngejdlimkgjfaaGreatDoorSup2
set_option linter.unusedSimpArgs false
set_option linter.unusedVariables false
set_option linter.unusedSectionVars false
set_option maxRecDepth 100000
set_option maxHeartbeats 10000000
namespace Go.Proofs.YtngejdlimkgjfaaGreatDoor
open Go.Ev
theorem rs56:Tryz.f56.results.toList=[.tmp 2]:=rfl
attribute [go_sem] rs56
def G5 (a b c:Nat):List Dq:=(b - 2 - c / 4,c - 1,1) :: List.replicate (a - 1) (b - 2 - c / 4,c,0)
noncomputable def Zpy:Kn1:=fun args h=>match args with
 | [.g [.int .i64 a,.int .i64 b,.int .i64 c,.int .i64 d]]=>Q5 a b c d fun a b c _=>some (.w (.c (.slice h.next 0 a 3)),h.new (.row 3 ((G5 a b c).map Oh) false))
 | _=>none
attribute [go_sem] Zpy
theorem wc31 (x y z c:C) (L:List (List C)):Z5 3 ([x,y,z] :: L) 1 [c]=some ([x,c,z] :: L):=rfl
theorem wc32 (x y z c:C) (L:List (List C)):Z5 3 ([x,y,z] :: L) 2 [c]=some ([x,y,c] :: L):=rfl
section
variable (Hh:Hearts K Tryz.prog)
include Hh
theorem Zkg {args:List W} {h h':Go.Ev.H} {v:V} (e:Zpy args h=some (v,h')):Ze K Tryz.prog 56 args h v h':=by
 unfold Zpy at e
 split at e
 ·obtain⟨a,b,c,d,rfl,rfl,rfl,rfl,f,e⟩:=Ov e
  cases e
  obtain⟨g1,g2,g3,g4,g5,g6,g7,g8,g9,g10,g11⟩:=Z0 f
  obtain⟨q,hq⟩:∃ q,b - 2 - c / 4=q:=⟨_,rfl⟩
  have ec:(c:Int) - 1=((c - 1:Nat):Int):=by omega
  obtain⟨v,h',cc,n,rfl,n1,n2,n3,hk⟩:∃ v h',Ze K Tryz.prog 56 [.g [.int .i64 (a:Int),.int .i64 (b:Int),.int .i64 (c:Int),.int .i64 (d:Int)]] h v h'∧∃ n,v=.w (.c (.slice n 0 a 3))∧h.next≤n∧n<h'.next∧h'.get n=some (.row 3 ((G5 a b c).map Oh) false)∧∀ m,m<h.next→h'.get m=h.get m:=by
   unfold G5
   rw[hq]
   obtain rfl|rfl|rfl|rfl:a=1∨a=2∨a=3∨a=4:=by omega
   all_goals
    refine Ze.Z8 fits Hh (by kernel_rfl) (by kernel_rfl) (by kernel_rfl) (show Tryz.f56.body=some _ from rfl) rfl ?_
    repeat (first|apply Goes.seq|apply Goes.block|apply Goes.loop|apply Goes.skip|apply Goes.exit|apply Goes.ret|((first|apply Goes.Zr|apply Goes.ops2 fits Hh (Zh Zc (fun _ _ _ _=>Ld Hh))); · simp (maxSteps:=9^6) +decide (disch:=first|omega|(simp only[lens]<;>omega)|decide) only [go_sem,Za,simprocAttr,f,hq,ec,rd4,rd30,rd31,rd32,rd33,wr30,wr31,wr32,wr33,wc31,wc32,List.replicate_succ,List.replicate_zero,Zw,Zt,Y8,Ua,Y7,read1]<;>rfl)|(apply Goes.drawn2 fits Hh (Zh Zc (fun _ _ _ _=>Ld Hh)) (by kernel_rfl); · simp (maxSteps:=9^6) +decide (disch:=first|omega|(simp only[lens]<;>omega)|decide) only [go_sem,Za,simprocAttr,Js,Y2,Jd,Jo,Yv,Jp,Jf,Ye,Ja,Jr,Ux,Jg,Ya,Ym,Yh,Yg,Je,Yt,Y0,Yd,Yu,Jb,Oy,U8,Oj,Ee,Ep,Ue,Ug,Jn,Om,Uj,Ur,Jq,Y1,Uo,looks,O5,Op.operands,Call.operands,kd,Ud,List.filterMap_cons,List.filterMap_nil,List.append_nil,List.nil_append,List.cons_append,Ji,stable,Jl,J4,Jt,waits,Yr,List.all_cons,List.all_nil,List.any_cons,List.any_nil,Region.binds,Bool.or_true,Bool.true_or,Bool.and_true,Bool.true_and,Bool.or_false,Bool.false_or,Bool.and_self,Bool.or_self,Jc,Nat.le_refl,Nat.le_add_right,List.map_cons,Array.toList_append,f,hq,ec,rd4,rd30,rd31,rd32,rd33,wr30,wr31,wr32,wr33,wc31,wc32,List.replicate_succ,List.replicate_zero,Zw,Zt,Y8,Ua,Y7,read1]<;>rfl))
    exact⟨_,_,(by simp (maxSteps:=9^6) +decide (disch:=first|omega|(simp only[lens]<;>omega)|decide) only [go_sem,Za,simprocAttr]<;>rfl),_,rfl,(by first|omega|(simp only[H.Zd,H.Zg]<;>omega)),(by first|omega|(simp only[H.Zd,H.Zg]<;>omega)),by simp (maxSteps:=9^6) +decide (disch:=first|omega|(simp only[lens]<;>omega)|decide) only [go_sem,Za,simprocAttr,Oh,List.map_cons,List.map_nil,List.replicate_succ,List.replicate_zero]<;>rfl,fun m hm=>by (first|(simp (discharger:=omega) only [H.get_put,H.Zi,H.Zm,H.Zd,H.Zg,H.Zj,if_neg]; done)|(simp only[H.get_put,H.Zi,H.Zm,H.Zd,H.Zg,H.Zj]; (repeat' split)<;>first|rfl|(exfalso; omega)|omega))⟩
  exact Ze.row1 cc n1 n3 (Zeg _) n2 hk
 ·cases e
end
end Go.Proofs.YtngejdlimkgjfaaGreatDoor
