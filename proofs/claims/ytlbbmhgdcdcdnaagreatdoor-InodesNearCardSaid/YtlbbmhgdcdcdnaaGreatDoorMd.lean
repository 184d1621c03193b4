/- The memory of a store over an image, its handle open: names counted from where fresh began. -/
import Derived.Test.YtlbbmhgdcdcdnaaGreatDoorNew2
import Derived.Test.YtlbbmhgdcdcdnaaGreatDoorBeg3
import Derived.Test.YtlbbmhgdcdcdnaaGreatDoorSto3
import Derived.Test.YtlbbmhgdcdcdnaaGreatDoorSto4
import Derived.Test.YtlbbmhgdcdcdnaaGreatDoorInd
import Derived.Test.YtlbbmhgdcdcdnaaGreatDoorDsc
set_option linter.unusedSimpArgs false
set_option linter.unusedVariables false
set_option linter.unusedSectionVars false
set_option maxRecDepth 100000
set_option maxHeartbeats 4000000
namespace Go.Proofs.YtlbbmhgdcdcdnaaGreatDoor
open Go.Ev
def stN (n:Nat) (kn:Bool):Stt:=⟨n+12,n+20,n+23,n+24,.snil,kn⟩
def txN (n:Nat):Tx:=⟨n+15,n+16,n+17,n+19,1,true,3,0,.map (n+25),.map (n+29),.map (n+30),.map (n+31),.ptr (n+28) 0⟩
def gdN (n a b c e:Nat) (md:Int):Gd:=⟨a,b,c,e,md,n+4,n+8,n+9,n+11⟩
def ckN (n:Nat):Ck:=⟨n+4,n+6,n+7⟩
def dkN (n N:Nat):Dk:=⟨n+2,n+3,N,.snil,0,0⟩
structure Md (n a b c e:Nat) (md:Int) (kn:Bool) (lt lc lm:Ents) (L:List (List C)) (h:Go.Ev.H):Prop where
 st:h.get 0=some stepsO
 n0:0<n
 nx:n+32≤h.next
 ht:h.get (n+20)=some (.row 13 [txL (txN n)] false)
 hg:h.get (n+12)=some (.row 9 [gdL (gdN n a b c e md)] false)
 hc:h.get (n+8)=some (.row 3 [ckL (ckN n)] false)
 hd:h.get (n+4)=some (.row 6 [dkL (dkN n (2+e+a * b))] false)
 hq:h.get (n+3)=some (.row 256 L false)
 hli:h.get (n+11)=some (.row 8 [[.bool true,.int .i64 (a:Int),.int .i64 (b:Int),.int .i64 (c:Int),.int .i64 (e:Int),.bool false,.int .u32 0,.snil]] false)
 hgv:h.get (n+24)=some (.map [])
 hfr:h.get (n+17)=some (.map [])
 hod:h.get (n+16)=some (.map [])
 hrv:h.get (n+19)=some (.row 1 [[.map (n+18)]] false)
 hrc:h.get (n+18)=some (.map [])
 hdt:h.get (n+23)=some (.map [])
 hm:h.get (n+6)=some (.map (ents lm))
 hs:h.get (n+13)=some (.row 8 [stL (stN n kn)] false)
 hto:h.get (n+25)=some (.map (ents lt))
 hch:h.get (n+15)=some (.map (ents lc))
section
variable {n a b c e:Nat} {md:Int} {kn:Bool} {lt lc lm:Ents} {L:List (List C)} {h h2:Go.Ev.H}
theorem Md.keep (M:Md n a b c e md kn lt lc lm L h) (hx:h.next≤h2.next) (k:∀ m,m<n+32→h2.get m=h.get m):Md n a b c e md kn lt lc lm L h2:=by
 obtain⟨f1,f2,f3,f4,f5,f6,f7,f8,f9,f10,f11,f12,f13,f14,f15,f16,f17,f18,f19⟩:=M
 refine⟨?_,f2,by omega,?_,?_,?_,?_,?_,?_,?_,?_,?_,?_,?_,?_,?_,?_,?_,?_⟩
 all_goals (rw[k _ (by omega)]; assumption)
theorem Md.seen (M:Md n a b c e md kn lt lc lm L h) (lm':Ents):Md n a b c e md kn lt lc lm' L (h.put (n+6) (.map (ents lm'))):=by
 obtain⟨f1,f2,f3,f4,f5,f6,f7,f8,f9,f10,f11,f12,f13,f14,f15,f16,f17,f18,f19⟩:=M
 refine⟨?_,f2,f3,?_,?_,?_,?_,?_,?_,?_,?_,?_,?_,?_,?_,get_put_self _ _ _,?_,?_,?_⟩
 all_goals (rw[get_put_ne (by omega)]; assumption)
noncomputable def putM (n:Nat) (lt lc:Ents) (h:Go.Ev.H):Go.Ev.H:=(((h.put (n+13) (.row 8 [stL (stN n false)] false)).put (n+25) (.map (ents lt))).put (n+15) (.map (ents lc))).put (n+17) (.map [])
theorem Md.txn (M:Md n a b c e md kn lt lc lm L h) (lt' lc':Ents):Md n a b c e md false lt' lc' lm L (putM n lt' lc' h):=by
 obtain⟨f1,f2,f3,f4,f5,f6,f7,f8,f9,f10,f11,f12,f13,f14,f15,f16,f17,f18,f19⟩:=M
 unfold putM
 refine⟨?_,f2,f3,?_,?_,?_,?_,?_,?_,?_,get_put_self _ _ _,?_,?_,?_,?_,?_,?_,?_,?_⟩
 all_goals (first|(rw[get_put_ne (by omega),get_put_ne (by omega),get_put_ne (by omega),get_put_ne (by omega)]; assumption)|(simp (discharger:=omega) only [H.get_put,if_neg,if_true]))
theorem putM_next (lt' lc':Ents):(putM n lt' lc' h).next=h.next:=rfl
theorem putM_get (lt' lc':Ents) {m:Nat} (h1:m≠n+13) (h2:m≠n+25) (h3:m≠n+15) (h4:m≠n+17):(putM n lt' lc' h).get m=h.get m:=by
 unfold putM
 rw[get_put_ne h4,get_put_ne h3,get_put_ne h2,get_put_ne h1]
theorem Md.xDisk (M:Md n a b c e md kn lt lc lm L h) (fb:fineB a b c e=true) {z:Nat} (hz:oursB a b c e (z:Int)=true) (z1:z<2+e+a * b) {x:List C} (hl:lookE (z:Int) lc=none) (hl2:lookE (z:Int) lm=none) (fl:flatE lm=true) (hx:L[z]? = some x) (xl:x.length=256) (xf:x.all C.flat=true):xSGet [.c (.ptr (n+13) 0),.c (.int .i64 (z:Int))] h=some (.tup [.g x,.c (.int .i64 0)],h.put (n+6) (.map (ents (updE (z:Int) (x++[.bool false]) lm)))):=by
 obtain⟨g1,g2,g3,g4,g5,g6,g7,g8,g9,g10,g11⟩:=fineB_fine fb
 obtain⟨f1,f2,f3,f4,f5,f6,f7,f8,f9,f10,f11,f12,f13,f14,f15,f16,f17,f18,f19⟩:=M
 have ld:∀ z,lookE z []=none:=fun _=>rfl
 have e0:entsOf []=some []:=rfl
 obtain⟨N,hN⟩:∃ N,2+e+a * b=N:=⟨_,rfl⟩
 rw[hN] at f7 z1
 unfold xSGet xSSeen xCRead
 simp (maxSteps:=9^6) +decide (disch:=first|omega|(simp only[lens]<;>omega)|decide) only [go_sem,readRow,loadIn,simprocAttr,f17,stN,f4,txN,f5,gdL,gdN,f6,ckN,f7,dkN,f8,f9,f15,f16,f19,fb,hz,hl,hl2,fl,hx,xl,xf,ld,e0,Int.toNat_natCast]<;>rfl
theorem Md.xSeen (M:Md n a b c e md kn lt lc lm L h) (fb:fineB a b c e=true) {z:Nat} (hz:oursB a b c e (z:Int)=true) (z1:z<2+e+a * b) {x:List C} (hl:lookE (z:Int) lc=none) (hl2:lookE (z:Int) lm=some (x++[.bool false])) (xl:x.length=256) (xf:x.all C.flat=true):xSGet [.c (.ptr (n+13) 0),.c (.int .i64 (z:Int))] h=some (.tup [.g x,.c (.int .i64 0)],h):=by
 obtain⟨g1,g2,g3,g4,g5,g6,g7,g8,g9,g10,g11⟩:=fineB_fine fb
 obtain⟨f1,f2,f3,f4,f5,f6,f7,f8,f9,f10,f11,f12,f13,f14,f15,f16,f17,f18,f19⟩:=M
 have ld:∀ z,lookE z []=none:=fun _=>rfl
 have e0:entsOf []=some []:=rfl
 have yl:(x++[C.bool false]).length=257:=by rw[List.length_append,xl]; rfl
 have yf:(x++[C.bool false]).all C.flat=true:=by rw[List.all_append,xf]; rfl
 have yt:(x++[C.bool false]).take 256=x:=by rw[←xl,List.take_left']; rfl
 obtain⟨y,hy⟩:∃ y,x++[C.bool false]=y:=⟨_,rfl⟩
 rw[hy] at hl2 yl yf yt
 obtain⟨N,hN⟩:∃ N,2+e+a * b=N:=⟨_,rfl⟩
 rw[hN] at f7 z1
 unfold xSGet xSSeen xCRead
 simp (maxSteps:=9^6) +decide (disch:=first|omega|(simp only[lens]<;>omega)|decide) only [go_sem,readRow,loadIn,simprocAttr,f17,stN,f4,txN,f5,gdL,gdN,f6,ckN,f7,dkN,f8,f9,f15,f16,f19,fb,hz,hl,hl2,yl,yf,yt,ld,e0]<;>rfl
theorem Md.xPut (M:Md n a b c e md kn lt lc lm L h) (fb:fineB a b c e=true) {z:Nat} (hz:oursB a b c e (z:Int)=true) (z1:z<2+e+a * b) {x:List C} (xl:x.length=256) (xf:x.all C.flat=true) (ft:flatE lt=true) (fc:flatE lc=true) (tk:lookE (z:Int) lt=none) (tl:lt.length<3):xSPut [.c (.ptr (n+13) 0),.c (.int .i64 (z:Int)),.g x] h=some (.w (.c (.int .i64 0)),putM n (updE (z:Int) [] lt) (updE (z:Int) x lc) h):=by
 obtain⟨g1,g2,g3,g4,g5,g6,g7,g8,g9,g10,g11⟩:=fineB_fine fb
 obtain⟨f1,f2,f3,f4,f5,f6,f7,f8,f9,f10,f11,f12,f13,f14,f15,f16,f17,f18,f19⟩:=M
 have tl':decide (((lt.length:Nat):Int)<3)=true:=decide_eq_true (by omega)
 have fn:flatE []=true:=rfl
 have dn:ents (delE (z:Int) [])=[]:=rfl
 unfold xSPut xPutIn xTPut
 simp (maxSteps:=9^6) +decide (disch:=first|omega|(simp only[lens]<;>omega)|decide) only [go_sem,readRow,loadIn,simprocAttr,f17,stN,f4,txN,f5,gdL,gdN,f15,f10,f18,f19,f11,f13,f14,fb,hz,xl,xf,ft,fc,fn,tk,tl',dn,putM,C.flat]<;>rfl
end
theorem ours_grp {a b c e z:Nat} (F:Fine a b c e) (h1:2+e≤z) (h2:z<2+e+a * b):oursB a b c e (z:Int)=true:=by
 obtain⟨g1,g2,g3,g4,g5,g6,g7,g8,g9,g10,g11⟩:=F
 unfold oursB
 rw[decide_eq_true (by omega),Int.toNat_natCast]
 unfold whatN
 rw[if_neg (by omega),if_neg (by omega),if_neg (by omega),if_neg (by omega)]
 split
 ·rfl
 ·split
  ·rfl
  ·split<;>rfl
theorem ours_one (a b c e:Nat):oursB a b c e ((1:Nat):Int)=true:=by
 unfold oursB
 rw[decide_eq_true (by omega),Int.toNat_natCast]
 unfold whatN
 rw[if_neg (by omega),if_pos (by omega)]
 rfl
end Go.Proofs.YtlbbmhgdcdcdnaaGreatDoor
