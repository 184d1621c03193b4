/- Descriptors written and read, as the walks ask it. -/
import Derived.Test.YtlbbmhgdcdcdnaaGreatDoorSup3
import Derived.Test.YtlbbmhgdcdcdnaaGreatDoorSup4
set_option linter.unusedSimpArgs false
set_option linter.unusedVariables false
set_option linter.unusedSectionVars false
set_option maxRecDepth 100000
namespace Go.Proofs.YtlbbmhgdcdcdnaaGreatDoor
open Go.Ev
def decR:List C→Option Desc
 | [.int .i64 x,.int .i64 y,.int .i64 z]=>(natI x).bind fun x=>(natI y).bind fun y=>(natI z).bind fun z=>some (x,y,z)
 | _=>none
def decD:List (List C)→Option (List Desc)
 | []=>some []
 | r :: L=>(decR r).bind fun d=>(decD L).bind fun D=>some (d :: D)
theorem decR_row (d:Desc):decR (rowD d)=some d:=by simp only[decR,rowD,natI_nat,Option.bind_some]
theorem decD_rows:∀ D:List Desc,decD (D.map rowD)=some D
 | []=>rfl
 | d :: D=>by simp only[List.map_cons,decD,decR_row,Option.bind_some,decD_rows D]
theorem decR_some {r:List C} {d:Desc} (e:decR r=some d):r=rowD d:=by
 unfold decR at e
 split at e
 ·obtain⟨x,hx,e⟩:=bind_of e
  obtain⟨y,hy,e⟩:=bind_of e
  obtain⟨z,hz,e⟩:=bind_of e
  cases e
  rw[natI_some hx,natI_some hy,natI_some hz]
  rfl
 ·cases e
theorem decD_some:∀ {L:List (List C)} {D:List Desc},decD L=some D→L=D.map rowD
 | [],D,e=>by cases e; rfl
 | r :: L,D,e=>by
  obtain⟨d,hd,e⟩:=bind_of (show (decR r).bind _=some D from e)
  obtain⟨D',hD,e⟩:=bind_of e
  cases e
  rw[List.map_cons,←decR_some hd,←decD_some hD]
def mayD (dt ino:Nat) (d:Desc):Bool:=Nat.ble d.1 dt&&Nat.ble d.2.1 ino&&Nat.ble (d.2.2+d.2.1) ino
theorem mayD_true {dt ino:Nat} {d:Desc} (e:mayD dt ino d=true):d.1≤dt∧d.2.1≤ino∧d.2.2+d.2.1≤ino:=by
 simp only[mayD,Bool.and_eq_true] at e
 exact⟨Nat.le_of_ble_eq_true e.1.1,Nat.le_of_ble_eq_true e.1.2,Nat.le_of_ble_eq_true e.2⟩
noncomputable def xWrD:Kn1:=fun args h=>match args with
 | [.g [.int .i64 a,.int .i64 b,.int .i64 c,.int .i64 d],.c (.slice n 0 len 3)]=>geoK a b c d fun a b c _=>match h.get n with
  | some (.row s L _)=>(decD L).bind fun D=>askB (Nat.beq s 3&&Nat.beq len a&&Nat.beq D.length a&&D.all (mayD (b - 2 - c / 4) c)&&isSteps (h.get 0)) (some (.tup [.g (pgL (sealN (desN D 0 zerN0))),.c (.int .i64 0)],h))
  | _=>none
 | _=>none
def voidG (ns:List Nat):Nat→Nat→Bool
 | 0,_=>true
 | k+1,i=>zerN ns (i+6) 2&&voidG ns k (i+8)
theorem voidG_at {ns:List Nat}:∀ {a i:Nat},voidG ns a i=true→∀ k,k<a→zerN ns (8 * k+i+6) 2=true
 | 0,_,_,k,hk=>by omega
 | a+1,i,e,k,hk=>by
  have e':(zerN ns (i+6) 2&&voidG ns a (i+8))=true:=e
  rw[Bool.and_eq_true] at e'
  cases k with
  | zero=>rw[Nat.mul_zero,Nat.zero_add]; exact e'.1
  | succ k=>have:=voidG_at e'.2 k (by omega); rwa [show 8 * (k+1)+i+6=8 * k+(i+8)+6 by omega]
def goodD (ns:List Nat) (a b c:Nat):Bool:=Nat.beq (get4N ns 252) (crcN ns)&&zerN ns (8 * a) (252 - 8 * a)&&voidG ns a 0&&(tellD ns a 0).all (mayD (b - 2 - c / 4) c)
theorem tell_mod (ns:List Nat):∀ a i,tellD (ns.map (· % 256)) a i=tellD ns a i
 | 0,_=>rfl
 | a+1,i=>by simp only[tellD,getD,get2_mod,tell_mod ns a]
theorem voidG_mod (ns:List Nat):∀ a i,voidG (ns.map (· % 256)) a i=voidG ns a i
 | 0,_=>rfl
 | a+1,i=>by simp only[voidG,zer_mod,voidG_mod ns a]
theorem goodD_mod (ns:List Nat) (a b c:Nat):goodD (ns.map (· % 256)) a b c=goodD ns a b c:=by simp only[goodD,get4_mod,crc_mod,zer_mod,voidG_mod,tell_mod]
noncomputable def xRdD:Kn1:=fun args h=>match args with
 | [.g [.int .i64 a,.int .i64 b,.int .i64 c,.int .i64 d],.g x]=>geoK a b c d fun a b c _=>askB (bysB x&&Nat.beq x.length 256&&goodD (unN x) a b c&&isSteps (h.get 0)) (some (.tup [.c (.slice h.next 0 a 3),.c (.int .i64 0)],h.new (.row 3 ((tellD (unN x) a 0).map rowD) false)))
 | _=>none
attribute [go_sem] xWrD xRdD decD_rows tell_mod goodD_mod
section
variable (Hh:Hearts K Tryz.prog)
include Hh
theorem xWrD_ok {args:List W} {h h':Go.Ev.H} {v:V} (e:xWrD args h=some (v,h')):CallOk K Tryz.prog 50 args h v h':=by
 unfold xWrD at e
 split at e
 ·obtain⟨a,b,c,d,rfl,rfl,rfl,rfl,f,e⟩:=geoK_some e
  split at e
  ·rename_i s L ro heq
   obtain⟨D,hD,e⟩:=bind_of e
   obtain⟨q,e⟩:=askB_some.1 e
   cases e
   simp only[Bool.and_eq_true] at q
   obtain⟨⟨⟨⟨q1,q2⟩,q3⟩,q4⟩,q5⟩:=q
   obtain rfl:=Nat.eq_of_beq_eq_true q1
   obtain rfl:=Nat.eq_of_beq_eq_true q2
   rw[decD_some hD] at heq
   exact wrDescsOk Hh f (isSteps_eq q5) heq (Nat.eq_of_beq_eq_true q3) fun d hd=>mayD_true (List.all_eq_true.1 q4 d hd)
  ·cases e
 ·cases e
theorem xRdD_ok {args:List W} {h h':Go.Ev.H} {v:V} (e:xRdD args h=some (v,h')):CallOk K Tryz.prog 74 args h v h':=by
 unfold xRdD at e
 split at e
 ·obtain⟨a,b,c,d,rfl,rfl,rfl,rfl,f,e⟩:=geoK_some e
  obtain⟨q,e⟩:=askB_some.1 e
  cases e
  simp only[Bool.and_eq_true] at q
  obtain⟨⟨⟨q1,q2⟩,q3⟩,q5⟩:=q
  obtain⟨ns,rfl,hl⟩:=bys_inv q1
  have q2:=Nat.eq_of_beq_eq_true q2
  rw[q2] at hl
  rw[un_pg,goodD_mod] at q3
  rw[un_pg,tell_mod]
  simp only[goodD,Bool.and_eq_true] at q3
  obtain⟨⟨⟨r1,r2⟩,r3⟩,r4⟩:=q3
  exact rdDescsOk Hh f (isSteps_eq q5) hl (Nat.eq_of_beq_eq_true r1) r2 (fun k hk=>by have:=voidG_at r3 k hk; rwa [Nat.add_zero] at this) fun d hd=>mayD_true (List.all_eq_true.1 r4 d hd)
 ·cases e
end
end Go.Proofs.YtlbbmhgdcdcdnaaGreatDoor
