/- crc.Sum and nums.Zero, on the evaluator's level. -/
import Derived.Test.YtngejdlimkgjfaaGreatDoorCch
import Derived.Test.YtngejdlimkgjfaaGreatDoorEvC
set_option linter.unusedSimpArgs false
set_option linter.unusedVariables false
set_option linter.unusedSectionVars false
set_option maxRecDepth 100000
namespace Go.Proofs.YtngejdlimkgjfaaGreatDoor
open Go.Ev
noncomputable def q93 (p:List Nat):Code:=piece p (Yc Tryz.f93)
theorem Z57:q93 []=.seq (q93 [0]) (q93 [1]):=by kernel_rfl
theorem q93_0:q93 [0]=.region 0 (Y3 (q93 [0])) false:=by kernel_rfl
theorem q93_1:q93 [1]=.seq (q93 [1,0]) (q93 [1,1]):=by kernel_rfl
theorem Z34:q93 [1,0]=.seq (q93 [1,0,0]) (q93 [1,0,1]):=by kernel_rfl
theorem Z1k:q93 [1,0,0]=.region 1 (Y3 (q93 [1,0,0])) false:=by kernel_rfl
theorem Z0e:q93 [1,0,1]=.block 0 (q93 [1,0,1,2]):=by kernel_rfl
theorem Zcr:q93 [1,0,1,2]=.loop (q93 [1,0,1,2,2]):=by kernel_rfl
theorem Zea:q93 [1,0,1,2,2]=.seq (q93 [1,0,1,2,2,0]) (q93 [1,0,1,2,2,1]):=by kernel_rfl
theorem Zav:q93 [1,0,1,2,2,0]=.region 2 (Y3 (q93 [1,0,1,2,2,0])) false:=by kernel_rfl
theorem Za8:q93 [1,0,1,2,2,1]=.seq (q93 [1,0,1,2,2,1,0]) (q93 [1,0,1,2,2,1,1]):=by kernel_rfl
theorem Wv:q93 [1,0,1,2,2,1,0]=.cond (.tmp 8) (q93 [1,0,1,2,2,1,0,3]) (q93 [1,0,1,2,2,1,0,4]):=by kernel_rfl
theorem Zbm:q93 [1,0,1,2,2,1,0,3]=.skip:=by kernel_rfl
theorem Zk3:q93 [1,0,1,2,2,1,0,4]=.exit 0:=by kernel_rfl
theorem Zem:q93 [1,0,1,2,2,1,1]=.seq (q93 [1,0,1,2,2,1,1,0]) (q93 [1,0,1,2,2,1,1,1]):=by kernel_rfl
theorem Zcn:q93 [1,0,1,2,2,1,1,0]=.block 1 (q93 [1,0,1,2,2,1,1,0,2]):=by kernel_rfl
theorem Zai:q93 [1,0,1,2,2,1,1,0,2]=.seq (q93 [1,0,1,2,2,1,1,0,2,0]) (q93 [1,0,1,2,2,1,1,0,2,1]):=by kernel_rfl
theorem X5:q93 [1,0,1,2,2,1,1,0,2,0]=.region 3 (Y3 (q93 [1,0,1,2,2,1,1,0,2,0])) false:=by kernel_rfl
theorem Ww:q93 [1,0,1,2,2,1,1,0,2,1]=.seq (q93 [1,0,1,2,2,1,1,0,2,1,0]) (q93 [1,0,1,2,2,1,1,0,2,1,1]):=by kernel_rfl
theorem Xn:q93 [1,0,1,2,2,1,1,0,2,1,0]=.region 4 (Y3 (q93 [1,0,1,2,2,1,1,0,2,1,0])) false:=by kernel_rfl
theorem Xo:q93 [1,0,1,2,2,1,1,0,2,1,1]=.cond (.tmp 12) (q93 [1,0,1,2,2,1,1,0,2,1,1,3]) (q93 [1,0,1,2,2,1,1,0,2,1,1,4]):=by kernel_rfl
theorem Zdx:q93 [1,0,1,2,2,1,1,0,2,1,1,3]=.seq (q93 [1,0,1,2,2,1,1,0,2,1,1,3,0]) (q93 [1,0,1,2,2,1,1,0,2,1,1,3,1]):=by kernel_rfl
theorem Zck:q93 [1,0,1,2,2,1,1,0,2,1,1,3,0]=.region 5 (Y3 (q93 [1,0,1,2,2,1,1,0,2,1,1,3,0])) false:=by kernel_rfl
theorem Zbo:q93 [1,0,1,2,2,1,1,0,2,1,1,3,1]=.ret:=by kernel_rfl
theorem Zda:q93 [1,0,1,2,2,1,1,0,2,1,1,4]=.skip:=by kernel_rfl
theorem Zms:q93 [1,0,1,2,2,1,1,1]=.region 6 (Y3 (q93 [1,0,1,2,2,1,1,1])) false:=by kernel_rfl
theorem Z22:q93 [1,1]=.seq (q93 [1,1,0]) (q93 [1,1,1]):=by kernel_rfl
theorem Z1s:q93 [1,1,0]=.region 7 (Y3 (q93 [1,1,0])) false:=by kernel_rfl
theorem Zz2:q93 [1,1,1]=.ret:=by kernel_rfl
noncomputable def q165 (p:List Nat):Code:=piece p (Yc Tryz.f165)
theorem Z4t:q165 []=.seq (q165 [0]) (q165 [1]):=by kernel_rfl
theorem q165_0:q165 [0]=.region 0 (Y3 (q165 [0])) false:=by kernel_rfl
theorem q165_1:q165 [1]=.seq (q165 [1,0]) (q165 [1,1]):=by kernel_rfl
theorem Z00:q165 [1,0]=.region 1 (Y3 (q165 [1,0])) false:=by kernel_rfl
theorem Z1g:q165 [1,1]=.seq (q165 [1,1,0]) (q165 [1,1,1]):=by kernel_rfl
theorem Zxs:q165 [1,1,0]=.seq (q165 [1,1,0,0]) (q165 [1,1,0,1]):=by kernel_rfl
theorem Zvb:q165 [1,1,0,0]=.region 2 (Y3 (q165 [1,1,0,0])) false:=by kernel_rfl
theorem Zus:q165 [1,1,0,1]=.block 0 (q165 [1,1,0,1,2]):=by kernel_rfl
theorem Za9:q165 [1,1,0,1,2]=.loop (q165 [1,1,0,1,2,2]):=by kernel_rfl
theorem Ze7:q165 [1,1,0,1,2,2]=.seq (q165 [1,1,0,1,2,2,0]) (q165 [1,1,0,1,2,2,1]):=by kernel_rfl
theorem Zb6:q165 [1,1,0,1,2,2,0]=.region 3 (Y3 (q165 [1,1,0,1,2,2,0])) false:=by kernel_rfl
theorem Zcb:q165 [1,1,0,1,2,2,1]=.seq (q165 [1,1,0,1,2,2,1,0]) (q165 [1,1,0,1,2,2,1,1]):=by kernel_rfl
theorem Zag:q165 [1,1,0,1,2,2,1,0]=.cond (.tmp 11) (q165 [1,1,0,1,2,2,1,0,3]) (q165 [1,1,0,1,2,2,1,0,4]):=by kernel_rfl
theorem Zho:q165 [1,1,0,1,2,2,1,0,3]=.skip:=by kernel_rfl
theorem Zg5:q165 [1,1,0,1,2,2,1,0,4]=.exit 0:=by kernel_rfl
theorem Zi4:q165 [1,1,0,1,2,2,1,1]=.seq (q165 [1,1,0,1,2,2,1,1,0]) (q165 [1,1,0,1,2,2,1,1,1]):=by kernel_rfl
theorem Zgm:q165 [1,1,0,1,2,2,1,1,0]=.block 1 (q165 [1,1,0,1,2,2,1,1,0,2]):=by kernel_rfl
theorem Zfe:q165 [1,1,0,1,2,2,1,1,0,2]=.seq (q165 [1,1,0,1,2,2,1,1,0,2,0]) (q165 [1,1,0,1,2,2,1,1,0,2,1]):=by kernel_rfl
theorem Zdf:q165 [1,1,0,1,2,2,1,1,0,2,0]=.region 4 (Y3 (q165 [1,1,0,1,2,2,1,1,0,2,0])) false:=by kernel_rfl
theorem Zdk:q165 [1,1,0,1,2,2,1,1,0,2,1]=.seq (q165 [1,1,0,1,2,2,1,1,0,2,1,0]) (q165 [1,1,0,1,2,2,1,1,0,2,1,1]):=by kernel_rfl
theorem Zch:q165 [1,1,0,1,2,2,1,1,0,2,1,0]=.region 5 (Y3 (q165 [1,1,0,1,2,2,1,1,0,2,1,0])) false:=by kernel_rfl
theorem Zb4:q165 [1,1,0,1,2,2,1,1,0,2,1,1]=.block 2 (q165 [1,1,0,1,2,2,1,1,0,2,1,1,2]):=by kernel_rfl
theorem Er:q165 [1,1,0,1,2,2,1,1,0,2,1,1,2]=.loop (q165 [1,1,0,1,2,2,1,1,0,2,1,1,2,2]):=by kernel_rfl
theorem M4:q165 [1,1,0,1,2,2,1,1,0,2,1,1,2,2]=.seq (q165 [1,1,0,1,2,2,1,1,0,2,1,1,2,2,0]) (q165 [1,1,0,1,2,2,1,1,0,2,1,1,2,2,1]):=by kernel_rfl
theorem Ms:q165 [1,1,0,1,2,2,1,1,0,2,1,1,2,2,0]=.region 6 (Y3 (q165 [1,1,0,1,2,2,1,1,0,2,1,1,2,2,0])) false:=by kernel_rfl
theorem Mg:q165 [1,1,0,1,2,2,1,1,0,2,1,1,2,2,1]=.seq (q165 [1,1,0,1,2,2,1,1,0,2,1,1,2,2,1,0]) (q165 [1,1,0,1,2,2,1,1,0,2,1,1,2,2,1,1]):=by kernel_rfl
theorem F7:q165 [1,1,0,1,2,2,1,1,0,2,1,1,2,2,1,0]=.cond (.tmp 17) (q165 [1,1,0,1,2,2,1,1,0,2,1,1,2,2,1,0,3]) (q165 [1,1,0,1,2,2,1,1,0,2,1,1,2,2,1,0,4]):=by kernel_rfl
theorem Vj:q165 [1,1,0,1,2,2,1,1,0,2,1,1,2,2,1,0,3]=.skip:=by kernel_rfl
theorem V4:q165 [1,1,0,1,2,2,1,1,0,2,1,1,2,2,1,0,4]=.exit 2:=by kernel_rfl
theorem Xy:q165 [1,1,0,1,2,2,1,1,0,2,1,1,2,2,1,1]=.seq (q165 [1,1,0,1,2,2,1,1,0,2,1,1,2,2,1,1,0]) (q165 [1,1,0,1,2,2,1,1,0,2,1,1,2,2,1,1,1]):=by kernel_rfl
theorem Vv:q165 [1,1,0,1,2,2,1,1,0,2,1,1,2,2,1,1,0]=.block 3 (q165 [1,1,0,1,2,2,1,1,0,2,1,1,2,2,1,1,0,2]):=by kernel_rfl
theorem Sm:q165 [1,1,0,1,2,2,1,1,0,2,1,1,2,2,1,1,0,2]=.seq (q165 [1,1,0,1,2,2,1,1,0,2,1,1,2,2,1,1,0,2,0]) (q165 [1,1,0,1,2,2,1,1,0,2,1,1,2,2,1,1,0,2,1]):=by kernel_rfl
theorem Rz:q165 [1,1,0,1,2,2,1,1,0,2,1,1,2,2,1,1,0,2,0]=.region 7 (Y3 (q165 [1,1,0,1,2,2,1,1,0,2,1,1,2,2,1,1,0,2,0])) false:=by kernel_rfl
theorem R5:q165 [1,1,0,1,2,2,1,1,0,2,1,1,2,2,1,1,0,2,1]=.seq (q165 [1,1,0,1,2,2,1,1,0,2,1,1,2,2,1,1,0,2,1,0]) (q165 [1,1,0,1,2,2,1,1,0,2,1,1,2,2,1,1,0,2,1,1]):=by kernel_rfl
theorem Rc:q165 [1,1,0,1,2,2,1,1,0,2,1,1,2,2,1,1,0,2,1,0]=.region 8 (Y3 (q165 [1,1,0,1,2,2,1,1,0,2,1,1,2,2,1,1,0,2,1,0])) false:=by kernel_rfl
theorem Rb:q165 [1,1,0,1,2,2,1,1,0,2,1,1,2,2,1,1,0,2,1,1]=.seq (q165 [1,1,0,1,2,2,1,1,0,2,1,1,2,2,1,1,0,2,1,1,0]) (q165 [1,1,0,1,2,2,1,1,0,2,1,1,2,2,1,1,0,2,1,1,1]):=by kernel_rfl
theorem Nr:q165 [1,1,0,1,2,2,1,1,0,2,1,1,2,2,1,1,0,2,1,1,0]=.region 9 (Y3 (q165 [1,1,0,1,2,2,1,1,0,2,1,1,2,2,1,1,0,2,1,1,0])) false:=by kernel_rfl
theorem Nl:q165 [1,1,0,1,2,2,1,1,0,2,1,1,2,2,1,1,0,2,1,1,1]=.region 10 (Y3 (q165 [1,1,0,1,2,2,1,1,0,2,1,1,2,2,1,1,0,2,1,1,1])) false:=by kernel_rfl
theorem Vq:q165 [1,1,0,1,2,2,1,1,0,2,1,1,2,2,1,1,1]=.region 11 (Y3 (q165 [1,1,0,1,2,2,1,1,0,2,1,1,2,2,1,1,1])) false:=by kernel_rfl
theorem Zhy:q165 [1,1,0,1,2,2,1,1,1]=.region 12 (Y3 (q165 [1,1,0,1,2,2,1,1,1])) false:=by kernel_rfl
theorem Zwv:q165 [1,1,1]=.seq (q165 [1,1,1,0]) (q165 [1,1,1,1]):=by kernel_rfl
theorem Zvt:q165 [1,1,1,0]=.region 13 (Y3 (q165 [1,1,1,0])) false:=by kernel_rfl
theorem Zue:q165 [1,1,1,1]=.ret:=by kernel_rfl
def Zjf:List Nat:=[0,498536548,997073096,651767980,1994146192,1802195444,1303535960,1342533948,3988292384,4027552580,3604390888,3412177804,2607071920,2262029012,2685067896,3183342108]
def Zbn (j:Nat):Nat:=Zjf.getD j 0
def O1:O:=.row 16 [Zjf.map fun (n:Nat)=>.int .u32 (n:Int)] true
def half (v:Nat):Nat:=Nat.xor (v / 16) (Zbn (Nat.land v 15))
def Zzx (v b:Nat):Nat:=half (half (Nat.xor v b))
def Zty:List Nat→Nat→Nat
 | [],v=>v
 | b :: l,v=>Zty l (Zzx v b)
def Zo1:List (List Nat)→Nat→Nat
 | [],v=>v
 | l :: ps,v=>Zo1 ps (Zty l v)
theorem Zgr (j:Nat):Zbn j<4294967296:=by
 unfold Zbn Zjf
 by_cases h:j<16
 ·have:∀ j:Fin 16,([0,498536548,997073096,651767980,1994146192,1802195444,1303535960,1342533948,3988292384,4027552580,3604390888,3412177804,2607071920,2262029012,2685067896,3183342108]:List Nat).getD j.1 0<4294967296:=by decide
  exact this ⟨j,h⟩
 ·rw[List.getD_eq_getElem?_getD,List.getElem?_eq_none (by show 16≤j; omega)]
  decide
theorem Zjo (j:Nat) (h:j<16):read1 16 [Zjf.map fun (n:Nat)=>C.int .u32 (n:Int)] j=some (.int .u32 (Zbn j:Nat)):=by
 unfold read1
 rw[Nat.div_eq_of_lt h,Nat.mod_eq_of_lt h,List.getElem?_cons_zero]
 show (Zjf.map fun (n:Nat)=>C.int .u32 (n:Int))[j]? = _
 rw[List.getElem?_map,Zbn]
 have:j<Zjf.length:=h
 rw[List.getD_eq_getElem?_getD,List.getElem?_eq_getElem this]
 rfl
theorem Zk4 {v:Nat} (h:v<4294967296):half v<4294967296:=Zmc (by omega) (Zgr _)
theorem Zs4 {v b:Nat} (h:v<4294967296) (hb:b<256):Zzx v b<4294967296:=Zk4 (Zk4 (Zmc h (by omega)))
theorem Zlf:∀ {l:List Nat} {v:Nat},v<4294967296→(∀ b∈l,b<256)→Zty l v<4294967296
 | [],_,h,_=>h
 | b :: l,v,h,hb=>Zlf (l:=l) (v:=Zzx v b) (Zs4 h (hb b (by simp))) fun c hc=>hb c (by simp [hc])
theorem glob0 (ts:Zx):Bj K ts (.global 0)=some (.w (.c (.ptr 0 0))):=by
 show Zso K 0=_
 kernel_rfl
theorem shr4 {v:Nat}:Zta .u32 (v:Int) 4=some (.int .u32 ((v / 16:Nat):Int)):=by
 show some (C.int .u32 ((v:Int).fdiv 16))=_
 rw[show (v:Int).fdiv 16=((v / 16:Nat):Int) by rw[Int.fdiv_eq_ediv_of_nonneg _ (by omega)]; rfl]
theorem and15 {v:Nat} (hv:v<4294967296):Bh .u32 Nat.land (v:Int) 15=.int .u32 (Nat.land v 15:Nat):=Zqy (b:=15) hv (by omega) (Nat.lt_of_le_of_lt (Nat.and_le_right) (by omega))
theorem land15 (v:Nat):Nat.land v 15<16:=Nat.lt_of_le_of_lt (Nat.and_le_right) (by omega)
section
variable (Hh:Hearts K Tryz.prog)
include Hh
theorem Z5x (h:Go.Ev.H) (n off len:Nat) (o:O) (ho:h.get n=some o) (hst:h.get 0=some O1) (hlen:len<4294967296):∀ (l:List Nat) (i v:Nat) (ts:Zx),i+l.length=len→(∀ j (b:Nat),l[j]? = some b→b<256∧Za ti5 (off+(i+j)) (some o)=some (.c (.int .u8 (b:Int))))→v<4294967296→Zq ts 14=.w (.c (.slice n off len 1))→Zq ts 15=.w (.c (.int .i64 len))→Zq ts 3=.w (.c (.int .u32 v))→Zq ts 16=.w (.c (.int .i64 i)) →
  Goes K Tryz.prog 42 none (q165 [1,1,0,1,2,2,1,1,0,2,1,1,2]) [] ts h fun x ds' ts' h'=>x=.exit 2∧ds'=[]∧h'=h∧Zq ts' 3=.w (.c (.int .u32 (Zty l v)))∧Zq ts' 8=Zq ts 8∧Zq ts' 9=Zq ts 9∧Zq ts' 10=Zq ts 10:=by
 intro l
 induction l with
 | nil =>
  intro i v ts hi hl hv h14 h15 h3 h16
  have d1:decide ((i:Int)<(len:Int))=false:=decide_eq_false (by simp at hi; omega)
  show Goes K Tryz.prog 42 none (q165 [1,1,0,1,2,2,1,1,0,2,1,1,2]) _ _ _ _
  rw[Er]
  refine Goes.loop ?_
  show Goes K Tryz.prog 42 none (q165 [1,1,0,1,2,2,1,1,0,2,1,1,2,2]) _ _ _ _
  rw[M4]
  refine Goes.seq ?_
  show Goes K Tryz.prog 42 none (q165 [1,1,0,1,2,2,1,1,0,2,1,1,2,2,0]) _ _ _ _
  rw[Ms]
  refine Goes.ops2 fits Hh Zc (by
   simp only[q165,piece,part0,part1,part2,Yx,part3,part4,Yc,Tryz.f165,Y3]
   simp (decide:=true) only [go_sem,Zz,H.get_put,H.Zi,Za,Yi,reduceIte,Nat.reduceAdd,Nat.reduceMul,h15,h16,d1]
   rfl) ?_
  show Goes K Tryz.prog 42 none (q165 [1,1,0,1,2,2,1,1,0,2,1,1,2,2,1]) _ _ _ _
  rw[Mg]
  refine Goes.seq ?_
  show Goes K Tryz.prog 42 none (q165 [1,1,0,1,2,2,1,1,0,2,1,1,2,2,1,0]) _ _ _ _
  rw[F7]
  refine Goes.Wx (by simp (decide:=true) only [Z4,Y5,asC,Zn,reduceIte,Uu,Ju,h15,h16,d1]) ?_
  show Goes K Tryz.prog 42 none (q165 [1,1,0,1,2,2,1,1,0,2,1,1,2,2,1,0,4]) _ _ _ _
  rw[V4]
  refine Goes.exit ?_
  refine⟨rfl,rfl,rfl,?_,?_,?_,?_⟩<;>simp (decide:=true) only [Zn,reduceIte,h3,Zty]
 | cons b l ih =>
  intro i v ts hi hl hv h14 h15 h3 h16
  simp only[List.length_cons] at hi
  have d1:decide ((i:Int)<(len:Int))=true:=decide_eq_true (by omega)
  have w1:J8 .i64 ((i:Int)+1)=.int .i64 ((i+1:Nat):Int):=by rw[wrap64 (by omega) (by omega)]; congr 1
  have b1:Nat.blt i len=true:=Sr (by omega)
  obtain⟨hb,ld⟩:=hl 0 b rfl
  rw[Nat.add_zero] at ld
  have w2:J8 .u32 (b:Int)=.int .u32 (b:Int):=Zsx (by omega)
  have x1:=Zkt hv (show b<4294967296 by omega)
  obtain⟨u,hu⟩:∃ u,Nat.xor v b=u:=⟨_,rfl⟩
  have hu':u<4294967296:=hu ▸ Zmc hv (by omega)
  rw[hu] at x1
  have s1:=@shr4 u
  have a1:=and15 hu'
  have b2:Nat.blt (Nat.land u 15) 16=true:=Sr (land15 u)
  have st1:Za ti27 (Nat.land u 15) (some O1)=some (.c (.int .u32 (Zbn (Nat.land u 15):Nat))):=by
   rw[O1,Za,Z5w,cond_false,Zjo _ (land15 u)]
   rfl
  have x2:Bh .u32 Nat.xor ((u / 16:Nat):Int) ((Zbn (Nat.land u 15):Nat):Int)=.int .u32 (half u:Nat):=Zkt (by omega) (Zgr _)
  obtain⟨t,ht⟩:∃ t,half u=t:=⟨_,rfl⟩
  have ht':t<4294967296:=ht ▸ Zk4 hu'
  rw[ht] at x2
  have s2:=@shr4 t
  have a2:=and15 ht'
  have b3:Nat.blt (Nat.land t 15) 16=true:=Sr (land15 t)
  have st2:Za ti27 (Nat.land t 15) (some O1)=some (.c (.int .u32 (Zbn (Nat.land t 15):Nat))):=by
   rw[O1,Za,Z5w,cond_false,Zjo _ (land15 t)]
   rfl
  have x3:Bh .u32 Nat.xor ((t / 16:Nat):Int) ((Zbn (Nat.land t 15):Nat):Int)=.int .u32 (Zzx v b:Nat):=by
   rw[Zzx,hu,ht]
   exact Zkt (by omega) (Zgr _)
  show Goes K Tryz.prog 42 none (q165 [1,1,0,1,2,2,1,1,0,2,1,1,2]) _ _ _ _
  rw[Er]
  refine Goes.loop ?_
  show Goes K Tryz.prog 42 none (q165 [1,1,0,1,2,2,1,1,0,2,1,1,2,2]) _ _ _ _
  rw[M4]
  refine Goes.seq ?_
  show Goes K Tryz.prog 42 none (q165 [1,1,0,1,2,2,1,1,0,2,1,1,2,2,0]) _ _ _ _
  rw[Ms]
  refine Goes.ops2 fits Hh Zc (by
   simp only[q165,piece,part0,part1,part2,Yx,part3,part4,Yc,Tryz.f165,Y3]
   simp (decide:=true) only [go_sem,Zz,H.get_put,H.Zi,Yi,reduceIte,Nat.reduceAdd,Nat.reduceMul,h14,h15,h3,h16,d1,w1,w2,b1,ho,ld,x1,s1,a1,b2,hst,st1,x2,s2,a2,b3,st2,x3,Um,Bn,Zip,Bt,Zr0,Fv,Zpz,V6,Za3,glob0,Nat.beq_refl,Nat.mul_one,Nat.zero_add]
   rfl) ?_
  show Goes K Tryz.prog 42 none (q165 [1,1,0,1,2,2,1,1,0,2,1,1,2,2,1]) _ _ _ _
  rw[Mg]
  refine Goes.seq ?_
  show Goes K Tryz.prog 42 none (q165 [1,1,0,1,2,2,1,1,0,2,1,1,2,2,1,0]) _ _ _ _
  rw[F7]
  refine Goes.Zau (by simp (decide:=true) only [Z4,Y5,asC,Zn,reduceIte,Uu,Ju,h14,h15,h3,h16,d1,w1,w2,b1,ho,ld,x1,s1,a1,b2,hst,st1,x2,s2,a2,b3,st2,x3,Um,Bn,Zip,Bt,Zr0,Fv,Zpz,V6,Za3,glob0,Nat.beq_refl,Nat.mul_one,Nat.zero_add]) ?_
  show Goes K Tryz.prog 42 none (q165 [1,1,0,1,2,2,1,1,0,2,1,1,2,2,1,0,3]) _ _ _ _
  rw[Vj]
  refine Goes.skip ?_
  show Goes K Tryz.prog 42 none (q165 [1,1,0,1,2,2,1,1,0,2,1,1,2,2,1,1]) _ _ _ _
  rw[Xy]
  refine Goes.seq ?_
  show Goes K Tryz.prog 42 none (q165 [1,1,0,1,2,2,1,1,0,2,1,1,2,2,1,1,0]) _ _ _ _
  rw[Vv]
  refine Goes.block ?_
  show Goes K Tryz.prog 42 none (q165 [1,1,0,1,2,2,1,1,0,2,1,1,2,2,1,1,0,2]) _ _ _ _
  rw[Sm]
  refine Goes.seq ?_
  show Goes K Tryz.prog 42 none (q165 [1,1,0,1,2,2,1,1,0,2,1,1,2,2,1,1,0,2,0]) _ _ _ _
  rw[Rz]
  refine Goes.ops2 fits Hh Zc (by
   simp only[q165,piece,part0,part1,part2,Yx,part3,part4,Yc,Tryz.f165,Y3]
   simp (decide:=true) only [go_sem,Zz,H.get_put,H.Zi,Yi,reduceIte,Nat.reduceAdd,Nat.reduceMul,h14,h15,h3,h16,d1,w1,w2,b1,ho,ld,x1,s1,a1,b2,hst,st1,x2,s2,a2,b3,st2,x3,Um,Bn,Zip,Bt,Zr0,Fv,Zpz,V6,Za3,glob0,Nat.beq_refl,Nat.mul_one,Nat.zero_add]
   rfl) ?_
  show Goes K Tryz.prog 42 none (q165 [1,1,0,1,2,2,1,1,0,2,1,1,2,2,1,1,0,2,1]) _ _ _ _
  rw[R5]
  refine Goes.seq ?_
  show Goes K Tryz.prog 42 none (q165 [1,1,0,1,2,2,1,1,0,2,1,1,2,2,1,1,0,2,1,0]) _ _ _ _
  rw[Rc]
  refine Goes.ops2 fits Hh Zc (by
   simp only[q165,piece,part0,part1,part2,Yx,part3,part4,Yc,Tryz.f165,Y3]
   simp (decide:=true) only [go_sem,Zz,H.get_put,H.Zi,Yi,reduceIte,Nat.reduceAdd,Nat.reduceMul,h14,h15,h3,h16,d1,w1,w2,b1,ho,ld,x1,s1,a1,b2,hst,st1,x2,s2,a2,b3,st2,x3,Um,Bn,Zip,Bt,Zr0,Fv,Zpz,V6,Za3,glob0,Nat.beq_refl,Nat.mul_one,Nat.zero_add]
   rfl) ?_
  show Goes K Tryz.prog 42 none (q165 [1,1,0,1,2,2,1,1,0,2,1,1,2,2,1,1,0,2,1,1]) _ _ _ _
  rw[Rb]
  refine Goes.seq ?_
  show Goes K Tryz.prog 42 none (q165 [1,1,0,1,2,2,1,1,0,2,1,1,2,2,1,1,0,2,1,1,0]) _ _ _ _
  rw[Nr]
  refine Goes.ops2 fits Hh Zc (by
   simp only[q165,piece,part0,part1,part2,Yx,part3,part4,Yc,Tryz.f165,Y3]
   simp (decide:=true) only [go_sem,Zz,H.get_put,H.Zi,Yi,reduceIte,Nat.reduceAdd,Nat.reduceMul,h14,h15,h3,h16,d1,w1,w2,b1,ho,ld,x1,s1,a1,b2,hst,st1,x2,s2,a2,b3,st2,x3,Um,Bn,Zip,Bt,Zr0,Fv,Zpz,V6,Za3,glob0,Nat.beq_refl,Nat.mul_one,Nat.zero_add]
   rfl) ?_
  show Goes K Tryz.prog 42 none (q165 [1,1,0,1,2,2,1,1,0,2,1,1,2,2,1,1,0,2,1,1,1]) _ _ _ _
  rw[Nl]
  refine Goes.ops2 fits Hh Zc (by
   simp only[q165,piece,part0,part1,part2,Yx,part3,part4,Yc,Tryz.f165,Y3]
   simp (decide:=true) only [go_sem,Zz,H.get_put,H.Zi,Yi,reduceIte,Nat.reduceAdd,Nat.reduceMul,h14,h15,h3,h16,d1,w1,w2,b1,ho,ld,x1,s1,a1,b2,hst,st1,x2,s2,a2,b3,st2,x3,Um,Bn,Zip,Bt,Zr0,Fv,Zpz,V6,Za3,glob0,Nat.beq_refl,Nat.mul_one,Nat.zero_add]
   rfl) ?_
  show Goes K Tryz.prog 42 none (q165 [1,1,0,1,2,2,1,1,0,2,1,1,2,2,1,1,1]) _ _ _ _
  rw[Vq]
  refine Goes.ops2 fits Hh Zc (by
   simp only[q165,piece,part0,part1,part2,Yx,part3,part4,Yc,Tryz.f165,Y3]
   simp (decide:=true) only [go_sem,Zz,H.get_put,H.Zi,Yi,reduceIte,Nat.reduceAdd,Nat.reduceMul,h14,h15,h3,h16,d1,w1,w2,b1,ho,ld,x1,s1,a1,b2,hst,st1,x2,s2,a2,b3,st2,x3,Um,Bn,Zip,Bt,Zr0,Fv,Zpz,V6,Za3,glob0,Nat.beq_refl,Nat.mul_one,Nat.zero_add]
   rfl) ?_
  show Goes K Tryz.prog 42 none (.loop (q165 [1,1,0,1,2,2,1,1,0,2,1,1,2,2])) _ _ _ _
  rw[←Er]
  refine (ih (i+1) _ _ (by omega) (fun j c hc=>?_) (Zs4 hv hb) ?_ ?_ ?_ ?_).mono ?_
  ·have:=hl (j+1) c (by simpa using hc)
   rwa [show i+(j+1)=i+1+j by omega] at this
  ·simp (decide:=true) only [Zn,reduceIte,h14]
  ·simp (decide:=true) only [Zn,reduceIte,h15]
  ·simp (decide:=true) only [Zn,reduceIte]
  ·simp (decide:=true) only [Zn,reduceIte]
  ·rintro x ds' ts' h' ⟨e1,e2,e3,e4,e5,e6,e7⟩
   refine⟨e1,e2,e3,e4,?_,?_,?_⟩
   ·rw[e5]; simp (decide:=true) only [Zn,reduceIte]
   ·rw[e6]; simp (decide:=true) only [Zn,reduceIte]
   ·rw[e7]; simp (decide:=true) only [Zn,reduceIte]
def Holds (h:Go.Ev.H) (c:C) (l:List Nat):Prop:=∃ n off o,c=.slice n off l.length 1∧h.get n=some o∧l.length<4294967296∧∀ j (b:Nat),l[j]? = some b→b<256∧Za ti5 (off+j) (some o)=some (.c (.int .u8 (b:Int)))
omit Hh in
theorem Holds.lt {h:Go.Ev.H} {c:C} {l:List Nat} (H:Holds h c l):∀ b∈l,b<256:=fun b hb=>by
 obtain⟨_,_,_,_,_,_,hl⟩:=H
 obtain⟨j,hj⟩:=List.getElem?_of_mem hb
 exact (hl j b hj).1
theorem Z20 (h:Go.Ev.H) (n m:Nat) (cs:List C) (ro:Bool) (ho:h.get n=some (.row 1 (cs.map fun c=>[c]) ro)) (hst:h.get 0=some O1) (hm:cs.length=m) (hm':m<4294967296):∀ (ps:List (List Nat)) (i v:Nat) (ts:Zx),i+ps.length=m→(∀ (j:Nat) (l:List Nat),ps[j]? = some l→∃ c,cs[i+j]? = some c∧Holds h c l)→v<4294967296→Zq ts 8=.w (.c (.slice n 0 m 1))→Zq ts 9=.w (.c (.int .i64 m))→Zq ts 3=.w (.c (.int .u32 v))→Zq ts 10=.w (.c (.int .i64 i)) →
  Goes K Tryz.prog 42 none (q165 [1,1,0,1,2]) [] ts h fun x ds' ts' h'=>x=.exit 0∧ds'=[]∧h'=h∧Zq ts' 3=.w (.c (.int .u32 (Zo1 ps v)))∧Zo1 ps v<4294967296:=by
 intro ps
 induction ps with
 | nil =>
  intro i v ts hi hl hv h8 h9 h3 h10
  have d1:decide ((i:Int)<(m:Int))=false:=decide_eq_false (by simp at hi; omega)
  show Goes K Tryz.prog 42 none (q165 [1,1,0,1,2]) _ _ _ _
  rw[Za9]
  refine Goes.loop ?_
  show Goes K Tryz.prog 42 none (q165 [1,1,0,1,2,2]) _ _ _ _
  rw[Ze7]
  refine Goes.seq ?_
  show Goes K Tryz.prog 42 none (q165 [1,1,0,1,2,2,0]) _ _ _ _
  rw[Zb6]
  refine Goes.ops2 fits Hh Zc (by
   simp only[q165,piece,part0,part1,part2,Yx,part3,part4,Yc,Tryz.f165,Y3]
   simp (decide:=true) only [go_sem,Zz,H.get_put,H.Zi,Za,Yi,reduceIte,Nat.reduceAdd,Nat.reduceMul,h9,h10,d1]
   rfl) ?_
  show Goes K Tryz.prog 42 none (q165 [1,1,0,1,2,2,1]) _ _ _ _
  rw[Zcb]
  refine Goes.seq ?_
  show Goes K Tryz.prog 42 none (q165 [1,1,0,1,2,2,1,0]) _ _ _ _
  rw[Zag]
  refine Goes.Wx (by simp (decide:=true) only [Z4,Y5,asC,Zn,reduceIte,Uu,Ju,h9,h10,d1]) ?_
  show Goes K Tryz.prog 42 none (q165 [1,1,0,1,2,2,1,0,4]) _ _ _ _
  rw[Zg5]
  refine Goes.exit ?_
  refine⟨rfl,rfl,rfl,?_,hv⟩
  simp (decide:=true) only [Zn,reduceIte,h3,Zo1]
 | cons l ps ih =>
  intro i v ts hi hl hv h8 h9 h3 h10
  simp only[List.length_cons] at hi
  have d1:decide ((i:Int)<(m:Int))=true:=decide_eq_true (by omega)
  have b1:Nat.blt i m=true:=Sr (by omega)
  obtain⟨c,hc,hold⟩:=hl 0 l rfl
  have hlt:=hold.lt
  obtain⟨a,off,o,rfl,hao,hll,hby⟩:=hold
  rw[Nat.add_zero] at hc
  have rd:read1 1 (cs.map fun c=>[c]) i=some (.slice a off l.length 1):=by
   unfold read1
   rw[Nat.div_one,Nat.mod_one,List.getElem?_map,hc]
   rfl
  have fl:Un K 149 (.c (.slice a off l.length 1))=true:=by unfold Un; rw[Um]; rfl
  show Goes K Tryz.prog 42 none (q165 [1,1,0,1,2]) _ _ _ _
  rw[Za9]
  refine Goes.loop ?_
  show Goes K Tryz.prog 42 none (q165 [1,1,0,1,2,2]) _ _ _ _
  rw[Ze7]
  refine Goes.seq ?_
  show Goes K Tryz.prog 42 none (q165 [1,1,0,1,2,2,0]) _ _ _ _
  rw[Zb6]
  refine Goes.ops2 fits Hh Zc (by
   simp only[q165,piece,part0,part1,part2,Yx,part3,part4,Yc,Tryz.f165,Y3]
   simp (decide:=true) only [go_sem,Zz,H.get_put,H.Zi,Za,Yi,reduceIte,Nat.reduceAdd,Nat.reduceMul,h8,h9,h3,h10,d1,b1,ho,rd,fl,Qd,Zfn,Um,Zl7,Zl6,Zt,Y8,cW,Nat.beq_refl,Nat.mul_one,Nat.zero_add]
   rfl) ?_
  show Goes K Tryz.prog 42 none (q165 [1,1,0,1,2,2,1]) _ _ _ _
  rw[Zcb]
  refine Goes.seq ?_
  show Goes K Tryz.prog 42 none (q165 [1,1,0,1,2,2,1,0]) _ _ _ _
  rw[Zag]
  refine Goes.Zau (by simp (decide:=true) only [Z4,Y5,asC,Zn,reduceIte,Uu,Ju,h8,h9,h3,h10,d1,b1,ho,rd,fl,Qd,Zfn,Um,Zl7,Zl6,Zt,Y8,cW,Nat.beq_refl,Nat.mul_one,Nat.zero_add]) ?_
  show Goes K Tryz.prog 42 none (q165 [1,1,0,1,2,2,1,0,3]) _ _ _ _
  rw[Zho]
  refine Goes.skip ?_
  show Goes K Tryz.prog 42 none (q165 [1,1,0,1,2,2,1,1]) _ _ _ _
  rw[Zi4]
  refine Goes.seq ?_
  show Goes K Tryz.prog 42 none (q165 [1,1,0,1,2,2,1,1,0]) _ _ _ _
  rw[Zgm]
  refine Goes.block ?_
  show Goes K Tryz.prog 42 none (q165 [1,1,0,1,2,2,1,1,0,2]) _ _ _ _
  rw[Zfe]
  refine Goes.seq ?_
  show Goes K Tryz.prog 42 none (q165 [1,1,0,1,2,2,1,1,0,2,0]) _ _ _ _
  rw[Zdf]
  refine Goes.ops2 fits Hh Zc (by
   simp only[q165,piece,part0,part1,part2,Yx,part3,part4,Yc,Tryz.f165,Y3]
   simp (decide:=true) only [go_sem,Zz,H.get_put,H.Zi,Za,Yi,reduceIte,Nat.reduceAdd,Nat.reduceMul,h8,h9,h3,h10,d1,b1,ho,rd,fl,Qd,Zfn,Um,Zl7,Zl6,Zt,Y8,cW,Nat.beq_refl,Nat.mul_one,Nat.zero_add]
   rfl) ?_
  show Goes K Tryz.prog 42 none (q165 [1,1,0,1,2,2,1,1,0,2,1]) _ _ _ _
  rw[Zdk]
  refine Goes.seq ?_
  show Goes K Tryz.prog 42 none (q165 [1,1,0,1,2,2,1,1,0,2,1,0]) _ _ _ _
  rw[Zch]
  refine Goes.ops2 fits Hh Zc (by
   simp only[q165,piece,part0,part1,part2,Yx,part3,part4,Yc,Tryz.f165,Y3]
   simp (decide:=true) only [go_sem,Zz,H.get_put,H.Zi,Za,Yi,reduceIte,Nat.reduceAdd,Nat.reduceMul,h8,h9,h3,h10,d1,b1,ho,rd,fl,Qd,Zfn,Um,Zl7,Zl6,Zt,Y8,cW,Nat.beq_refl,Nat.mul_one,Nat.zero_add]
   rfl) ?_
  show Goes K Tryz.prog 42 none (q165 [1,1,0,1,2,2,1,1,0,2,1,1]) _ _ _ _
  rw[Zb4]
  refine Goes.block ((Z5x Hh h a off l.length o hao hst hll l 0 v _ (by omega) ?_ hv ?_ ?_ ?_ ?_).mono ?_)
  ·intro j b hb
   rw[Nat.zero_add]
   exact hby j b hb
  ·simp (decide:=true) only [Zn,reduceIte]
  ·simp (decide:=true) only [Zn,reduceIte]
  ·simp (decide:=true) only [Zn,reduceIte,h3]
  ·simp (decide:=true) only [Zn,reduceIte]<;>rfl
  rintro x ds' ts' h' ⟨rfl,rfl,rfl,e3,e8,e9,e10⟩
  have f8:Zq ts' 8=.w (.c (.slice n 0 m 1)):=by rw[e8]; simp (decide:=true) only [Zn,reduceIte,h8]
  have f9:Zq ts' 9=.w (.c (.int .i64 m)):=by rw[e9]; simp (decide:=true) only [Zn,reduceIte,h9]
  have f10:Zq ts' 10=.w (.c (.int .i64 i)):=by rw[e10]; simp (decide:=true) only [Zn,reduceIte,h10]
  have w1:J8 .i64 ((i:Int)+1)=.int .i64 ((i+1:Nat):Int):=by rw[wrap64 (by omega) (by omega)]; congr 1
  show Goes K Tryz.prog 42 none (q165 [1,1,0,1,2,2,1,1,1]) _ _ _ _
  rw[Zhy]
  refine Goes.ops2 fits Hh Zc (by
   simp only[q165,piece,part0,part1,part2,Yx,part3,part4,Yc,Tryz.f165,Y3]
   simp (decide:=true) only [go_sem,Zz,H.get_put,H.Zi,Za,Yi,reduceIte,Nat.reduceAdd,Nat.reduceMul,f10,w1]
   rfl) ?_
  show Goes K Tryz.prog 42 none (.loop (q165 [1,1,0,1,2,2])) _ _ _ _
  rw[←Za9]
  refine ih (i+1) _ _ (by omega) (fun j l' hj=>?_) (Zlf hv hlt) ?_ ?_ ?_ ?_
  ·have:=hl (j+1) l' (by simpa using hj)
   rwa [show i+(j+1)=i+1+j by omega] at this
  ·simp (decide:=true) only [Zn,reduceIte,f8]
  ·simp (decide:=true) only [Zn,reduceIte,f9]
  ·simp (decide:=true) only [Zn,reduceIte,e3]
  ·simp (decide:=true) only [Zn,reduceIte]
theorem Z2f (h:Go.Ev.H) (n:Nat) (cs:List C) (ro:Bool) (ps:List (List Nat)) (ho:h.get n=some (.row 1 (cs.map fun c=>[c]) ro)) (hst:h.get 0=some O1) (hm:cs.length=ps.length) (hm':ps.length<4294967296) (hl:∀ (j:Nat) (l:List Nat),ps[j]? = some l→∃ c,cs[j]? = some c∧Holds h c l) :
  Ze K Tryz.prog 165 [.c (.slice n 0 ps.length 1)] h (.w (.c (.int .u32 (Nat.xor 4294967295 (Zo1 ps 4294967295):Nat)))) h:=by
 have e0:Zq (Gp 0 [.c (.slice n 0 ps.length 1)] .nil) 0=.w (.c (.slice n 0 ps.length 1)):=by rw[Ow]; rfl
 refine Ze.goes fits Hh (by kernel_rfl) (by kernel_rfl) (by kernel_rfl) (show Tryz.f165.body=some (q165 []) by kernel_rfl) rfl ?_
 have e1:Tryz.f165.results.toList=[.tmp 2]:=rfl
 have fl:Un K 269 (.c (.slice n 0 ps.length 1))=true:=by unfold Un; rw[Qd]; rfl
 show Goes K Tryz.prog 42 none _ _ _ _ _
 show Goes K Tryz.prog 42 none (q165 []) _ _ _ _
 rw[Z4t]
 refine Goes.seq ?_
 show Goes K Tryz.prog 42 none (q165 [0]) _ _ _ _
 rw[q165_0]
 refine Goes.ops2 fits Hh Zc (by
  simp only[q165,piece,part0,part1,part2,Yx,part3,part4,Yc,Tryz.f165,Y3]
  simp (decide:=true) only [go_sem,Zz,H.get_put,H.Zi,Za,Yi,reduceIte,Nat.reduceAdd,Nat.reduceMul,e0,fl,Zt,Y8]
  rfl) ?_
 show Goes K Tryz.prog 42 none (q165 [1]) _ _ _ _
 rw[q165_1]
 refine Goes.seq ?_
 show Goes K Tryz.prog 42 none (q165 [1,0]) _ _ _ _
 rw[Z00]
 refine Goes.ops2 fits Hh Zc (by
  simp only[q165,piece,part0,part1,part2,Yx,part3,part4,Yc,Tryz.f165,Y3]
  simp (decide:=true) only [go_sem,Zz,H.get_put,H.Zi,Za,Yi,reduceIte,Nat.reduceAdd,Nat.reduceMul,e0,fl,Zt,Y8]
  rfl) ?_
 show Goes K Tryz.prog 42 none (q165 [1,1]) _ _ _ _
 rw[Z1g]
 refine Goes.seq ?_
 show Goes K Tryz.prog 42 none (q165 [1,1,0]) _ _ _ _
 rw[Zxs]
 refine Goes.seq ?_
 show Goes K Tryz.prog 42 none (q165 [1,1,0,0]) _ _ _ _
 rw[Zvb]
 refine Goes.ops2 fits Hh Zc (by
  simp only[q165,piece,part0,part1,part2,Yx,part3,part4,Yc,Tryz.f165,Y3]
  simp (decide:=true) only [go_sem,Zz,H.get_put,H.Zi,Za,Yi,reduceIte,Nat.reduceAdd,Nat.reduceMul,e0,fl,Zt,Y8]
  rfl) ?_
 show Goes K Tryz.prog 42 none (q165 [1,1,0,1]) _ _ _ _
 rw[Zus]
 refine Goes.block ?_
 show Goes K Tryz.prog 42 none (q165 [1,1,0,1,2]) _ _ _ _
 refine (Z20 Hh h n ps.length cs ro ho hst hm hm' ps 0 4294967295 _ (by omega) ?_ (by omega) ?_ ?_ ?_ ?_).mono ?_
 ·intro j l hj
  rw[Nat.zero_add]
  exact hl j l hj
 ·simp (decide:=true) only [Zn,reduceIte]
 ·simp (decide:=true) only [Zn,reduceIte]
 ·simp (decide:=true) only [Zn,reduceIte]<;>rfl
 ·simp (decide:=true) only [Zn,reduceIte]<;>rfl
 rintro x ds' ts' h' ⟨rfl,rfl,rfl,e3,hlt⟩
 have x1:Bh .u32 Nat.xor IntKind.u32.max (Zo1 ps 4294967295:Nat)=.int .u32 (Nat.xor 4294967295 (Zo1 ps 4294967295):Nat):=Zkt (a:=4294967295) (by omega) hlt
 show Goes K Tryz.prog 42 none (q165 [1,1,1]) _ _ _ _
 rw[Zwv]
 refine Goes.seq ?_
 show Goes K Tryz.prog 42 none (q165 [1,1,1,0]) _ _ _ _
 rw[Zvt]
 refine Goes.ops2 fits Hh Zc (by
  simp only[q165,piece,part0,part1,part2,Yx,part3,part4,Yc,Tryz.f165,Y3]
  simp (decide:=true) only [go_sem,Zz,H.get_put,H.Zi,Za,Yi,reduceIte,Nat.reduceAdd,Nat.reduceMul,e3,x1]
  rfl) ?_
 show Goes K Tryz.prog 42 none (q165 [1,1,1,1]) _ _ _ _
 rw[Zue]
 refine Goes.ret ?_
 simp (decide:=true) only [Ng,Oa,finish,e1,U4,evalW,Y5,asW,Zn,reduceIte,Bu]
def Zgd:List Nat→Bool
 | []=>true
 | b :: l=>bif Nat.beq b 0 then Zgd l else false
theorem zero0 (h:Go.Ev.H) (n off len:Nat) (o:O) (ho:h.get n=some o) (hlen:len<4294967296):∀ (l:List Nat) (i:Nat) (ts:Zx),i+l.length=len→(∀ j (b:Nat),l[j]? = some b→b<256∧Za ti5 (off+(i+j)) (some o)=some (.c (.int .u8 (b:Int))))→Zq ts 5=.w (.c (.slice n off len 1))→Zq ts 6=.w (.c (.int .i64 len))→Zq ts 7=.w (.c (.int .i64 i)) →
  Goes K Tryz.prog 14 none (q93 [1,0,1,2]) [] ts h fun x ds' ts' h'=>ds'=[]∧h'=h∧(Zgd l=true∧x=.exit 0∨Zgd l=false∧x=.ret∧Zq ts' 2=.w (.c (.bool false))):=by
 intro l
 induction l with
 | nil =>
  intro i ts hi hl h5 h6 h7
  have d1:decide ((i:Int)<(len:Int))=false:=decide_eq_false (by simp at hi; omega)
  show Goes K Tryz.prog 14 none (q93 [1,0,1,2]) _ _ _ _
  rw[Zcr]
  refine Goes.loop ?_
  show Goes K Tryz.prog 14 none (q93 [1,0,1,2,2]) _ _ _ _
  rw[Zea]
  refine Goes.seq ?_
  show Goes K Tryz.prog 14 none (q93 [1,0,1,2,2,0]) _ _ _ _
  rw[Zav]
  refine Goes.ops2 fits Hh Zc (by
   simp only[q93,piece,part0,part1,part2,Yx,part3,part4,Yc,Tryz.f93,Y3]
   simp (decide:=true) only [go_sem,Zz,H.get_put,H.Zi,Za,Yi,reduceIte,Nat.reduceAdd,Nat.reduceMul,h6,h7,d1]
   rfl) ?_
  show Goes K Tryz.prog 14 none (q93 [1,0,1,2,2,1]) _ _ _ _
  rw[Za8]
  refine Goes.seq ?_
  show Goes K Tryz.prog 14 none (q93 [1,0,1,2,2,1,0]) _ _ _ _
  rw[Wv]
  refine Goes.Wx (by simp (decide:=true) only [Z4,Y5,asC,Zn,reduceIte,Uu,Ju,h6,h7,d1]) ?_
  show Goes K Tryz.prog 14 none (q93 [1,0,1,2,2,1,0,4]) _ _ _ _
  rw[Zk3]
  refine Goes.exit ?_
  exact⟨rfl,rfl,.inl ⟨rfl,rfl⟩⟩
 | cons b l ih =>
  intro i ts hi hl h5 h6 h7
  simp only[List.length_cons] at hi
  have d1:decide ((i:Int)<(len:Int))=true:=decide_eq_true (by omega)
  have w1:J8 .i64 ((i:Int)+1)=.int .i64 ((i+1:Nat):Int):=by rw[wrap64 (by omega) (by omega)]; congr 1
  have b1:Nat.blt i len=true:=Sr (by omega)
  obtain⟨hb,ld⟩:=hl 0 b rfl
  rw[Nat.add_zero] at ld
  by_cases b0:b=0
  ·subst b0
   have z:(((0:Nat):Int) != 0)=false:=rfl
   show Goes K Tryz.prog 14 none (q93 [1,0,1,2]) _ _ _ _
   rw[Zcr]
   refine Goes.loop ?_
   show Goes K Tryz.prog 14 none (q93 [1,0,1,2,2]) _ _ _ _
   rw[Zea]
   refine Goes.seq ?_
   show Goes K Tryz.prog 14 none (q93 [1,0,1,2,2,0]) _ _ _ _
   rw[Zav]
   refine Goes.ops2 fits Hh Zc (by
    simp only[q93,piece,part0,part1,part2,Yx,part3,part4,Yc,Tryz.f93,Y3]
    simp (decide:=true) only [go_sem,Zz,H.get_put,H.Zi,Yi,reduceIte,Nat.reduceAdd,Nat.reduceMul,h5,h6,h7,d1,w1,b1,ho,ld,z,Um,Bn,Bt,Fv,Nat.beq_refl,Nat.mul_one]
    rfl) ?_
   show Goes K Tryz.prog 14 none (q93 [1,0,1,2,2,1]) _ _ _ _
   rw[Za8]
   refine Goes.seq ?_
   show Goes K Tryz.prog 14 none (q93 [1,0,1,2,2,1,0]) _ _ _ _
   rw[Wv]
   refine Goes.Zau (by simp (decide:=true) only [Z4,Y5,asC,Zn,reduceIte,Uu,Ju,h5,h6,h7,d1,w1,b1,ho,ld,z,Um,Bn,Bt,Fv,Nat.beq_refl,Nat.mul_one]) ?_
   show Goes K Tryz.prog 14 none (q93 [1,0,1,2,2,1,0,3]) _ _ _ _
   rw[Zbm]
   refine Goes.skip ?_
   show Goes K Tryz.prog 14 none (q93 [1,0,1,2,2,1,1]) _ _ _ _
   rw[Zem]
   refine Goes.seq ?_
   show Goes K Tryz.prog 14 none (q93 [1,0,1,2,2,1,1,0]) _ _ _ _
   rw[Zcn]
   refine Goes.block ?_
   show Goes K Tryz.prog 14 none (q93 [1,0,1,2,2,1,1,0,2]) _ _ _ _
   rw[Zai]
   refine Goes.seq ?_
   show Goes K Tryz.prog 14 none (q93 [1,0,1,2,2,1,1,0,2,0]) _ _ _ _
   rw[X5]
   refine Goes.ops2 fits Hh Zc (by
    simp only[q93,piece,part0,part1,part2,Yx,part3,part4,Yc,Tryz.f93,Y3]
    simp (decide:=true) only [go_sem,Zz,H.get_put,H.Zi,Yi,reduceIte,Nat.reduceAdd,Nat.reduceMul,h5,h6,h7,d1,w1,b1,ho,ld,z,Um,Bn,Bt,Fv,Nat.beq_refl,Nat.mul_one]
    rfl) ?_
   show Goes K Tryz.prog 14 none (q93 [1,0,1,2,2,1,1,0,2,1]) _ _ _ _
   rw[Ww]
   refine Goes.seq ?_
   show Goes K Tryz.prog 14 none (q93 [1,0,1,2,2,1,1,0,2,1,0]) _ _ _ _
   rw[Xn]
   refine Goes.ops2 fits Hh Zc (by
    simp only[q93,piece,part0,part1,part2,Yx,part3,part4,Yc,Tryz.f93,Y3]
    simp (decide:=true) only [go_sem,Zz,H.get_put,H.Zi,Yi,reduceIte,Nat.reduceAdd,Nat.reduceMul,h5,h6,h7,d1,w1,b1,ho,ld,z,Um,Bn,Bt,Fv,Nat.beq_refl,Nat.mul_one]
    rfl) ?_
   show Goes K Tryz.prog 14 none (q93 [1,0,1,2,2,1,1,0,2,1,1]) _ _ _ _
   rw[Xo]
   refine Goes.Wx (by simp (decide:=true) only [Z4,Y5,asC,Zn,reduceIte,Uu,Ju,h5,h6,h7,d1,w1,b1,ho,ld,z,Um,Bn,Bt,Fv,Nat.beq_refl,Nat.mul_one]) ?_
   show Goes K Tryz.prog 14 none (q93 [1,0,1,2,2,1,1,0,2,1,1,4]) _ _ _ _
   rw[Zda]
   refine Goes.skip ?_
   show Goes K Tryz.prog 14 none (q93 [1,0,1,2,2,1,1,1]) _ _ _ _
   rw[Zms]
   refine Goes.ops2 fits Hh Zc (by
    simp only[q93,piece,part0,part1,part2,Yx,part3,part4,Yc,Tryz.f93,Y3]
    simp (decide:=true) only [go_sem,Zz,H.get_put,H.Zi,Yi,reduceIte,Nat.reduceAdd,Nat.reduceMul,h5,h6,h7,d1,w1,b1,ho,ld,z,Um,Bn,Bt,Fv,Nat.beq_refl,Nat.mul_one]
    rfl) ?_
   show Goes K Tryz.prog 14 none (.loop (q93 [1,0,1,2,2])) _ _ _ _
   rw[←Zcr]
   refine ih (i+1) _ (by omega) (fun j c hc=>?_) ?_ ?_ ?_
   ·have:=hl (j+1) c (by simpa using hc)
    rwa [show i+(j+1)=i+1+j by omega] at this
   ·simp (decide:=true) only [Zn,reduceIte,h5]
   ·simp (decide:=true) only [Zn,reduceIte,h6]
   ·simp (decide:=true) only [Zn,reduceIte]
  ·have z:((b:Int) != 0)=true:=by simpa using b0
   show Goes K Tryz.prog 14 none (q93 [1,0,1,2]) _ _ _ _
   rw[Zcr]
   refine Goes.loop ?_
   show Goes K Tryz.prog 14 none (q93 [1,0,1,2,2]) _ _ _ _
   rw[Zea]
   refine Goes.seq ?_
   show Goes K Tryz.prog 14 none (q93 [1,0,1,2,2,0]) _ _ _ _
   rw[Zav]
   refine Goes.ops2 fits Hh Zc (by
    simp only[q93,piece,part0,part1,part2,Yx,part3,part4,Yc,Tryz.f93,Y3]
    simp (decide:=true) only [go_sem,Zz,H.get_put,H.Zi,Yi,reduceIte,Nat.reduceAdd,Nat.reduceMul,h5,h6,h7,d1,w1,b1,ho,ld,z,Um,Bn,Bt,Fv,Nat.beq_refl,Nat.mul_one]
    rfl) ?_
   show Goes K Tryz.prog 14 none (q93 [1,0,1,2,2,1]) _ _ _ _
   rw[Za8]
   refine Goes.seq ?_
   show Goes K Tryz.prog 14 none (q93 [1,0,1,2,2,1,0]) _ _ _ _
   rw[Wv]
   refine Goes.Zau (by simp (decide:=true) only [Z4,Y5,asC,Zn,reduceIte,Uu,Ju,h5,h6,h7,d1,w1,b1,ho,ld,z,Um,Bn,Bt,Fv,Nat.beq_refl,Nat.mul_one]) ?_
   show Goes K Tryz.prog 14 none (q93 [1,0,1,2,2,1,0,3]) _ _ _ _
   rw[Zbm]
   refine Goes.skip ?_
   show Goes K Tryz.prog 14 none (q93 [1,0,1,2,2,1,1]) _ _ _ _
   rw[Zem]
   refine Goes.seq ?_
   show Goes K Tryz.prog 14 none (q93 [1,0,1,2,2,1,1,0]) _ _ _ _
   rw[Zcn]
   refine Goes.block ?_
   show Goes K Tryz.prog 14 none (q93 [1,0,1,2,2,1,1,0,2]) _ _ _ _
   rw[Zai]
   refine Goes.seq ?_
   show Goes K Tryz.prog 14 none (q93 [1,0,1,2,2,1,1,0,2,0]) _ _ _ _
   rw[X5]
   refine Goes.ops2 fits Hh Zc (by
    simp only[q93,piece,part0,part1,part2,Yx,part3,part4,Yc,Tryz.f93,Y3]
    simp (decide:=true) only [go_sem,Zz,H.get_put,H.Zi,Yi,reduceIte,Nat.reduceAdd,Nat.reduceMul,h5,h6,h7,d1,w1,b1,ho,ld,z,Um,Bn,Bt,Fv,Nat.beq_refl,Nat.mul_one]
    rfl) ?_
   show Goes K Tryz.prog 14 none (q93 [1,0,1,2,2,1,1,0,2,1]) _ _ _ _
   rw[Ww]
   refine Goes.seq ?_
   show Goes K Tryz.prog 14 none (q93 [1,0,1,2,2,1,1,0,2,1,0]) _ _ _ _
   rw[Xn]
   refine Goes.ops2 fits Hh Zc (by
    simp only[q93,piece,part0,part1,part2,Yx,part3,part4,Yc,Tryz.f93,Y3]
    simp (decide:=true) only [go_sem,Zz,H.get_put,H.Zi,Yi,reduceIte,Nat.reduceAdd,Nat.reduceMul,h5,h6,h7,d1,w1,b1,ho,ld,z,Um,Bn,Bt,Fv,Nat.beq_refl,Nat.mul_one]
    rfl) ?_
   show Goes K Tryz.prog 14 none (q93 [1,0,1,2,2,1,1,0,2,1,1]) _ _ _ _
   rw[Xo]
   refine Goes.Zau (by simp (decide:=true) only [Z4,Y5,asC,Zn,reduceIte,Uu,Ju,h5,h6,h7,d1,w1,b1,ho,ld,z,Um,Bn,Bt,Fv,Nat.beq_refl,Nat.mul_one]) ?_
   show Goes K Tryz.prog 14 none (q93 [1,0,1,2,2,1,1,0,2,1,1,3]) _ _ _ _
   rw[Zdx]
   refine Goes.seq ?_
   show Goes K Tryz.prog 14 none (q93 [1,0,1,2,2,1,1,0,2,1,1,3,0]) _ _ _ _
   rw[Zck]
   refine Goes.ops2 fits Hh Zc (by
    simp only[q93,piece,part0,part1,part2,Yx,part3,part4,Yc,Tryz.f93,Y3]
    simp (decide:=true) only [go_sem,Zz,H.get_put,H.Zi,Yi,reduceIte,Nat.reduceAdd,Nat.reduceMul,h5,h6,h7,d1,w1,b1,ho,ld,z,Um,Bn,Bt,Fv,Nat.beq_refl,Nat.mul_one]
    rfl) ?_
   show Goes K Tryz.prog 14 none (q93 [1,0,1,2,2,1,1,0,2,1,1,3,1]) _ _ _ _
   rw[Zbo]
   refine Goes.ret ?_
   refine⟨rfl,rfl,.inr ⟨?_,rfl,?_⟩⟩
   ·have:Nat.beq b 0=false:=by
     cases e:Nat.beq b 0 with
     | false=>rfl
     | true=>exact absurd (Nat.eq_of_beq_eq_true e) b0
    simp only[Zgd,this,cond_false]
   ·simp (decide:=true) only [Zn,reduceIte]
theorem Zzq (h:Go.Ev.H) (c:C) (l:List Nat) (hold:Holds h c l):Ze K Tryz.prog 93 [.c c] h (.w (.c (.bool (Zgd l)))) h:=by
 obtain⟨n,off,o,rfl,ho,hlen,hl⟩:=hold
 have e0:Zq (Gp 0 [.c (.slice n off l.length 1)] .nil) 0=.w (.c (.slice n off l.length 1)):=by rw[Ow]; rfl
 refine Ze.goes fits Hh (by kernel_rfl) (by kernel_rfl) (by kernel_rfl) (show Tryz.f93.body=some (q93 []) by kernel_rfl) rfl ?_
 have e1:Tryz.f93.results.toList=[.tmp 2]:=rfl
 have fl:Un K 149 (.c (.slice n off l.length 1))=true:=by unfold Un; rw[Um]; rfl
 show Goes K Tryz.prog 14 none _ _ _ _ _
 show Goes K Tryz.prog 14 none (q93 []) _ _ _ _
 rw[Z57]
 refine Goes.seq ?_
 show Goes K Tryz.prog 14 none (q93 [0]) _ _ _ _
 rw[q93_0]
 refine Goes.ops2 fits Hh Zc (by
  simp only[q93,piece,part0,part1,part2,Yx,part3,part4,Yc,Tryz.f93,Y3]
  simp (decide:=true) only [go_sem,Zz,H.get_put,H.Zi,Za,Yi,reduceIte,Nat.reduceAdd,Nat.reduceMul,e0,fl,Zt,Y8]
  rfl) ?_
 show Goes K Tryz.prog 14 none (q93 [1]) _ _ _ _
 rw[q93_1]
 refine Goes.seq ?_
 show Goes K Tryz.prog 14 none (q93 [1,0]) _ _ _ _
 rw[Z34]
 refine Goes.seq ?_
 show Goes K Tryz.prog 14 none (q93 [1,0,0]) _ _ _ _
 rw[Z1k]
 refine Goes.ops2 fits Hh Zc (by
  simp only[q93,piece,part0,part1,part2,Yx,part3,part4,Yc,Tryz.f93,Y3]
  simp (decide:=true) only [go_sem,Zz,H.get_put,H.Zi,Za,Yi,reduceIte,Nat.reduceAdd,Nat.reduceMul,e0,fl,Zt,Y8]
  rfl) ?_
 show Goes K Tryz.prog 14 none (q93 [1,0,1]) _ _ _ _
 rw[Z0e]
 refine Goes.block ?_
 show Goes K Tryz.prog 14 none (q93 [1,0,1,2]) _ _ _ _
 refine (zero0 Hh h n off l.length o ho hlen l 0 _ (by omega) ?_ ?_ ?_ ?_).mono ?_
 ·intro j b hb
  rw[Nat.zero_add]
  exact hl j b hb
 ·simp (decide:=true) only [Zn,reduceIte]
 ·simp (decide:=true) only [Zn,reduceIte]
 ·simp (decide:=true) only [Zn,reduceIte]<;>rfl
 rintro x ds' ts' h' ⟨rfl,rfl,⟨hz,rfl⟩|⟨hz,rfl,h2⟩⟩
 ·rw[hz]
  show Goes K Tryz.prog 14 none (q93 [1,1]) _ _ _ _
  rw[Z22]
  refine Goes.seq ?_
  show Goes K Tryz.prog 14 none (q93 [1,1,0]) _ _ _ _
  rw[Z1s]
  refine Goes.ops2 fits Hh Zc (by
   simp only[q93,piece,part0,part1,part2,Yx,part3,part4,Yc,Tryz.f93,Y3]
   simp (decide:=true) only [go_sem,Zz,H.get_put,H.Zi,Za,Yi,reduceIte,Nat.reduceAdd,Nat.reduceMul]
   rfl) ?_
  show Goes K Tryz.prog 14 none (q93 [1,1,1]) _ _ _ _
  rw[Zz2]
  refine Goes.ret ?_
  simp (decide:=true) only [Ng,Oa,finish,e1,U4,evalW,Y5,asW,Zn,reduceIte,Bu]
 ·rw[hz]
  show leave K Tryz.f93 (some (.at .ret [] ts' h'))=_
  simp (decide:=true) only [Ng,Oa,finish,e1,U4,evalW,Y5,asW,h2,Bu]
end
end Go.Proofs.YtngejdlimkgjfaaGreatDoor
set_option maxRecDepth 100000
namespace Go.Proofs.YtngejdlimkgjfaaGreatDoor
open Go.Ev
def Zs0 (off len:Nat):Option O→Option (List Nat)
 | some (.row sz els _)=>bif Nat.ble (off % sz+len) sz&&Nat.blt len 4294967296 then (match Zf sz els off len with
  | some l=>Oz l
  | none=>none) else none
 | _=>none
noncomputable def Zfh (h:Go.Ev.H):C→Option (List Nat)
 | .slice n off len 1=>Zs0 off len (h.get n)
 | _=>none
theorem Zas {h:Go.Ev.H} {c:C} {l:List Nat} (e:Zfh h c=some l):Holds h c l:=by
 unfold Zfh at e
 split at e
 ·rename_i n off len
  unfold Zs0 at e
  split at e
  ·rename_i sz els ro ho
   cases hb:(Nat.ble (off % sz+len) sz&&Nat.blt len 4294967296) with
   | false=>rw[hb] at e; cases e
   | true =>
    rw[hb] at e
    simp only[Bool.and_eq_true] at hb
    simp only[cond_true] at e
    split at e
    ·rename_i cs hl
     obtain⟨l1,l2⟩:=Zix hl (Nat.le_of_ble_eq_true hb.1)
     obtain⟨n1,n2⟩:=Zgn e
     have hlen:l.length=len:=by omega
     refine⟨n,off,_,by rw[hlen],ho,by rw[hlen]; simpa [Nat.blt_eq] using hb.2,fun j b hj=>?_⟩
     obtain⟨m1,m2⟩:=n2 j b hj
     refine⟨m1,?_⟩
     have hjl:j<len:=by
      rcases Nat.lt_or_ge j l.length with h1|h1
      ·omega
      ·rw[List.getElem?_eq_none h1] at hj; cases hj
     rw[Za,Z2b,cond_false,l2 j hjl,m2]
     rfl
    ·cases e
  ·cases e
 ·cases e
def Tg:List (List C)→Option (List C)
 | []=>some []
 | [c] :: l=>match Tg l with
  | some r=>some (c :: r)
  | none=>none
 | _=>none
theorem Ze6:∀ {l:List (List C)} {r:List C},Tg l=some r→l=r.map fun c=>[c]
 | [],r,h=>by cases h; rfl
 | [c] :: l,r,h=>by
  simp only[Tg] at h
  split at h
  ·rename_i r' hr
   cases h
   rw[List.map_cons,←Ze6 hr]
  ·cases h
 | [] :: _,_,h=>by simp [Tg] at h
 | (_ :: _ :: _) :: _,_,h=>by simp [Tg] at h
noncomputable def Zce (h:Go.Ev.H):List C→Option (List (List Nat))
 | []=>some []
 | c :: l=>match Zfh h c with
  | some b=>(match Zce h l with
   | some r=>some (b :: r)
   | none=>none)
  | none=>none
theorem X9 {h:Go.Ev.H}:∀ {cs:List C} {ps:List (List Nat)},Zce h cs=some ps→cs.length=ps.length∧∀ (j:Nat) (l:List Nat),ps[j]? = some l→∃ c,cs[j]? = some c∧Holds h c l
 | [],ps,e=>by
  cases e
  exact⟨rfl,fun j l hj=>by simp at hj⟩
 | c :: cs,ps,e=>by
  simp only[Zce] at e
  split at e
  ·rename_i b hb
   split at e
   ·rename_i r hr
    cases e
    obtain⟨h1,h2⟩:=X9 hr
    refine⟨by simp [h1],fun j l hj=>?_⟩
    cases j with
    | zero =>
     simp at hj
     subst hj
     exact⟨c,rfl,Zas hb⟩
    | succ j=>exact h2 j l (by simpa using hj)
   ·cases e
  ·cases e
def Di:Option O→Bool
 | some (.row 16 [l] true)=>(match Yo l [.int .u32 0,.int .u32 498536548,.int .u32 997073096,.int .u32 651767980,.int .u32 1994146192,.int .u32 1802195444,.int .u32 1303535960,.int .u32 1342533948,.int .u32 3988292384,.int .u32 4027552580,.int .u32 3604390888,.int .u32 3412177804,.int .u32 2607071920,.int .u32 2262029012,.int .u32 2685067896,.int .u32 3183342108] with
  | some true=>true
  | _=>false)
 | _=>false
theorem Qg:∀ {a b:List C},Yo a b=some true→a=b
 | [],[],_=>rfl
 | .int k x :: a,.int k' y :: b,h=>by
  simp only[Yo] at h
  split at h
  ·rename_i hk
   subst hk
   cases hxy:(x == y) with
   | false=>rw[hxy] at h; cases h
   | true =>
    rw[hxy] at h
    have:x=y:=by simpa using hxy
    rw[this,Qg h]
  ·cases h
 | [],_ :: _,h=>by simp [Yo] at h
 | .int _ _ :: _,[],h=>by simp [Yo] at h
 | .bool _ :: _,_,h=>by simp [Yo] at h
 | .str _ :: _,_,h=>by simp [Yo] at h
 | .ptr _ _ :: _,_,h=>by simp [Yo] at h
 | .pnil :: _,_,h=>by simp [Yo] at h
 | .slice _ _ _ _ :: _,_,h=>by simp [Yo] at h
 | .snil :: _,_,h=>by simp [Yo] at h
 | .map _ :: _,_,h=>by simp [Yo] at h
 | .mnil :: _,_,h=>by simp [Yo] at h
 | .fn _ _ _ :: _,_,h=>by simp [Yo] at h
 | .yield _ :: _,_,h=>by simp [Yo] at h
 | .nilFn :: _,_,h=>by simp [Yo] at h
 | .int _ _ :: _,.bool _ :: _,h=>by simp [Yo] at h
 | .int _ _ :: _,.str _ :: _,h=>by simp [Yo] at h
 | .int _ _ :: _,.ptr _ _ :: _,h=>by simp [Yo] at h
 | .int _ _ :: _,.pnil :: _,h=>by simp [Yo] at h
 | .int _ _ :: _,.slice _ _ _ _ :: _,h=>by simp [Yo] at h
 | .int _ _ :: _,.snil :: _,h=>by simp [Yo] at h
 | .int _ _ :: _,.map _ :: _,h=>by simp [Yo] at h
 | .int _ _ :: _,.mnil :: _,h=>by simp [Yo] at h
 | .int _ _ :: _,.fn _ _ _ :: _,h=>by simp [Yo] at h
 | .int _ _ :: _,.yield _ :: _,h=>by simp [Yo] at h
 | .int _ _ :: _,.nilFn :: _,h=>by simp [Yo] at h
theorem Br {o:Option O} (h:Di o=true):o=some O1:=by
 unfold Di at h
 split at h
 ·rename_i l
  split at h
  ·rename_i e
   rw[Qg e]
   rfl
  ·cases h
 ·cases h
def Z4w (h:Go.Ev.H):Option (List (List Nat))→Option (V × Go.Ev.H)
 | some ps=>bif Nat.blt ps.length 4294967296 then some (.w (.c (.int .u32 (Nat.xor 4294967295 (Zo1 ps 4294967295):Nat))),h) else none
 | none=>none
noncomputable def Z5d (h:Go.Ev.H):Option (List C)→Option (V × Go.Ev.H)
 | some cs=>Z4w h (Zce h cs)
 | none=>none
noncomputable def Z49 (h:Go.Ev.H) (len:Nat):Option O→Option (V × Go.Ev.H)
 | some (.row 1 els _)=>bif Nat.beq els.length len&&Di (h.get 0) then Z5d h (Tg els) else none
 | _=>none
noncomputable def Z2y (args:List W) (h:Go.Ev.H):Option (V × Go.Ev.H):=match args with
 | [.c (.slice n 0 len 1)]=>Z49 h len (h.get n)
 | _=>none
def zeroV (h:Go.Ev.H):Option (List Nat)→Option (V × Go.Ev.H)
 | some l=>some (.w (.c (.bool (Zgd l))),h)
 | none=>none
noncomputable def Zwb (args:List W) (h:Go.Ev.H):Option (V × Go.Ev.H):=match args with
 | [.c c]=>zeroV h (Zfh h c)
 | _=>none
section
variable (Hh:Hearts K Tryz.prog)
include Hh
theorem Z0y {args:List W} {h h':Go.Ev.H} {v:V} (e:Z2y args h=some (v,h')):Ze K Tryz.prog 165 args h v h':=by
 unfold Z2y at e
 split at e
 ·rename_i n len
  unfold Z49 at e
  split at e
  ·rename_i els ro ho
   cases hb:(Nat.beq els.length len&&Di (h.get 0)) with
   | false=>rw[hb] at e; cases e
   | true =>
    rw[hb] at e
    simp only[Bool.and_eq_true] at hb
    obtain⟨hb1,hb2⟩:=hb
    have hlen:=Nat.eq_of_beq_eq_true hb1
    simp only[cond_true] at e
    unfold Z5d at e
    split at e
    ·rename_i cs hcs
     unfold Z4w at e
     split at e
     ·rename_i ps hps
      cases hbl:Nat.blt ps.length 4294967296 with
      | false=>rw[hbl] at e; cases e
      | true =>
       rw[hbl] at e
       cases e
       obtain⟨l1,l2⟩:=X9 hps
       have he:=Ze6 hcs
       subst he
       rw[List.length_map] at hlen
       have:=Z2f Hh h n cs ro ps ho (Br hb2) l1 (by simpa [Nat.blt_eq] using hbl) l2
       rw[←l1,hlen] at this
       exact this
     ·cases e
    ·cases e
  ·cases e
 ·cases e
theorem Zxt {args:List W} {h h':Go.Ev.H} {v:V} (e:Zwb args h=some (v,h')):Ze K Tryz.prog 93 args h v h':=by
 unfold Zwb at e
 split at e
 ·rename_i c
  unfold zeroV at e
  split at e
  ·rename_i l hl
   cases e
   exact Zzq Hh h c l (Zas hl)
  ·cases e
 ·cases e
end
end Go.Proofs.YtngejdlimkgjfaaGreatDoor
