/- crc.Sum and nums.Zero, on the evaluator's level. -/
import Derived.Test.YtlbbmhgdcdcdnaaGreatDoorFine
import Derived.Test.YtlbbmhgdcdcdnaaGreatDoorEvC
set_option linter.unusedSimpArgs false
set_option linter.unusedVariables false
set_option linter.unusedSectionVars false
set_option maxRecDepth 100000
namespace Go.Proofs.YtlbbmhgdcdcdnaaGreatDoor
open Go.Ev
noncomputable def q82 (p:List Nat):Code:=piece p (bodyOf Tryz.f82)
theorem q82_:q82 []=.seq (q82 [0]) (q82 [1]):=by kernel_rfl
theorem q82_0:q82 [0]=.region 0 (opsA (q82 [0])) false:=by kernel_rfl
theorem q82_1:q82 [1]=.seq (q82 [1,0]) (q82 [1,1]):=by kernel_rfl
theorem q82_10:q82 [1,0]=.seq (q82 [1,0,0]) (q82 [1,0,1]):=by kernel_rfl
theorem q82_100:q82 [1,0,0]=.region 1 (opsA (q82 [1,0,0])) false:=by kernel_rfl
theorem q82_101:q82 [1,0,1]=.block 0 (q82 [1,0,1,2]):=by kernel_rfl
theorem q82_1012:q82 [1,0,1,2]=.loop (q82 [1,0,1,2,2]):=by kernel_rfl
theorem q82_10122:q82 [1,0,1,2,2]=.seq (q82 [1,0,1,2,2,0]) (q82 [1,0,1,2,2,1]):=by kernel_rfl
theorem q82_101220:q82 [1,0,1,2,2,0]=.region 2 (opsA (q82 [1,0,1,2,2,0])) false:=by kernel_rfl
theorem q82_101221:q82 [1,0,1,2,2,1]=.seq (q82 [1,0,1,2,2,1,0]) (q82 [1,0,1,2,2,1,1]):=by kernel_rfl
theorem q82_1012210:q82 [1,0,1,2,2,1,0]=.cond (.tmp 8) (q82 [1,0,1,2,2,1,0,3]) (q82 [1,0,1,2,2,1,0,4]):=by kernel_rfl
theorem q82_10122103:q82 [1,0,1,2,2,1,0,3]=.skip:=by kernel_rfl
theorem q82_10122104:q82 [1,0,1,2,2,1,0,4]=.exit 0:=by kernel_rfl
theorem q82_1012211:q82 [1,0,1,2,2,1,1]=.seq (q82 [1,0,1,2,2,1,1,0]) (q82 [1,0,1,2,2,1,1,1]):=by kernel_rfl
theorem q82_10122110:q82 [1,0,1,2,2,1,1,0]=.block 1 (q82 [1,0,1,2,2,1,1,0,2]):=by kernel_rfl
theorem q82_101221102:q82 [1,0,1,2,2,1,1,0,2]=.seq (q82 [1,0,1,2,2,1,1,0,2,0]) (q82 [1,0,1,2,2,1,1,0,2,1]):=by kernel_rfl
theorem q82_1012211020:q82 [1,0,1,2,2,1,1,0,2,0]=.region 3 (opsA (q82 [1,0,1,2,2,1,1,0,2,0])) false:=by kernel_rfl
theorem q82_1012211021:q82 [1,0,1,2,2,1,1,0,2,1]=.seq (q82 [1,0,1,2,2,1,1,0,2,1,0]) (q82 [1,0,1,2,2,1,1,0,2,1,1]):=by kernel_rfl
theorem q82_10122110210:q82 [1,0,1,2,2,1,1,0,2,1,0]=.region 4 (opsA (q82 [1,0,1,2,2,1,1,0,2,1,0])) false:=by kernel_rfl
theorem q82_10122110211:q82 [1,0,1,2,2,1,1,0,2,1,1]=.cond (.tmp 12) (q82 [1,0,1,2,2,1,1,0,2,1,1,3]) (q82 [1,0,1,2,2,1,1,0,2,1,1,4]):=by kernel_rfl
theorem q82_101221102113:q82 [1,0,1,2,2,1,1,0,2,1,1,3]=.seq (q82 [1,0,1,2,2,1,1,0,2,1,1,3,0]) (q82 [1,0,1,2,2,1,1,0,2,1,1,3,1]):=by kernel_rfl
theorem q82_1012211021130:q82 [1,0,1,2,2,1,1,0,2,1,1,3,0]=.region 5 (opsA (q82 [1,0,1,2,2,1,1,0,2,1,1,3,0])) false:=by kernel_rfl
theorem q82_1012211021131:q82 [1,0,1,2,2,1,1,0,2,1,1,3,1]=.ret:=by kernel_rfl
theorem q82_101221102114:q82 [1,0,1,2,2,1,1,0,2,1,1,4]=.skip:=by kernel_rfl
theorem q82_10122111:q82 [1,0,1,2,2,1,1,1]=.region 6 (opsA (q82 [1,0,1,2,2,1,1,1])) false:=by kernel_rfl
theorem q82_11:q82 [1,1]=.seq (q82 [1,1,0]) (q82 [1,1,1]):=by kernel_rfl
theorem q82_110:q82 [1,1,0]=.region 7 (opsA (q82 [1,1,0])) false:=by kernel_rfl
theorem q82_111:q82 [1,1,1]=.ret:=by kernel_rfl
noncomputable def q157 (p:List Nat):Code:=piece p (bodyOf Tryz.f157)
theorem q157_:q157 []=.seq (q157 [0]) (q157 [1]):=by kernel_rfl
theorem q157_0:q157 [0]=.region 0 (opsA (q157 [0])) false:=by kernel_rfl
theorem q157_1:q157 [1]=.seq (q157 [1,0]) (q157 [1,1]):=by kernel_rfl
theorem q157_10:q157 [1,0]=.region 1 (opsA (q157 [1,0])) false:=by kernel_rfl
theorem q157_11:q157 [1,1]=.seq (q157 [1,1,0]) (q157 [1,1,1]):=by kernel_rfl
theorem q157_110:q157 [1,1,0]=.seq (q157 [1,1,0,0]) (q157 [1,1,0,1]):=by kernel_rfl
theorem q157_1100:q157 [1,1,0,0]=.region 2 (opsA (q157 [1,1,0,0])) false:=by kernel_rfl
theorem q157_1101:q157 [1,1,0,1]=.block 0 (q157 [1,1,0,1,2]):=by kernel_rfl
theorem q157_11012:q157 [1,1,0,1,2]=.loop (q157 [1,1,0,1,2,2]):=by kernel_rfl
theorem q157_110122:q157 [1,1,0,1,2,2]=.seq (q157 [1,1,0,1,2,2,0]) (q157 [1,1,0,1,2,2,1]):=by kernel_rfl
theorem q157_1101220:q157 [1,1,0,1,2,2,0]=.region 3 (opsA (q157 [1,1,0,1,2,2,0])) false:=by kernel_rfl
theorem q157_1101221:q157 [1,1,0,1,2,2,1]=.seq (q157 [1,1,0,1,2,2,1,0]) (q157 [1,1,0,1,2,2,1,1]):=by kernel_rfl
theorem q157_11012210:q157 [1,1,0,1,2,2,1,0]=.cond (.tmp 11) (q157 [1,1,0,1,2,2,1,0,3]) (q157 [1,1,0,1,2,2,1,0,4]):=by kernel_rfl
theorem q157_110122103:q157 [1,1,0,1,2,2,1,0,3]=.skip:=by kernel_rfl
theorem q157_110122104:q157 [1,1,0,1,2,2,1,0,4]=.exit 0:=by kernel_rfl
theorem q157_11012211:q157 [1,1,0,1,2,2,1,1]=.seq (q157 [1,1,0,1,2,2,1,1,0]) (q157 [1,1,0,1,2,2,1,1,1]):=by kernel_rfl
theorem q157_110122110:q157 [1,1,0,1,2,2,1,1,0]=.block 1 (q157 [1,1,0,1,2,2,1,1,0,2]):=by kernel_rfl
theorem q157_1101221102:q157 [1,1,0,1,2,2,1,1,0,2]=.seq (q157 [1,1,0,1,2,2,1,1,0,2,0]) (q157 [1,1,0,1,2,2,1,1,0,2,1]):=by kernel_rfl
theorem q157_11012211020:q157 [1,1,0,1,2,2,1,1,0,2,0]=.region 4 (opsA (q157 [1,1,0,1,2,2,1,1,0,2,0])) false:=by kernel_rfl
theorem q157_11012211021:q157 [1,1,0,1,2,2,1,1,0,2,1]=.seq (q157 [1,1,0,1,2,2,1,1,0,2,1,0]) (q157 [1,1,0,1,2,2,1,1,0,2,1,1]):=by kernel_rfl
theorem q157_110122110210:q157 [1,1,0,1,2,2,1,1,0,2,1,0]=.region 5 (opsA (q157 [1,1,0,1,2,2,1,1,0,2,1,0])) false:=by kernel_rfl
theorem q157_110122110211:q157 [1,1,0,1,2,2,1,1,0,2,1,1]=.block 2 (q157 [1,1,0,1,2,2,1,1,0,2,1,1,2]):=by kernel_rfl
theorem q157_1101221102112:q157 [1,1,0,1,2,2,1,1,0,2,1,1,2]=.loop (q157 [1,1,0,1,2,2,1,1,0,2,1,1,2,2]):=by kernel_rfl
theorem q157_11012211021122:q157 [1,1,0,1,2,2,1,1,0,2,1,1,2,2]=.seq (q157 [1,1,0,1,2,2,1,1,0,2,1,1,2,2,0]) (q157 [1,1,0,1,2,2,1,1,0,2,1,1,2,2,1]):=by kernel_rfl
theorem q157_110122110211220:q157 [1,1,0,1,2,2,1,1,0,2,1,1,2,2,0]=.region 6 (opsA (q157 [1,1,0,1,2,2,1,1,0,2,1,1,2,2,0])) false:=by kernel_rfl
theorem q157_110122110211221:q157 [1,1,0,1,2,2,1,1,0,2,1,1,2,2,1]=.seq (q157 [1,1,0,1,2,2,1,1,0,2,1,1,2,2,1,0]) (q157 [1,1,0,1,2,2,1,1,0,2,1,1,2,2,1,1]):=by kernel_rfl
theorem q157_1101221102112210:q157 [1,1,0,1,2,2,1,1,0,2,1,1,2,2,1,0]=.cond (.tmp 17) (q157 [1,1,0,1,2,2,1,1,0,2,1,1,2,2,1,0,3]) (q157 [1,1,0,1,2,2,1,1,0,2,1,1,2,2,1,0,4]):=by kernel_rfl
theorem q157_11012211021122103:q157 [1,1,0,1,2,2,1,1,0,2,1,1,2,2,1,0,3]=.skip:=by kernel_rfl
theorem q157_11012211021122104:q157 [1,1,0,1,2,2,1,1,0,2,1,1,2,2,1,0,4]=.exit 2:=by kernel_rfl
theorem q157_1101221102112211:q157 [1,1,0,1,2,2,1,1,0,2,1,1,2,2,1,1]=.seq (q157 [1,1,0,1,2,2,1,1,0,2,1,1,2,2,1,1,0]) (q157 [1,1,0,1,2,2,1,1,0,2,1,1,2,2,1,1,1]):=by kernel_rfl
theorem q157_11012211021122110:q157 [1,1,0,1,2,2,1,1,0,2,1,1,2,2,1,1,0]=.block 3 (q157 [1,1,0,1,2,2,1,1,0,2,1,1,2,2,1,1,0,2]):=by kernel_rfl
theorem q157_110122110211221102:q157 [1,1,0,1,2,2,1,1,0,2,1,1,2,2,1,1,0,2]=.seq (q157 [1,1,0,1,2,2,1,1,0,2,1,1,2,2,1,1,0,2,0]) (q157 [1,1,0,1,2,2,1,1,0,2,1,1,2,2,1,1,0,2,1]):=by kernel_rfl
theorem q157_1101221102112211020:q157 [1,1,0,1,2,2,1,1,0,2,1,1,2,2,1,1,0,2,0]=.region 7 (opsA (q157 [1,1,0,1,2,2,1,1,0,2,1,1,2,2,1,1,0,2,0])) false:=by kernel_rfl
theorem q157_1101221102112211021:q157 [1,1,0,1,2,2,1,1,0,2,1,1,2,2,1,1,0,2,1]=.seq (q157 [1,1,0,1,2,2,1,1,0,2,1,1,2,2,1,1,0,2,1,0]) (q157 [1,1,0,1,2,2,1,1,0,2,1,1,2,2,1,1,0,2,1,1]):=by kernel_rfl
theorem q157_11012211021122110210:q157 [1,1,0,1,2,2,1,1,0,2,1,1,2,2,1,1,0,2,1,0]=.region 8 (opsA (q157 [1,1,0,1,2,2,1,1,0,2,1,1,2,2,1,1,0,2,1,0])) false:=by kernel_rfl
theorem q157_11012211021122110211:q157 [1,1,0,1,2,2,1,1,0,2,1,1,2,2,1,1,0,2,1,1]=.seq (q157 [1,1,0,1,2,2,1,1,0,2,1,1,2,2,1,1,0,2,1,1,0]) (q157 [1,1,0,1,2,2,1,1,0,2,1,1,2,2,1,1,0,2,1,1,1]):=by kernel_rfl
theorem q157_110122110211221102110:q157 [1,1,0,1,2,2,1,1,0,2,1,1,2,2,1,1,0,2,1,1,0]=.region 9 (opsA (q157 [1,1,0,1,2,2,1,1,0,2,1,1,2,2,1,1,0,2,1,1,0])) false:=by kernel_rfl
theorem q157_110122110211221102111:q157 [1,1,0,1,2,2,1,1,0,2,1,1,2,2,1,1,0,2,1,1,1]=.region 10 (opsA (q157 [1,1,0,1,2,2,1,1,0,2,1,1,2,2,1,1,0,2,1,1,1])) false:=by kernel_rfl
theorem q157_11012211021122111:q157 [1,1,0,1,2,2,1,1,0,2,1,1,2,2,1,1,1]=.region 11 (opsA (q157 [1,1,0,1,2,2,1,1,0,2,1,1,2,2,1,1,1])) false:=by kernel_rfl
theorem q157_110122111:q157 [1,1,0,1,2,2,1,1,1]=.region 12 (opsA (q157 [1,1,0,1,2,2,1,1,1])) false:=by kernel_rfl
theorem q157_111:q157 [1,1,1]=.seq (q157 [1,1,1,0]) (q157 [1,1,1,1]):=by kernel_rfl
theorem q157_1110:q157 [1,1,1,0]=.region 13 (opsA (q157 [1,1,1,0])) false:=by kernel_rfl
theorem q157_1111:q157 [1,1,1,1]=.ret:=by kernel_rfl
def stepL:List Nat:=[0,498536548,997073096,651767980,1994146192,1802195444,1303535960,1342533948,3988292384,4027552580,3604390888,3412177804,2607071920,2262029012,2685067896,3183342108]
def stepN (j:Nat):Nat:=stepL.getD j 0
def stepsO:O:=.row 16 [stepL.map fun (n:Nat)=>.int .u32 (n:Int)] true
def half (v:Nat):Nat:=Nat.xor (v / 16) (stepN (Nat.land v 15))
def crcB (v b:Nat):Nat:=half (half (Nat.xor v b))
def crcL:List Nat→Nat→Nat
 | [],v=>v
 | b :: l,v=>crcL l (crcB v b)
def crcP:List (List Nat)→Nat→Nat
 | [],v=>v
 | l :: ps,v=>crcP ps (crcL l v)
theorem stepN_lt (j:Nat):stepN j<4294967296:=by
 unfold stepN stepL
 by_cases h:j<16
 ·have:∀ j:Fin 16,([0,498536548,997073096,651767980,1994146192,1802195444,1303535960,1342533948,3988292384,4027552580,3604390888,3412177804,2607071920,2262029012,2685067896,3183342108]:List Nat).getD j.1 0<4294967296:=by decide
  exact this ⟨j,h⟩
 ·rw[List.getD_eq_getElem?_getD,List.getElem?_eq_none (by show 16≤j; omega)]
  decide
theorem step_read (j:Nat) (h:j<16):read1 16 [stepL.map fun (n:Nat)=>C.int .u32 (n:Int)] j=some (.int .u32 (stepN j:Nat)):=by
 unfold read1
 rw[Nat.div_eq_of_lt h,Nat.mod_eq_of_lt h,List.getElem?_cons_zero]
 show (stepL.map fun (n:Nat)=>C.int .u32 (n:Int))[j]? = _
 rw[List.getElem?_map,stepN]
 have:j<stepL.length:=h
 rw[List.getD_eq_getElem?_getD,List.getElem?_eq_getElem this]
 rfl
theorem half_lt {v:Nat} (h:v<4294967296):half v<4294967296:=xor_lt (by omega) (stepN_lt _)
theorem crcB_lt {v b:Nat} (h:v<4294967296) (hb:b<256):crcB v b<4294967296:=half_lt (half_lt (xor_lt h (by omega)))
theorem crcL_lt:∀ {l:List Nat} {v:Nat},v<4294967296→(∀ b∈l,b<256)→crcL l v<4294967296
 | [],_,h,_=>h
 | b :: l,v,h,hb=>crcL_lt (l:=l) (v:=crcB v b) (crcB_lt h (hb b (by simp))) fun c hc=>hb c (by simp [hc])
theorem glob0 (ts:Tmps):evalO K ts (.global 0)=some (.w (.c (.ptr 0 0))):=by
 show evalG K 0=_
 kernel_rfl
theorem shr4 {v:Nat}:opShr .u32 (v:Int) 4=some (.int .u32 ((v / 16:Nat):Int)):=by
 show some (C.int .u32 ((v:Int).fdiv 16))=_
 rw[show (v:Int).fdiv 16=((v / 16:Nat):Int) by rw[Int.fdiv_eq_ediv_of_nonneg _ (by omega)]; rfl]
theorem and15 {v:Nat} (hv:v<4294967296):opBit .u32 Nat.land (v:Int) 15=.int .u32 (Nat.land v 15:Nat):=bitU32 (b:=15) hv (by omega) (Nat.lt_of_le_of_lt (Nat.and_le_right) (by omega))
theorem land15 (v:Nat):Nat.land v 15<16:=Nat.lt_of_le_of_lt (Nat.and_le_right) (by omega)
section
variable (Hh:Hearts K Tryz.prog)
include Hh
theorem crcIn (h:Go.Ev.H) (n off len:Nat) (o:O) (ho:h.get n=some o) (hst:h.get 0=some stepsO) (hlen:len<4294967296):∀ (l:List Nat) (i v:Nat) (ts:Tmps),i+l.length=len→(∀ j (b:Nat),l[j]? = some b→b<256∧loadIn ti5 (off+(i+j)) (some o)=some (.c (.int .u8 (b:Int))))→v<4294967296→evalT ts 14=.w (.c (.slice n off len 1))→evalT ts 15=.w (.c (.int .i64 len))→evalT ts 3=.w (.c (.int .u32 v))→evalT ts 16=.w (.c (.int .i64 i)) →
  Goes K Tryz.prog 42 none (q157 [1,1,0,1,2,2,1,1,0,2,1,1,2]) [] ts h fun x ds' ts' h'=>x=.exit 2∧ds'=[]∧h'=h∧evalT ts' 3=.w (.c (.int .u32 (crcL l v)))∧evalT ts' 8=evalT ts 8∧evalT ts' 9=evalT ts 9∧evalT ts' 10=evalT ts 10:=by
 intro l
 induction l with
 | nil =>
  intro i v ts hi hl hv h14 h15 h3 h16
  have d1:decide ((i:Int)<(len:Int))=false:=decide_eq_false (by simp at hi; omega)
  show Goes K Tryz.prog 42 none (q157 [1,1,0,1,2,2,1,1,0,2,1,1,2]) _ _ _ _
  rw[q157_1101221102112]
  refine Goes.loop ?_
  show Goes K Tryz.prog 42 none (q157 [1,1,0,1,2,2,1,1,0,2,1,1,2,2]) _ _ _ _
  rw[q157_11012211021122]
  refine Goes.seq ?_
  show Goes K Tryz.prog 42 none (q157 [1,1,0,1,2,2,1,1,0,2,1,1,2,2,0]) _ _ _ _
  rw[q157_110122110211220]
  refine Goes.ops2 fits Hh E0_sound (by
   simp only[q157,piece,part0,part1,part2,part2l,part3,part4,bodyOf,Tryz.f157,opsA]
   simp (decide:=true) only [go_sem,putTH_some,H.get_put,H.get_new,loadIn,storeIn,reduceIte,Nat.reduceAdd,Nat.reduceMul,h15,h16,d1]
   rfl) ?_
  show Goes K Tryz.prog 42 none (q157 [1,1,0,1,2,2,1,1,0,2,1,1,2,2,1]) _ _ _ _
  rw[q157_110122110211221]
  refine Goes.seq ?_
  show Goes K Tryz.prog 42 none (q157 [1,1,0,1,2,2,1,1,0,2,1,1,2,2,1,0]) _ _ _ _
  rw[q157_1101221102112210]
  refine Goes.condF (by simp (decide:=true) only [evalC,evalO_tmp,asC,evalT_set,reduceIte,dec_true,dec_false,h15,h16,d1]) ?_
  show Goes K Tryz.prog 42 none (q157 [1,1,0,1,2,2,1,1,0,2,1,1,2,2,1,0,4]) _ _ _ _
  rw[q157_11012211021122104]
  refine Goes.exit ?_
  refine⟨rfl,rfl,rfl,?_,?_,?_,?_⟩<;>simp (decide:=true) only [evalT_set,reduceIte,h3,crcL]
 | cons b l ih =>
  intro i v ts hi hl hv h14 h15 h3 h16
  simp only[List.length_cons] at hi
  have d1:decide ((i:Int)<(len:Int))=true:=decide_eq_true (by omega)
  have w1:wrapC .i64 ((i:Int)+1)=.int .i64 ((i+1:Nat):Int):=by rw[wrap64 (by omega) (by omega)]; congr 1
  have b1:Nat.blt i len=true:=blt_true (by omega)
  obtain⟨hb,ld⟩:=hl 0 b rfl
  rw[Nat.add_zero] at ld
  have w2:wrapC .u32 (b:Int)=.int .u32 (b:Int):=wrapU32 (by omega)
  have x1:=xorU32 hv (show b<4294967296 by omega)
  obtain⟨u,hu⟩:∃ u,Nat.xor v b=u:=⟨_,rfl⟩
  have hu':u<4294967296:=hu ▸ xor_lt hv (by omega)
  rw[hu] at x1
  have s1:=@shr4 u
  have a1:=and15 hu'
  have b2:Nat.blt (Nat.land u 15) 16=true:=blt_true (land15 u)
  have st1:loadIn ti40 (Nat.land u 15) (some stepsO)=some (.c (.int .u32 (stepN (Nat.land u 15):Nat))):=by
   rw[stepsO,loadIn,aU32,cond_false,step_read _ (land15 u)]
   rfl
  have x2:opBit .u32 Nat.xor ((u / 16:Nat):Int) ((stepN (Nat.land u 15):Nat):Int)=.int .u32 (half u:Nat):=xorU32 (by omega) (stepN_lt _)
  obtain⟨t,ht⟩:∃ t,half u=t:=⟨_,rfl⟩
  have ht':t<4294967296:=ht ▸ half_lt hu'
  rw[ht] at x2
  have s2:=@shr4 t
  have a2:=and15 ht'
  have b3:Nat.blt (Nat.land t 15) 16=true:=blt_true (land15 t)
  have st2:loadIn ti40 (Nat.land t 15) (some stepsO)=some (.c (.int .u32 (stepN (Nat.land t 15):Nat))):=by
   rw[stepsO,loadIn,aU32,cond_false,step_read _ (land15 t)]
   rfl
  have x3:opBit .u32 Nat.xor ((t / 16:Nat):Int) ((stepN (Nat.land t 15):Nat):Int)=.int .u32 (crcB v b:Nat):=by
   rw[crcB,hu,ht]
   exact xorU32 (by omega) (stepN_lt _)
  show Goes K Tryz.prog 42 none (q157 [1,1,0,1,2,2,1,1,0,2,1,1,2]) _ _ _ _
  rw[q157_1101221102112]
  refine Goes.loop ?_
  show Goes K Tryz.prog 42 none (q157 [1,1,0,1,2,2,1,1,0,2,1,1,2,2]) _ _ _ _
  rw[q157_11012211021122]
  refine Goes.seq ?_
  show Goes K Tryz.prog 42 none (q157 [1,1,0,1,2,2,1,1,0,2,1,1,2,2,0]) _ _ _ _
  rw[q157_110122110211220]
  refine Goes.ops2 fits Hh E0_sound (by
   simp only[q157,piece,part0,part1,part2,part2l,part3,part4,bodyOf,Tryz.f157,opsA]
   simp (decide:=true) only [go_sem,putTH_some,H.get_put,H.get_new,storeIn,reduceIte,Nat.reduceAdd,Nat.reduceMul,h14,h15,h3,h16,d1,w1,w2,b1,ho,ld,x1,s1,a1,b2,hst,st1,x2,s2,a2,b3,st2,x3,tyBytes,tyByte,tyU32,dBytes,dU32,sByte,sU32,tySteps,dSteps,glob0,Nat.beq_refl,Nat.mul_one,Nat.zero_add]
   rfl) ?_
  show Goes K Tryz.prog 42 none (q157 [1,1,0,1,2,2,1,1,0,2,1,1,2,2,1]) _ _ _ _
  rw[q157_110122110211221]
  refine Goes.seq ?_
  show Goes K Tryz.prog 42 none (q157 [1,1,0,1,2,2,1,1,0,2,1,1,2,2,1,0]) _ _ _ _
  rw[q157_1101221102112210]
  refine Goes.condT (by simp (decide:=true) only [evalC,evalO_tmp,asC,evalT_set,reduceIte,dec_true,dec_false,h14,h15,h3,h16,d1,w1,w2,b1,ho,ld,x1,s1,a1,b2,hst,st1,x2,s2,a2,b3,st2,x3,tyBytes,tyByte,tyU32,dBytes,dU32,sByte,sU32,tySteps,dSteps,glob0,Nat.beq_refl,Nat.mul_one,Nat.zero_add]) ?_
  show Goes K Tryz.prog 42 none (q157 [1,1,0,1,2,2,1,1,0,2,1,1,2,2,1,0,3]) _ _ _ _
  rw[q157_11012211021122103]
  refine Goes.skip ?_
  show Goes K Tryz.prog 42 none (q157 [1,1,0,1,2,2,1,1,0,2,1,1,2,2,1,1]) _ _ _ _
  rw[q157_1101221102112211]
  refine Goes.seq ?_
  show Goes K Tryz.prog 42 none (q157 [1,1,0,1,2,2,1,1,0,2,1,1,2,2,1,1,0]) _ _ _ _
  rw[q157_11012211021122110]
  refine Goes.block ?_
  show Goes K Tryz.prog 42 none (q157 [1,1,0,1,2,2,1,1,0,2,1,1,2,2,1,1,0,2]) _ _ _ _
  rw[q157_110122110211221102]
  refine Goes.seq ?_
  show Goes K Tryz.prog 42 none (q157 [1,1,0,1,2,2,1,1,0,2,1,1,2,2,1,1,0,2,0]) _ _ _ _
  rw[q157_1101221102112211020]
  refine Goes.ops2 fits Hh E0_sound (by
   simp only[q157,piece,part0,part1,part2,part2l,part3,part4,bodyOf,Tryz.f157,opsA]
   simp (decide:=true) only [go_sem,putTH_some,H.get_put,H.get_new,storeIn,reduceIte,Nat.reduceAdd,Nat.reduceMul,h14,h15,h3,h16,d1,w1,w2,b1,ho,ld,x1,s1,a1,b2,hst,st1,x2,s2,a2,b3,st2,x3,tyBytes,tyByte,tyU32,dBytes,dU32,sByte,sU32,tySteps,dSteps,glob0,Nat.beq_refl,Nat.mul_one,Nat.zero_add]
   rfl) ?_
  show Goes K Tryz.prog 42 none (q157 [1,1,0,1,2,2,1,1,0,2,1,1,2,2,1,1,0,2,1]) _ _ _ _
  rw[q157_1101221102112211021]
  refine Goes.seq ?_
  show Goes K Tryz.prog 42 none (q157 [1,1,0,1,2,2,1,1,0,2,1,1,2,2,1,1,0,2,1,0]) _ _ _ _
  rw[q157_11012211021122110210]
  refine Goes.ops2 fits Hh E0_sound (by
   simp only[q157,piece,part0,part1,part2,part2l,part3,part4,bodyOf,Tryz.f157,opsA]
   simp (decide:=true) only [go_sem,putTH_some,H.get_put,H.get_new,storeIn,reduceIte,Nat.reduceAdd,Nat.reduceMul,h14,h15,h3,h16,d1,w1,w2,b1,ho,ld,x1,s1,a1,b2,hst,st1,x2,s2,a2,b3,st2,x3,tyBytes,tyByte,tyU32,dBytes,dU32,sByte,sU32,tySteps,dSteps,glob0,Nat.beq_refl,Nat.mul_one,Nat.zero_add]
   rfl) ?_
  show Goes K Tryz.prog 42 none (q157 [1,1,0,1,2,2,1,1,0,2,1,1,2,2,1,1,0,2,1,1]) _ _ _ _
  rw[q157_11012211021122110211]
  refine Goes.seq ?_
  show Goes K Tryz.prog 42 none (q157 [1,1,0,1,2,2,1,1,0,2,1,1,2,2,1,1,0,2,1,1,0]) _ _ _ _
  rw[q157_110122110211221102110]
  refine Goes.ops2 fits Hh E0_sound (by
   simp only[q157,piece,part0,part1,part2,part2l,part3,part4,bodyOf,Tryz.f157,opsA]
   simp (decide:=true) only [go_sem,putTH_some,H.get_put,H.get_new,storeIn,reduceIte,Nat.reduceAdd,Nat.reduceMul,h14,h15,h3,h16,d1,w1,w2,b1,ho,ld,x1,s1,a1,b2,hst,st1,x2,s2,a2,b3,st2,x3,tyBytes,tyByte,tyU32,dBytes,dU32,sByte,sU32,tySteps,dSteps,glob0,Nat.beq_refl,Nat.mul_one,Nat.zero_add]
   rfl) ?_
  show Goes K Tryz.prog 42 none (q157 [1,1,0,1,2,2,1,1,0,2,1,1,2,2,1,1,0,2,1,1,1]) _ _ _ _
  rw[q157_110122110211221102111]
  refine Goes.ops2 fits Hh E0_sound (by
   simp only[q157,piece,part0,part1,part2,part2l,part3,part4,bodyOf,Tryz.f157,opsA]
   simp (decide:=true) only [go_sem,putTH_some,H.get_put,H.get_new,storeIn,reduceIte,Nat.reduceAdd,Nat.reduceMul,h14,h15,h3,h16,d1,w1,w2,b1,ho,ld,x1,s1,a1,b2,hst,st1,x2,s2,a2,b3,st2,x3,tyBytes,tyByte,tyU32,dBytes,dU32,sByte,sU32,tySteps,dSteps,glob0,Nat.beq_refl,Nat.mul_one,Nat.zero_add]
   rfl) ?_
  show Goes K Tryz.prog 42 none (q157 [1,1,0,1,2,2,1,1,0,2,1,1,2,2,1,1,1]) _ _ _ _
  rw[q157_11012211021122111]
  refine Goes.ops2 fits Hh E0_sound (by
   simp only[q157,piece,part0,part1,part2,part2l,part3,part4,bodyOf,Tryz.f157,opsA]
   simp (decide:=true) only [go_sem,putTH_some,H.get_put,H.get_new,storeIn,reduceIte,Nat.reduceAdd,Nat.reduceMul,h14,h15,h3,h16,d1,w1,w2,b1,ho,ld,x1,s1,a1,b2,hst,st1,x2,s2,a2,b3,st2,x3,tyBytes,tyByte,tyU32,dBytes,dU32,sByte,sU32,tySteps,dSteps,glob0,Nat.beq_refl,Nat.mul_one,Nat.zero_add]
   rfl) ?_
  show Goes K Tryz.prog 42 none (.loop (q157 [1,1,0,1,2,2,1,1,0,2,1,1,2,2])) _ _ _ _
  rw[←q157_1101221102112]
  refine (ih (i+1) _ _ (by omega) (fun j c hc=>?_) (crcB_lt hv hb) ?_ ?_ ?_ ?_).mono ?_
  ·have:=hl (j+1) c (by simpa using hc)
   rwa [show i+(j+1)=i+1+j by omega] at this
  ·simp (decide:=true) only [evalT_set,reduceIte,h14]
  ·simp (decide:=true) only [evalT_set,reduceIte,h15]
  ·simp (decide:=true) only [evalT_set,reduceIte]
  ·simp (decide:=true) only [evalT_set,reduceIte]
  ·rintro x ds' ts' h' ⟨e1,e2,e3,e4,e5,e6,e7⟩
   refine⟨e1,e2,e3,e4,?_,?_,?_⟩
   ·rw[e5]; simp (decide:=true) only [evalT_set,reduceIte]
   ·rw[e6]; simp (decide:=true) only [evalT_set,reduceIte]
   ·rw[e7]; simp (decide:=true) only [evalT_set,reduceIte]
def Holds (h:Go.Ev.H) (c:C) (l:List Nat):Prop:=∃ n off o,c=.slice n off l.length 1∧h.get n=some o∧l.length<4294967296∧∀ j (b:Nat),l[j]? = some b→b<256∧loadIn ti5 (off+j) (some o)=some (.c (.int .u8 (b:Int)))
omit Hh in
theorem Holds.lt {h:Go.Ev.H} {c:C} {l:List Nat} (H:Holds h c l):∀ b∈l,b<256:=fun b hb=>by
 obtain⟨_,_,_,_,_,_,hl⟩:=H
 obtain⟨j,hj⟩:=List.getElem?_of_mem hb
 exact (hl j b hj).1
theorem crcOut (h:Go.Ev.H) (n m:Nat) (cs:List C) (ro:Bool) (ho:h.get n=some (.row 1 (cs.map fun c=>[c]) ro)) (hst:h.get 0=some stepsO) (hm:cs.length=m) (hm':m<4294967296):∀ (ps:List (List Nat)) (i v:Nat) (ts:Tmps),i+ps.length=m→(∀ (j:Nat) (l:List Nat),ps[j]? = some l→∃ c,cs[i+j]? = some c∧Holds h c l)→v<4294967296→evalT ts 8=.w (.c (.slice n 0 m 1))→evalT ts 9=.w (.c (.int .i64 m))→evalT ts 3=.w (.c (.int .u32 v))→evalT ts 10=.w (.c (.int .i64 i)) →
  Goes K Tryz.prog 42 none (q157 [1,1,0,1,2]) [] ts h fun x ds' ts' h'=>x=.exit 0∧ds'=[]∧h'=h∧evalT ts' 3=.w (.c (.int .u32 (crcP ps v)))∧crcP ps v<4294967296:=by
 intro ps
 induction ps with
 | nil =>
  intro i v ts hi hl hv h8 h9 h3 h10
  have d1:decide ((i:Int)<(m:Int))=false:=decide_eq_false (by simp at hi; omega)
  show Goes K Tryz.prog 42 none (q157 [1,1,0,1,2]) _ _ _ _
  rw[q157_11012]
  refine Goes.loop ?_
  show Goes K Tryz.prog 42 none (q157 [1,1,0,1,2,2]) _ _ _ _
  rw[q157_110122]
  refine Goes.seq ?_
  show Goes K Tryz.prog 42 none (q157 [1,1,0,1,2,2,0]) _ _ _ _
  rw[q157_1101220]
  refine Goes.ops2 fits Hh E0_sound (by
   simp only[q157,piece,part0,part1,part2,part2l,part3,part4,bodyOf,Tryz.f157,opsA]
   simp (decide:=true) only [go_sem,putTH_some,H.get_put,H.get_new,loadIn,storeIn,reduceIte,Nat.reduceAdd,Nat.reduceMul,h9,h10,d1]
   rfl) ?_
  show Goes K Tryz.prog 42 none (q157 [1,1,0,1,2,2,1]) _ _ _ _
  rw[q157_1101221]
  refine Goes.seq ?_
  show Goes K Tryz.prog 42 none (q157 [1,1,0,1,2,2,1,0]) _ _ _ _
  rw[q157_11012210]
  refine Goes.condF (by simp (decide:=true) only [evalC,evalO_tmp,asC,evalT_set,reduceIte,dec_true,dec_false,h9,h10,d1]) ?_
  show Goes K Tryz.prog 42 none (q157 [1,1,0,1,2,2,1,0,4]) _ _ _ _
  rw[q157_110122104]
  refine Goes.exit ?_
  refine⟨rfl,rfl,rfl,?_,hv⟩
  simp (decide:=true) only [evalT_set,reduceIte,h3,crcP]
 | cons l ps ih =>
  intro i v ts hi hl hv h8 h9 h3 h10
  simp only[List.length_cons] at hi
  have d1:decide ((i:Int)<(m:Int))=true:=decide_eq_true (by omega)
  have b1:Nat.blt i m=true:=blt_true (by omega)
  obtain⟨c,hc,hold⟩:=hl 0 l rfl
  have hlt:=hold.lt
  obtain⟨a,off,o,rfl,hao,hll,hby⟩:=hold
  rw[Nat.add_zero] at hc
  have rd:read1 1 (cs.map fun c=>[c]) i=some (.slice a off l.length 1):=by
   unfold read1
   rw[Nat.div_one,Nat.mod_one,List.getElem?_map,hc]
   rfl
  have fl:lenFits K 141 (.c (.slice a off l.length 1))=true:=by unfold lenFits; rw[tyBytes]; rfl
  show Goes K Tryz.prog 42 none (q157 [1,1,0,1,2]) _ _ _ _
  rw[q157_11012]
  refine Goes.loop ?_
  show Goes K Tryz.prog 42 none (q157 [1,1,0,1,2,2]) _ _ _ _
  rw[q157_110122]
  refine Goes.seq ?_
  show Goes K Tryz.prog 42 none (q157 [1,1,0,1,2,2,0]) _ _ _ _
  rw[q157_1101220]
  refine Goes.ops2 fits Hh E0_sound (by
   simp only[q157,piece,part0,part1,part2,part2l,part3,part4,bodyOf,Tryz.f157,opsA]
   simp (decide:=true) only [go_sem,putTH_some,H.get_put,H.get_new,loadIn,storeIn,reduceIte,Nat.reduceAdd,Nat.reduceMul,h8,h9,h3,h10,d1,b1,ho,rd,fl,tyPieces,dPieces,tyBytes,sBytes,aBytes,opBuiltin,opLen,cW,Nat.beq_refl,Nat.mul_one,Nat.zero_add]
   rfl) ?_
  show Goes K Tryz.prog 42 none (q157 [1,1,0,1,2,2,1]) _ _ _ _
  rw[q157_1101221]
  refine Goes.seq ?_
  show Goes K Tryz.prog 42 none (q157 [1,1,0,1,2,2,1,0]) _ _ _ _
  rw[q157_11012210]
  refine Goes.condT (by simp (decide:=true) only [evalC,evalO_tmp,asC,evalT_set,reduceIte,dec_true,dec_false,h8,h9,h3,h10,d1,b1,ho,rd,fl,tyPieces,dPieces,tyBytes,sBytes,aBytes,opBuiltin,opLen,cW,Nat.beq_refl,Nat.mul_one,Nat.zero_add]) ?_
  show Goes K Tryz.prog 42 none (q157 [1,1,0,1,2,2,1,0,3]) _ _ _ _
  rw[q157_110122103]
  refine Goes.skip ?_
  show Goes K Tryz.prog 42 none (q157 [1,1,0,1,2,2,1,1]) _ _ _ _
  rw[q157_11012211]
  refine Goes.seq ?_
  show Goes K Tryz.prog 42 none (q157 [1,1,0,1,2,2,1,1,0]) _ _ _ _
  rw[q157_110122110]
  refine Goes.block ?_
  show Goes K Tryz.prog 42 none (q157 [1,1,0,1,2,2,1,1,0,2]) _ _ _ _
  rw[q157_1101221102]
  refine Goes.seq ?_
  show Goes K Tryz.prog 42 none (q157 [1,1,0,1,2,2,1,1,0,2,0]) _ _ _ _
  rw[q157_11012211020]
  refine Goes.ops2 fits Hh E0_sound (by
   simp only[q157,piece,part0,part1,part2,part2l,part3,part4,bodyOf,Tryz.f157,opsA]
   simp (decide:=true) only [go_sem,putTH_some,H.get_put,H.get_new,loadIn,storeIn,reduceIte,Nat.reduceAdd,Nat.reduceMul,h8,h9,h3,h10,d1,b1,ho,rd,fl,tyPieces,dPieces,tyBytes,sBytes,aBytes,opBuiltin,opLen,cW,Nat.beq_refl,Nat.mul_one,Nat.zero_add]
   rfl) ?_
  show Goes K Tryz.prog 42 none (q157 [1,1,0,1,2,2,1,1,0,2,1]) _ _ _ _
  rw[q157_11012211021]
  refine Goes.seq ?_
  show Goes K Tryz.prog 42 none (q157 [1,1,0,1,2,2,1,1,0,2,1,0]) _ _ _ _
  rw[q157_110122110210]
  refine Goes.ops2 fits Hh E0_sound (by
   simp only[q157,piece,part0,part1,part2,part2l,part3,part4,bodyOf,Tryz.f157,opsA]
   simp (decide:=true) only [go_sem,putTH_some,H.get_put,H.get_new,loadIn,storeIn,reduceIte,Nat.reduceAdd,Nat.reduceMul,h8,h9,h3,h10,d1,b1,ho,rd,fl,tyPieces,dPieces,tyBytes,sBytes,aBytes,opBuiltin,opLen,cW,Nat.beq_refl,Nat.mul_one,Nat.zero_add]
   rfl) ?_
  show Goes K Tryz.prog 42 none (q157 [1,1,0,1,2,2,1,1,0,2,1,1]) _ _ _ _
  rw[q157_110122110211]
  refine Goes.block ((crcIn Hh h a off l.length o hao hst hll l 0 v _ (by omega) ?_ hv ?_ ?_ ?_ ?_).mono ?_)
  ·intro j b hb
   rw[Nat.zero_add]
   exact hby j b hb
  ·simp (decide:=true) only [evalT_set,reduceIte]
  ·simp (decide:=true) only [evalT_set,reduceIte]
  ·simp (decide:=true) only [evalT_set,reduceIte,h3]
  ·simp (decide:=true) only [evalT_set,reduceIte]<;>rfl
  rintro x ds' ts' h' ⟨rfl,rfl,rfl,e3,e8,e9,e10⟩
  have f8:evalT ts' 8=.w (.c (.slice n 0 m 1)):=by rw[e8]; simp (decide:=true) only [evalT_set,reduceIte,h8]
  have f9:evalT ts' 9=.w (.c (.int .i64 m)):=by rw[e9]; simp (decide:=true) only [evalT_set,reduceIte,h9]
  have f10:evalT ts' 10=.w (.c (.int .i64 i)):=by rw[e10]; simp (decide:=true) only [evalT_set,reduceIte,h10]
  have w1:wrapC .i64 ((i:Int)+1)=.int .i64 ((i+1:Nat):Int):=by rw[wrap64 (by omega) (by omega)]; congr 1
  show Goes K Tryz.prog 42 none (q157 [1,1,0,1,2,2,1,1,1]) _ _ _ _
  rw[q157_110122111]
  refine Goes.ops2 fits Hh E0_sound (by
   simp only[q157,piece,part0,part1,part2,part2l,part3,part4,bodyOf,Tryz.f157,opsA]
   simp (decide:=true) only [go_sem,putTH_some,H.get_put,H.get_new,loadIn,storeIn,reduceIte,Nat.reduceAdd,Nat.reduceMul,f10,w1]
   rfl) ?_
  show Goes K Tryz.prog 42 none (.loop (q157 [1,1,0,1,2,2])) _ _ _ _
  rw[←q157_11012]
  refine ih (i+1) _ _ (by omega) (fun j l' hj=>?_) (crcL_lt hv hlt) ?_ ?_ ?_ ?_
  ·have:=hl (j+1) l' (by simpa using hj)
   rwa [show i+(j+1)=i+1+j by omega] at this
  ·simp (decide:=true) only [evalT_set,reduceIte,f8]
  ·simp (decide:=true) only [evalT_set,reduceIte,f9]
  ·simp (decide:=true) only [evalT_set,reduceIte,e3]
  ·simp (decide:=true) only [evalT_set,reduceIte]
theorem crcOk (h:Go.Ev.H) (n:Nat) (cs:List C) (ro:Bool) (ps:List (List Nat)) (ho:h.get n=some (.row 1 (cs.map fun c=>[c]) ro)) (hst:h.get 0=some stepsO) (hm:cs.length=ps.length) (hm':ps.length<4294967296) (hl:∀ (j:Nat) (l:List Nat),ps[j]? = some l→∃ c,cs[j]? = some c∧Holds h c l) :
  CallOk K Tryz.prog 157 [.c (.slice n 0 ps.length 1)] h (.w (.c (.int .u32 (Nat.xor 4294967295 (crcP ps 4294967295):Nat)))) h:=by
 have e0:evalT (argTmps 0 [.c (.slice n 0 ps.length 1)] .nil) 0=.w (.c (.slice n 0 ps.length 1)):=by rw[evalT_args]; rfl
 refine CallOk.goes fits Hh (by kernel_rfl) (by kernel_rfl) (by kernel_rfl) (show Tryz.f157.body=some (q157 []) by kernel_rfl) rfl ?_
 have e1:Tryz.f157.results.toList=[.tmp 2]:=rfl
 have fl:lenFits K 268 (.c (.slice n 0 ps.length 1))=true:=by unfold lenFits; rw[tyPieces]; rfl
 show Goes K Tryz.prog 42 none _ _ _ _ _
 show Goes K Tryz.prog 42 none (q157 []) _ _ _ _
 rw[q157_]
 refine Goes.seq ?_
 show Goes K Tryz.prog 42 none (q157 [0]) _ _ _ _
 rw[q157_0]
 refine Goes.ops2 fits Hh E0_sound (by
  simp only[q157,piece,part0,part1,part2,part2l,part3,part4,bodyOf,Tryz.f157,opsA]
  simp (decide:=true) only [go_sem,putTH_some,H.get_put,H.get_new,loadIn,storeIn,reduceIte,Nat.reduceAdd,Nat.reduceMul,e0,fl,opBuiltin,opLen]
  rfl) ?_
 show Goes K Tryz.prog 42 none (q157 [1]) _ _ _ _
 rw[q157_1]
 refine Goes.seq ?_
 show Goes K Tryz.prog 42 none (q157 [1,0]) _ _ _ _
 rw[q157_10]
 refine Goes.ops2 fits Hh E0_sound (by
  simp only[q157,piece,part0,part1,part2,part2l,part3,part4,bodyOf,Tryz.f157,opsA]
  simp (decide:=true) only [go_sem,putTH_some,H.get_put,H.get_new,loadIn,storeIn,reduceIte,Nat.reduceAdd,Nat.reduceMul,e0,fl,opBuiltin,opLen]
  rfl) ?_
 show Goes K Tryz.prog 42 none (q157 [1,1]) _ _ _ _
 rw[q157_11]
 refine Goes.seq ?_
 show Goes K Tryz.prog 42 none (q157 [1,1,0]) _ _ _ _
 rw[q157_110]
 refine Goes.seq ?_
 show Goes K Tryz.prog 42 none (q157 [1,1,0,0]) _ _ _ _
 rw[q157_1100]
 refine Goes.ops2 fits Hh E0_sound (by
  simp only[q157,piece,part0,part1,part2,part2l,part3,part4,bodyOf,Tryz.f157,opsA]
  simp (decide:=true) only [go_sem,putTH_some,H.get_put,H.get_new,loadIn,storeIn,reduceIte,Nat.reduceAdd,Nat.reduceMul,e0,fl,opBuiltin,opLen]
  rfl) ?_
 show Goes K Tryz.prog 42 none (q157 [1,1,0,1]) _ _ _ _
 rw[q157_1101]
 refine Goes.block ?_
 show Goes K Tryz.prog 42 none (q157 [1,1,0,1,2]) _ _ _ _
 refine (crcOut Hh h n ps.length cs ro ho hst hm hm' ps 0 4294967295 _ (by omega) ?_ (by omega) ?_ ?_ ?_ ?_).mono ?_
 ·intro j l hj
  rw[Nat.zero_add]
  exact hl j l hj
 ·simp (decide:=true) only [evalT_set,reduceIte]
 ·simp (decide:=true) only [evalT_set,reduceIte]
 ·simp (decide:=true) only [evalT_set,reduceIte]<;>rfl
 ·simp (decide:=true) only [evalT_set,reduceIte]<;>rfl
 rintro x ds' ts' h' ⟨rfl,rfl,rfl,e3,hlt⟩
 have x1:opBit .u32 Nat.xor IntKind.u32.max (crcP ps 4294967295:Nat)=.int .u32 (Nat.xor 4294967295 (crcP ps 4294967295):Nat):=xorU32 (a:=4294967295) (by omega) hlt
 show Goes K Tryz.prog 42 none (q157 [1,1,1]) _ _ _ _
 rw[q157_111]
 refine Goes.seq ?_
 show Goes K Tryz.prog 42 none (q157 [1,1,1,0]) _ _ _ _
 rw[q157_1110]
 refine Goes.ops2 fits Hh E0_sound (by
  simp only[q157,piece,part0,part1,part2,part2l,part3,part4,bodyOf,Tryz.f157,opsA]
  simp (decide:=true) only [go_sem,putTH_some,H.get_put,H.get_new,loadIn,storeIn,reduceIte,Nat.reduceAdd,Nat.reduceMul,e3,x1]
  rfl) ?_
 show Goes K Tryz.prog 42 none (q157 [1,1,1,1]) _ _ _ _
 rw[q157_1111]
 refine Goes.ret ?_
 simp (decide:=true) only [leave_ret,takeMarks,finish,e1,resultsOf,evalW,evalO_tmp,asW,evalT_set,reduceIte,resultOf]
def zeroN:List Nat→Bool
 | []=>true
 | b :: l=>bif Nat.beq b 0 then zeroN l else false
theorem zero0 (h:Go.Ev.H) (n off len:Nat) (o:O) (ho:h.get n=some o) (hlen:len<4294967296):∀ (l:List Nat) (i:Nat) (ts:Tmps),i+l.length=len→(∀ j (b:Nat),l[j]? = some b→b<256∧loadIn ti5 (off+(i+j)) (some o)=some (.c (.int .u8 (b:Int))))→evalT ts 5=.w (.c (.slice n off len 1))→evalT ts 6=.w (.c (.int .i64 len))→evalT ts 7=.w (.c (.int .i64 i)) →
  Goes K Tryz.prog 14 none (q82 [1,0,1,2]) [] ts h fun x ds' ts' h'=>ds'=[]∧h'=h∧(zeroN l=true∧x=.exit 0∨zeroN l=false∧x=.ret∧evalT ts' 2=.w (.c (.bool false))):=by
 intro l
 induction l with
 | nil =>
  intro i ts hi hl h5 h6 h7
  have d1:decide ((i:Int)<(len:Int))=false:=decide_eq_false (by simp at hi; omega)
  show Goes K Tryz.prog 14 none (q82 [1,0,1,2]) _ _ _ _
  rw[q82_1012]
  refine Goes.loop ?_
  show Goes K Tryz.prog 14 none (q82 [1,0,1,2,2]) _ _ _ _
  rw[q82_10122]
  refine Goes.seq ?_
  show Goes K Tryz.prog 14 none (q82 [1,0,1,2,2,0]) _ _ _ _
  rw[q82_101220]
  refine Goes.ops2 fits Hh E0_sound (by
   simp only[q82,piece,part0,part1,part2,part2l,part3,part4,bodyOf,Tryz.f82,opsA]
   simp (decide:=true) only [go_sem,putTH_some,H.get_put,H.get_new,loadIn,storeIn,reduceIte,Nat.reduceAdd,Nat.reduceMul,h6,h7,d1]
   rfl) ?_
  show Goes K Tryz.prog 14 none (q82 [1,0,1,2,2,1]) _ _ _ _
  rw[q82_101221]
  refine Goes.seq ?_
  show Goes K Tryz.prog 14 none (q82 [1,0,1,2,2,1,0]) _ _ _ _
  rw[q82_1012210]
  refine Goes.condF (by simp (decide:=true) only [evalC,evalO_tmp,asC,evalT_set,reduceIte,dec_true,dec_false,h6,h7,d1]) ?_
  show Goes K Tryz.prog 14 none (q82 [1,0,1,2,2,1,0,4]) _ _ _ _
  rw[q82_10122104]
  refine Goes.exit ?_
  exact⟨rfl,rfl,.inl ⟨rfl,rfl⟩⟩
 | cons b l ih =>
  intro i ts hi hl h5 h6 h7
  simp only[List.length_cons] at hi
  have d1:decide ((i:Int)<(len:Int))=true:=decide_eq_true (by omega)
  have w1:wrapC .i64 ((i:Int)+1)=.int .i64 ((i+1:Nat):Int):=by rw[wrap64 (by omega) (by omega)]; congr 1
  have b1:Nat.blt i len=true:=blt_true (by omega)
  obtain⟨hb,ld⟩:=hl 0 b rfl
  rw[Nat.add_zero] at ld
  by_cases b0:b=0
  ·subst b0
   have z:(((0:Nat):Int) != 0)=false:=rfl
   show Goes K Tryz.prog 14 none (q82 [1,0,1,2]) _ _ _ _
   rw[q82_1012]
   refine Goes.loop ?_
   show Goes K Tryz.prog 14 none (q82 [1,0,1,2,2]) _ _ _ _
   rw[q82_10122]
   refine Goes.seq ?_
   show Goes K Tryz.prog 14 none (q82 [1,0,1,2,2,0]) _ _ _ _
   rw[q82_101220]
   refine Goes.ops2 fits Hh E0_sound (by
    simp only[q82,piece,part0,part1,part2,part2l,part3,part4,bodyOf,Tryz.f82,opsA]
    simp (decide:=true) only [go_sem,putTH_some,H.get_put,H.get_new,storeIn,reduceIte,Nat.reduceAdd,Nat.reduceMul,h5,h6,h7,d1,w1,b1,ho,ld,z,tyBytes,tyByte,dBytes,sByte,Nat.beq_refl,Nat.mul_one]
    rfl) ?_
   show Goes K Tryz.prog 14 none (q82 [1,0,1,2,2,1]) _ _ _ _
   rw[q82_101221]
   refine Goes.seq ?_
   show Goes K Tryz.prog 14 none (q82 [1,0,1,2,2,1,0]) _ _ _ _
   rw[q82_1012210]
   refine Goes.condT (by simp (decide:=true) only [evalC,evalO_tmp,asC,evalT_set,reduceIte,dec_true,dec_false,h5,h6,h7,d1,w1,b1,ho,ld,z,tyBytes,tyByte,dBytes,sByte,Nat.beq_refl,Nat.mul_one]) ?_
   show Goes K Tryz.prog 14 none (q82 [1,0,1,2,2,1,0,3]) _ _ _ _
   rw[q82_10122103]
   refine Goes.skip ?_
   show Goes K Tryz.prog 14 none (q82 [1,0,1,2,2,1,1]) _ _ _ _
   rw[q82_1012211]
   refine Goes.seq ?_
   show Goes K Tryz.prog 14 none (q82 [1,0,1,2,2,1,1,0]) _ _ _ _
   rw[q82_10122110]
   refine Goes.block ?_
   show Goes K Tryz.prog 14 none (q82 [1,0,1,2,2,1,1,0,2]) _ _ _ _
   rw[q82_101221102]
   refine Goes.seq ?_
   show Goes K Tryz.prog 14 none (q82 [1,0,1,2,2,1,1,0,2,0]) _ _ _ _
   rw[q82_1012211020]
   refine Goes.ops2 fits Hh E0_sound (by
    simp only[q82,piece,part0,part1,part2,part2l,part3,part4,bodyOf,Tryz.f82,opsA]
    simp (decide:=true) only [go_sem,putTH_some,H.get_put,H.get_new,storeIn,reduceIte,Nat.reduceAdd,Nat.reduceMul,h5,h6,h7,d1,w1,b1,ho,ld,z,tyBytes,tyByte,dBytes,sByte,Nat.beq_refl,Nat.mul_one]
    rfl) ?_
   show Goes K Tryz.prog 14 none (q82 [1,0,1,2,2,1,1,0,2,1]) _ _ _ _
   rw[q82_1012211021]
   refine Goes.seq ?_
   show Goes K Tryz.prog 14 none (q82 [1,0,1,2,2,1,1,0,2,1,0]) _ _ _ _
   rw[q82_10122110210]
   refine Goes.ops2 fits Hh E0_sound (by
    simp only[q82,piece,part0,part1,part2,part2l,part3,part4,bodyOf,Tryz.f82,opsA]
    simp (decide:=true) only [go_sem,putTH_some,H.get_put,H.get_new,storeIn,reduceIte,Nat.reduceAdd,Nat.reduceMul,h5,h6,h7,d1,w1,b1,ho,ld,z,tyBytes,tyByte,dBytes,sByte,Nat.beq_refl,Nat.mul_one]
    rfl) ?_
   show Goes K Tryz.prog 14 none (q82 [1,0,1,2,2,1,1,0,2,1,1]) _ _ _ _
   rw[q82_10122110211]
   refine Goes.condF (by simp (decide:=true) only [evalC,evalO_tmp,asC,evalT_set,reduceIte,dec_true,dec_false,h5,h6,h7,d1,w1,b1,ho,ld,z,tyBytes,tyByte,dBytes,sByte,Nat.beq_refl,Nat.mul_one]) ?_
   show Goes K Tryz.prog 14 none (q82 [1,0,1,2,2,1,1,0,2,1,1,4]) _ _ _ _
   rw[q82_101221102114]
   refine Goes.skip ?_
   show Goes K Tryz.prog 14 none (q82 [1,0,1,2,2,1,1,1]) _ _ _ _
   rw[q82_10122111]
   refine Goes.ops2 fits Hh E0_sound (by
    simp only[q82,piece,part0,part1,part2,part2l,part3,part4,bodyOf,Tryz.f82,opsA]
    simp (decide:=true) only [go_sem,putTH_some,H.get_put,H.get_new,storeIn,reduceIte,Nat.reduceAdd,Nat.reduceMul,h5,h6,h7,d1,w1,b1,ho,ld,z,tyBytes,tyByte,dBytes,sByte,Nat.beq_refl,Nat.mul_one]
    rfl) ?_
   show Goes K Tryz.prog 14 none (.loop (q82 [1,0,1,2,2])) _ _ _ _
   rw[←q82_1012]
   refine ih (i+1) _ (by omega) (fun j c hc=>?_) ?_ ?_ ?_
   ·have:=hl (j+1) c (by simpa using hc)
    rwa [show i+(j+1)=i+1+j by omega] at this
   ·simp (decide:=true) only [evalT_set,reduceIte,h5]
   ·simp (decide:=true) only [evalT_set,reduceIte,h6]
   ·simp (decide:=true) only [evalT_set,reduceIte]
  ·have z:((b:Int) != 0)=true:=by simpa using b0
   show Goes K Tryz.prog 14 none (q82 [1,0,1,2]) _ _ _ _
   rw[q82_1012]
   refine Goes.loop ?_
   show Goes K Tryz.prog 14 none (q82 [1,0,1,2,2]) _ _ _ _
   rw[q82_10122]
   refine Goes.seq ?_
   show Goes K Tryz.prog 14 none (q82 [1,0,1,2,2,0]) _ _ _ _
   rw[q82_101220]
   refine Goes.ops2 fits Hh E0_sound (by
    simp only[q82,piece,part0,part1,part2,part2l,part3,part4,bodyOf,Tryz.f82,opsA]
    simp (decide:=true) only [go_sem,putTH_some,H.get_put,H.get_new,storeIn,reduceIte,Nat.reduceAdd,Nat.reduceMul,h5,h6,h7,d1,w1,b1,ho,ld,z,tyBytes,tyByte,dBytes,sByte,Nat.beq_refl,Nat.mul_one]
    rfl) ?_
   show Goes K Tryz.prog 14 none (q82 [1,0,1,2,2,1]) _ _ _ _
   rw[q82_101221]
   refine Goes.seq ?_
   show Goes K Tryz.prog 14 none (q82 [1,0,1,2,2,1,0]) _ _ _ _
   rw[q82_1012210]
   refine Goes.condT (by simp (decide:=true) only [evalC,evalO_tmp,asC,evalT_set,reduceIte,dec_true,dec_false,h5,h6,h7,d1,w1,b1,ho,ld,z,tyBytes,tyByte,dBytes,sByte,Nat.beq_refl,Nat.mul_one]) ?_
   show Goes K Tryz.prog 14 none (q82 [1,0,1,2,2,1,0,3]) _ _ _ _
   rw[q82_10122103]
   refine Goes.skip ?_
   show Goes K Tryz.prog 14 none (q82 [1,0,1,2,2,1,1]) _ _ _ _
   rw[q82_1012211]
   refine Goes.seq ?_
   show Goes K Tryz.prog 14 none (q82 [1,0,1,2,2,1,1,0]) _ _ _ _
   rw[q82_10122110]
   refine Goes.block ?_
   show Goes K Tryz.prog 14 none (q82 [1,0,1,2,2,1,1,0,2]) _ _ _ _
   rw[q82_101221102]
   refine Goes.seq ?_
   show Goes K Tryz.prog 14 none (q82 [1,0,1,2,2,1,1,0,2,0]) _ _ _ _
   rw[q82_1012211020]
   refine Goes.ops2 fits Hh E0_sound (by
    simp only[q82,piece,part0,part1,part2,part2l,part3,part4,bodyOf,Tryz.f82,opsA]
    simp (decide:=true) only [go_sem,putTH_some,H.get_put,H.get_new,storeIn,reduceIte,Nat.reduceAdd,Nat.reduceMul,h5,h6,h7,d1,w1,b1,ho,ld,z,tyBytes,tyByte,dBytes,sByte,Nat.beq_refl,Nat.mul_one]
    rfl) ?_
   show Goes K Tryz.prog 14 none (q82 [1,0,1,2,2,1,1,0,2,1]) _ _ _ _
   rw[q82_1012211021]
   refine Goes.seq ?_
   show Goes K Tryz.prog 14 none (q82 [1,0,1,2,2,1,1,0,2,1,0]) _ _ _ _
   rw[q82_10122110210]
   refine Goes.ops2 fits Hh E0_sound (by
    simp only[q82,piece,part0,part1,part2,part2l,part3,part4,bodyOf,Tryz.f82,opsA]
    simp (decide:=true) only [go_sem,putTH_some,H.get_put,H.get_new,storeIn,reduceIte,Nat.reduceAdd,Nat.reduceMul,h5,h6,h7,d1,w1,b1,ho,ld,z,tyBytes,tyByte,dBytes,sByte,Nat.beq_refl,Nat.mul_one]
    rfl) ?_
   show Goes K Tryz.prog 14 none (q82 [1,0,1,2,2,1,1,0,2,1,1]) _ _ _ _
   rw[q82_10122110211]
   refine Goes.condT (by simp (decide:=true) only [evalC,evalO_tmp,asC,evalT_set,reduceIte,dec_true,dec_false,h5,h6,h7,d1,w1,b1,ho,ld,z,tyBytes,tyByte,dBytes,sByte,Nat.beq_refl,Nat.mul_one]) ?_
   show Goes K Tryz.prog 14 none (q82 [1,0,1,2,2,1,1,0,2,1,1,3]) _ _ _ _
   rw[q82_101221102113]
   refine Goes.seq ?_
   show Goes K Tryz.prog 14 none (q82 [1,0,1,2,2,1,1,0,2,1,1,3,0]) _ _ _ _
   rw[q82_1012211021130]
   refine Goes.ops2 fits Hh E0_sound (by
    simp only[q82,piece,part0,part1,part2,part2l,part3,part4,bodyOf,Tryz.f82,opsA]
    simp (decide:=true) only [go_sem,putTH_some,H.get_put,H.get_new,storeIn,reduceIte,Nat.reduceAdd,Nat.reduceMul,h5,h6,h7,d1,w1,b1,ho,ld,z,tyBytes,tyByte,dBytes,sByte,Nat.beq_refl,Nat.mul_one]
    rfl) ?_
   show Goes K Tryz.prog 14 none (q82 [1,0,1,2,2,1,1,0,2,1,1,3,1]) _ _ _ _
   rw[q82_1012211021131]
   refine Goes.ret ?_
   refine⟨rfl,rfl,.inr ⟨?_,rfl,?_⟩⟩
   ·have:Nat.beq b 0=false:=by
     cases e:Nat.beq b 0 with
     | false=>rfl
     | true=>exact absurd (Nat.eq_of_beq_eq_true e) b0
    simp only[zeroN,this,cond_false]
   ·simp (decide:=true) only [evalT_set,reduceIte]
theorem zeroOk (h:Go.Ev.H) (c:C) (l:List Nat) (hold:Holds h c l):CallOk K Tryz.prog 82 [.c c] h (.w (.c (.bool (zeroN l)))) h:=by
 obtain⟨n,off,o,rfl,ho,hlen,hl⟩:=hold
 have e0:evalT (argTmps 0 [.c (.slice n off l.length 1)] .nil) 0=.w (.c (.slice n off l.length 1)):=by rw[evalT_args]; rfl
 refine CallOk.goes fits Hh (by kernel_rfl) (by kernel_rfl) (by kernel_rfl) (show Tryz.f82.body=some (q82 []) by kernel_rfl) rfl ?_
 have e1:Tryz.f82.results.toList=[.tmp 2]:=rfl
 have fl:lenFits K 141 (.c (.slice n off l.length 1))=true:=by unfold lenFits; rw[tyBytes]; rfl
 show Goes K Tryz.prog 14 none _ _ _ _ _
 show Goes K Tryz.prog 14 none (q82 []) _ _ _ _
 rw[q82_]
 refine Goes.seq ?_
 show Goes K Tryz.prog 14 none (q82 [0]) _ _ _ _
 rw[q82_0]
 refine Goes.ops2 fits Hh E0_sound (by
  simp only[q82,piece,part0,part1,part2,part2l,part3,part4,bodyOf,Tryz.f82,opsA]
  simp (decide:=true) only [go_sem,putTH_some,H.get_put,H.get_new,loadIn,storeIn,reduceIte,Nat.reduceAdd,Nat.reduceMul,e0,fl,opBuiltin,opLen]
  rfl) ?_
 show Goes K Tryz.prog 14 none (q82 [1]) _ _ _ _
 rw[q82_1]
 refine Goes.seq ?_
 show Goes K Tryz.prog 14 none (q82 [1,0]) _ _ _ _
 rw[q82_10]
 refine Goes.seq ?_
 show Goes K Tryz.prog 14 none (q82 [1,0,0]) _ _ _ _
 rw[q82_100]
 refine Goes.ops2 fits Hh E0_sound (by
  simp only[q82,piece,part0,part1,part2,part2l,part3,part4,bodyOf,Tryz.f82,opsA]
  simp (decide:=true) only [go_sem,putTH_some,H.get_put,H.get_new,loadIn,storeIn,reduceIte,Nat.reduceAdd,Nat.reduceMul,e0,fl,opBuiltin,opLen]
  rfl) ?_
 show Goes K Tryz.prog 14 none (q82 [1,0,1]) _ _ _ _
 rw[q82_101]
 refine Goes.block ?_
 show Goes K Tryz.prog 14 none (q82 [1,0,1,2]) _ _ _ _
 refine (zero0 Hh h n off l.length o ho hlen l 0 _ (by omega) ?_ ?_ ?_ ?_).mono ?_
 ·intro j b hb
  rw[Nat.zero_add]
  exact hl j b hb
 ·simp (decide:=true) only [evalT_set,reduceIte]
 ·simp (decide:=true) only [evalT_set,reduceIte]
 ·simp (decide:=true) only [evalT_set,reduceIte]<;>rfl
 rintro x ds' ts' h' ⟨rfl,rfl,⟨hz,rfl⟩|⟨hz,rfl,h2⟩⟩
 ·rw[hz]
  show Goes K Tryz.prog 14 none (q82 [1,1]) _ _ _ _
  rw[q82_11]
  refine Goes.seq ?_
  show Goes K Tryz.prog 14 none (q82 [1,1,0]) _ _ _ _
  rw[q82_110]
  refine Goes.ops2 fits Hh E0_sound (by
   simp only[q82,piece,part0,part1,part2,part2l,part3,part4,bodyOf,Tryz.f82,opsA]
   simp (decide:=true) only [go_sem,putTH_some,H.get_put,H.get_new,loadIn,storeIn,reduceIte,Nat.reduceAdd,Nat.reduceMul]
   rfl) ?_
  show Goes K Tryz.prog 14 none (q82 [1,1,1]) _ _ _ _
  rw[q82_111]
  refine Goes.ret ?_
  simp (decide:=true) only [leave_ret,takeMarks,finish,e1,resultsOf,evalW,evalO_tmp,asW,evalT_set,reduceIte,resultOf]
 ·rw[hz]
  show leave K Tryz.f82 (some (.at .ret [] ts' h'))=_
  simp (decide:=true) only [leave_ret,takeMarks,finish,e1,resultsOf,evalW,evalO_tmp,asW,h2,resultOf]
end
end Go.Proofs.YtlbbmhgdcdcdnaaGreatDoor
set_option maxRecDepth 100000
namespace Go.Proofs.YtlbbmhgdcdcdnaaGreatDoor
open Go.Ev
def bytesIn (off len:Nat):Option O→Option (List Nat)
 | some (.row sz els _)=>bif Nat.ble (off % sz+len) sz&&Nat.blt len 4294967296 then (match readRow sz els off len with
  | some l=>natsOf l
  | none=>none) else none
 | _=>none
noncomputable def bytesAt (h:Go.Ev.H):C→Option (List Nat)
 | .slice n off len 1=>bytesIn off len (h.get n)
 | _=>none
theorem bytesAt_holds {h:Go.Ev.H} {c:C} {l:List Nat} (e:bytesAt h c=some l):Holds h c l:=by
 unfold bytesAt at e
 split at e
 ·rename_i n off len
  unfold bytesIn at e
  split at e
  ·rename_i sz els ro ho
   cases hb:(Nat.ble (off % sz+len) sz&&Nat.blt len 4294967296) with
   | false=>rw[hb] at e; cases e
   | true =>
    rw[hb] at e
    simp only[Bool.and_eq_true] at hb
    simp only[cond_true] at e
    split at e
    ·rename_i cs hl
     obtain⟨l1,l2⟩:=readRow_read1 hl (Nat.le_of_ble_eq_true hb.1)
     obtain⟨n1,n2⟩:=natsOf_get e
     have hlen:l.length=len:=by omega
     refine⟨n,off,_,by rw[hlen],ho,by rw[hlen]; simpa [Nat.blt_eq] using hb.2,fun j b hj=>?_⟩
     obtain⟨m1,m2⟩:=n2 j b hj
     refine⟨m1,?_⟩
     have hjl:j<len:=by
      rcases Nat.lt_or_ge j l.length with h1|h1
      ·omega
      ·rw[List.getElem?_eq_none h1] at hj; cases hj
     rw[loadIn,aByte,cond_false,l2 j hjl,m2]
     rfl
    ·cases e
  ·cases e
 ·cases e
def cellsOne:List (List C)→Option (List C)
 | []=>some []
 | [c] :: l=>match cellsOne l with
  | some r=>some (c :: r)
  | none=>none
 | _=>none
theorem cellsOne_eq:∀ {l:List (List C)} {r:List C},cellsOne l=some r→l=r.map fun c=>[c]
 | [],r,h=>by cases h; rfl
 | [c] :: l,r,h=>by
  simp only[cellsOne] at h
  split at h
  ·rename_i r' hr
   cases h
   rw[List.map_cons,←cellsOne_eq hr]
  ·cases h
 | [] :: _,_,h=>by simp [cellsOne] at h
 | (_ :: _ :: _) :: _,_,h=>by simp [cellsOne] at h
noncomputable def piecesAt (h:Go.Ev.H):List C→Option (List (List Nat))
 | []=>some []
 | c :: l=>match bytesAt h c with
  | some b=>(match piecesAt h l with
   | some r=>some (b :: r)
   | none=>none)
  | none=>none
theorem piecesAt_holds {h:Go.Ev.H}:∀ {cs:List C} {ps:List (List Nat)},piecesAt h cs=some ps→cs.length=ps.length∧∀ (j:Nat) (l:List Nat),ps[j]? = some l→∃ c,cs[j]? = some c∧Holds h c l
 | [],ps,e=>by
  cases e
  exact⟨rfl,fun j l hj=>by simp at hj⟩
 | c :: cs,ps,e=>by
  simp only[piecesAt] at e
  split at e
  ·rename_i b hb
   split at e
   ·rename_i r hr
    cases e
    obtain⟨h1,h2⟩:=piecesAt_holds hr
    refine⟨by simp [h1],fun j l hj=>?_⟩
    cases j with
    | zero =>
     simp at hj
     subst hj
     exact⟨c,rfl,bytesAt_holds hb⟩
    | succ j=>exact h2 j l (by simpa using hj)
   ·cases e
  ·cases e
def isSteps:Option O→Bool
 | some (.row 16 [l] true)=>(match eqInts l [.int .u32 0,.int .u32 498536548,.int .u32 997073096,.int .u32 651767980,.int .u32 1994146192,.int .u32 1802195444,.int .u32 1303535960,.int .u32 1342533948,.int .u32 3988292384,.int .u32 4027552580,.int .u32 3604390888,.int .u32 3412177804,.int .u32 2607071920,.int .u32 2262029012,.int .u32 2685067896,.int .u32 3183342108] with
  | some true=>true
  | _=>false)
 | _=>false
theorem eqInts_eq:∀ {a b:List C},eqInts a b=some true→a=b
 | [],[],_=>rfl
 | .int k x :: a,.int k' y :: b,h=>by
  simp only[eqInts] at h
  split at h
  ·rename_i hk
   subst hk
   cases hxy:(x == y) with
   | false=>rw[hxy] at h; cases h
   | true =>
    rw[hxy] at h
    have:x=y:=by simpa using hxy
    rw[this,eqInts_eq h]
  ·cases h
 | [],_ :: _,h=>by simp [eqInts] at h
 | .int _ _ :: _,[],h=>by simp [eqInts] at h
 | .bool _ :: _,_,h=>by simp [eqInts] at h
 | .str _ :: _,_,h=>by simp [eqInts] at h
 | .ptr _ _ :: _,_,h=>by simp [eqInts] at h
 | .pnil :: _,_,h=>by simp [eqInts] at h
 | .slice _ _ _ _ :: _,_,h=>by simp [eqInts] at h
 | .snil :: _,_,h=>by simp [eqInts] at h
 | .map _ :: _,_,h=>by simp [eqInts] at h
 | .mnil :: _,_,h=>by simp [eqInts] at h
 | .fn _ _ _ :: _,_,h=>by simp [eqInts] at h
 | .yield _ :: _,_,h=>by simp [eqInts] at h
 | .nilFn :: _,_,h=>by simp [eqInts] at h
 | .int _ _ :: _,.bool _ :: _,h=>by simp [eqInts] at h
 | .int _ _ :: _,.str _ :: _,h=>by simp [eqInts] at h
 | .int _ _ :: _,.ptr _ _ :: _,h=>by simp [eqInts] at h
 | .int _ _ :: _,.pnil :: _,h=>by simp [eqInts] at h
 | .int _ _ :: _,.slice _ _ _ _ :: _,h=>by simp [eqInts] at h
 | .int _ _ :: _,.snil :: _,h=>by simp [eqInts] at h
 | .int _ _ :: _,.map _ :: _,h=>by simp [eqInts] at h
 | .int _ _ :: _,.mnil :: _,h=>by simp [eqInts] at h
 | .int _ _ :: _,.fn _ _ _ :: _,h=>by simp [eqInts] at h
 | .int _ _ :: _,.yield _ :: _,h=>by simp [eqInts] at h
 | .int _ _ :: _,.nilFn :: _,h=>by simp [eqInts] at h
theorem isSteps_eq {o:Option O} (h:isSteps o=true):o=some stepsO:=by
 unfold isSteps at h
 split at h
 ·rename_i l
  split at h
  ·rename_i e
   rw[eqInts_eq e]
   rfl
  ·cases h
 ·cases h
def crcV (h:Go.Ev.H):Option (List (List Nat))→Option (V × Go.Ev.H)
 | some ps=>bif Nat.blt ps.length 4294967296 then some (.w (.c (.int .u32 (Nat.xor 4294967295 (crcP ps 4294967295):Nat))),h) else none
 | none=>none
noncomputable def crcC (h:Go.Ev.H):Option (List C)→Option (V × Go.Ev.H)
 | some cs=>crcV h (piecesAt h cs)
 | none=>none
noncomputable def crcR (h:Go.Ev.H) (len:Nat):Option O→Option (V × Go.Ev.H)
 | some (.row 1 els _)=>bif Nat.beq els.length len&&isSteps (h.get 0) then crcC h (cellsOne els) else none
 | _=>none
noncomputable def xCrc (args:List W) (h:Go.Ev.H):Option (V × Go.Ev.H):=match args with
 | [.c (.slice n 0 len 1)]=>crcR h len (h.get n)
 | _=>none
def zeroV (h:Go.Ev.H):Option (List Nat)→Option (V × Go.Ev.H)
 | some l=>some (.w (.c (.bool (zeroN l))),h)
 | none=>none
noncomputable def xZero (args:List W) (h:Go.Ev.H):Option (V × Go.Ev.H):=match args with
 | [.c c]=>zeroV h (bytesAt h c)
 | _=>none
section
variable (Hh:Hearts K Tryz.prog)
include Hh
theorem xCrc_ok {args:List W} {h h':Go.Ev.H} {v:V} (e:xCrc args h=some (v,h')):CallOk K Tryz.prog 157 args h v h':=by
 unfold xCrc at e
 split at e
 ·rename_i n len
  unfold crcR at e
  split at e
  ·rename_i els ro ho
   cases hb:(Nat.beq els.length len&&isSteps (h.get 0)) with
   | false=>rw[hb] at e; cases e
   | true =>
    rw[hb] at e
    simp only[Bool.and_eq_true] at hb
    obtain⟨hb1,hb2⟩:=hb
    have hlen:=Nat.eq_of_beq_eq_true hb1
    simp only[cond_true] at e
    unfold crcC at e
    split at e
    ·rename_i cs hcs
     unfold crcV at e
     split at e
     ·rename_i ps hps
      cases hbl:Nat.blt ps.length 4294967296 with
      | false=>rw[hbl] at e; cases e
      | true =>
       rw[hbl] at e
       cases e
       obtain⟨l1,l2⟩:=piecesAt_holds hps
       have he:=cellsOne_eq hcs
       subst he
       rw[List.length_map] at hlen
       have:=crcOk Hh h n cs ro ps ho (isSteps_eq hb2) l1 (by simpa [Nat.blt_eq] using hbl) l2
       rw[←l1,hlen] at this
       exact this
     ·cases e
    ·cases e
  ·cases e
 ·cases e
theorem xZero_ok {args:List W} {h h':Go.Ev.H} {v:V} (e:xZero args h=some (v,h')):CallOk K Tryz.prog 82 args h v h':=by
 unfold xZero at e
 split at e
 ·rename_i c
  unfold zeroV at e
  split at e
  ·rename_i l hl
   cases e
   exact zeroOk Hh h c l (bytesAt_holds hl)
  ·cases e
 ·cases e
end
end Go.Proofs.YtlbbmhgdcdcdnaaGreatDoor
