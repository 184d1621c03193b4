/- bits.Set, on the evaluator's level: a block as 2048 bits. -/
import Derived.Test.YtlbbmhgdcdcdnaaGreatDoorFine
import Derived.Test.YtlbbmhgdcdcdnaaGreatDoorEvC
set_option linter.unusedSimpArgs false
set_option linter.unusedVariables false
set_option linter.unusedSectionVars false
set_option maxRecDepth 100000
namespace Go.Proofs.YtlbbmhgdcdcdnaaGreatDoor
open Go.Ev
theorem ty3:K.types.get 3=some ti3:=by kernel_rfl
theorem sz3:ti3.size=1:=by rfl
theorem ag3:ti3.agg=false:=by rfl
theorem de3:ti3.desc=(.int .i64):=by rfl
theorem ze3:ti3.zero=(.c (.int .i64 0)):=by rfl
theorem by3:ti3.bytes=8:=by rfl
theorem ke3 (k:IntKind) (n:Int):keyT K 20 3 (.c (.int k n))=true:=by kernel_rfl
theorem ty4:K.types.get 4=some ti4:=by kernel_rfl
theorem sz4:ti4.size=1:=by rfl
theorem ag4:ti4.agg=false:=by rfl
theorem de4:ti4.desc=.bool:=by rfl
theorem ze4:ti4.zero=(.c (.bool false)):=by rfl
theorem by4:ti4.bytes=1:=by rfl
theorem ty5:K.types.get 5=some ti5:=by kernel_rfl
theorem sz5:ti5.size=1:=by rfl
theorem ag5:ti5.agg=false:=by rfl
theorem de5:ti5.desc=(.int .u8):=by rfl
theorem ze5:ti5.zero=(.c (.int .u8 0)):=by rfl
theorem by5:ti5.bytes=1:=by rfl
theorem ke5 (k:IntKind) (n:Int):keyT K 20 5 (.c (.int k n))=true:=by kernel_rfl
theorem ty85:K.types.get 85=some ti85:=by kernel_rfl
theorem sz85:ti85.size=256:=by rfl
theorem ag85:ti85.agg=true:=by rfl
theorem de85:ti85.desc=(.array 256 5):=by rfl
theorem ze85:ti85.zero=(.g ((List.replicate 256 (.int .u8 0)))):=by rfl
theorem by85:ti85.bytes=256:=by rfl
theorem eq85 (a b:List C):eqT K 20 85 (.g a) (.g b)=(bif true&&Nat.beq a.length 256&&Nat.beq b.length 256 then eqInts a b else none):=by kernel_rfl
theorem ty93:K.types.get 93=some ti93:=by kernel_rfl
theorem sz93:ti93.size=1:=by rfl
theorem ag93:ti93.agg=false:=by rfl
theorem de93:ti93.desc=(.pointer 85):=by rfl
theorem ze93:ti93.zero=(.c (.pnil)):=by rfl
theorem by93:ti93.bytes=8:=by rfl
attribute [go_sem] ty3 sz3 ag3 de3 ze3 by3 ke3 ty4 sz4 ag4 de4 ze4 by4 ty5 sz5 ag5 de5 ze5 by5 ke5 ty85 sz85 ag85 de85 ze85 by85 eq85 ty93 sz93 ag93 de93 ze93 by93
noncomputable def q36 (p:List Nat):Code:=piece p (bodyOf Tryz.f36)
theorem q36_:q36 []=.seq (q36 [0]) (q36 [1]):=by kernel_rfl
theorem q36_0:q36 [0]=.region 0 (opsA (q36 [0])) false:=by kernel_rfl
theorem q36_1:q36 [1]=.seq (q36 [1,0]) (q36 [1,1]):=by kernel_rfl
theorem q36_10:q36 [1,0]=.seq (q36 [1,0,0]) (q36 [1,0,1]):=by kernel_rfl
theorem q36_100:q36 [1,0,0]=.region 1 (opsA (q36 [1,0,0])) true:=by kernel_rfl
theorem q36_101:q36 [1,0,1]=.cond (.tmp 23) (q36 [1,0,1,3]) (q36 [1,0,1,4]):=by kernel_rfl
theorem q36_1014:q36 [1,0,1,4]=.skip:=by kernel_rfl
theorem q36_11:q36 [1,1]=.seq (q36 [1,1,0]) (q36 [1,1,1]):=by kernel_rfl
theorem q36_110:q36 [1,1,0]=.region 3 (opsA (q36 [1,1,0])) true:=by kernel_rfl
theorem q36_111:q36 [1,1,1]=.seq (q36 [1,1,1,0]) (q36 [1,1,1,1]):=by kernel_rfl
theorem q36_1110:q36 [1,1,1,0]=.region 4 (opsA (q36 [1,1,1,0])) false:=by kernel_rfl
theorem q36_1111:q36 [1,1,1,1]=.ret:=by kernel_rfl
noncomputable def q78 (p:List Nat):Code:=piece p (bodyOf Tryz.f78)
theorem q78_:q78 []=.seq (q78 [0]) (q78 [1]):=by kernel_rfl
theorem q78_0:q78 [0]=.region 0 (opsA (q78 [0])) false:=by kernel_rfl
theorem q78_1:q78 [1]=.seq (q78 [1,0]) (q78 [1,1]):=by kernel_rfl
theorem q78_10:q78 [1,0]=.region 1 (opsA (q78 [1,0])) false:=by kernel_rfl
theorem q78_11:q78 [1,1]=.ret:=by kernel_rfl
noncomputable def q79 (p:List Nat):Code:=piece p (bodyOf Tryz.f79)
theorem q79_:q79 []=.seq (q79 [0]) (q79 [1]):=by kernel_rfl
theorem q79_0:q79 [0]=.region 0 (opsA (q79 [0])) false:=by kernel_rfl
theorem q79_1:q79 [1]=.seq (q79 [1,0]) (q79 [1,1]):=by kernel_rfl
theorem q79_10:q79 [1,0]=.region 1 (opsA (q79 [1,0])) false:=by kernel_rfl
theorem q79_11:q79 [1,1]=.ret:=by kernel_rfl
theorem rs79:Tryz.f79.results.toList=[.tmp 2]:=rfl
theorem rs78:Tryz.f78.results.toList=[.tmp 2]:=rfl
theorem rs36:Tryz.f36.results.toList=[.tmp 4]:=rfl
attribute [go_sem] rs79 rs78 rs36
def b8 (b0 b1 b2 b3 b4 b5 b6 b7:Bool):Nat:=b0.toNat+2 * b1.toNat+4 * b2.toNat+8 * b3.toNat+16 * b4.toNat+32 * b5.toNat+64 * b6.toNat+128 * b7.toNat
theorem b8_lt:∀ b0 b1 b2 b3 b4 b5 b6 b7:Bool,b8 b0 b1 b2 b3 b4 b5 b6 b7<256:=by decide +kernel
theorem land8:∀ b0 b1 b2 b3 b4 b5 b6 b7:Bool,∀ j:Fin 8,Nat.land (b8 b0 b1 b2 b3 b4 b5 b6 b7) (2 ^ j.1)=if [b0,b1,b2,b3,b4,b5,b6,b7].getD j.1 false=true then 2 ^ j.1 else 0:=by decide +kernel
theorem lor8:∀ b0 b1 b2 b3 b4 b5 b6 b7:Bool,∀ j:Fin 8,Nat.lor (b8 b0 b1 b2 b3 b4 b5 b6 b7) (2 ^ j.1)=b8 (b0 || decide (j.1=0)) (b1 || decide (j.1=1)) (b2 || decide (j.1=2)) (b3 || decide (j.1=3)) (b4 || decide (j.1=4)) (b5 || decide (j.1=5)) (b6 || decide (j.1=6)) (b7 || decide (j.1=7)):=by decide +kernel
def byB (g:Nat→Bool) (t:Nat):Nat:=b8 (g (8 * t)) (g (8 * t+1)) (g (8 * t+2)) (g (8 * t+3)) (g (8 * t+4)) (g (8 * t+5)) (g (8 * t+6)) (g (8 * t+7))
def packB (g:Nat→Bool):List C:=(List.range 256).map fun t=>C.int .u8 ((byB g t:Nat):Int)
def updB (g:Nat→Bool) (i:Nat):Nat→Bool:=fun j=>g j || decide (j=i)
theorem packB_len (g:Nat→Bool):(packB g).length=256:=by simp [packB]
theorem packB_get (g:Nat→Bool) (t:Nat) (h:t<256):(packB g)[t]? = some (C.int .u8 ((byB g t:Nat):Int)):=by simp [packB,h]
theorem sel8 (g:Nat→Bool) (i:Nat):[g (8 * (i / 8)),g (8 * (i / 8)+1),g (8 * (i / 8)+2),g (8 * (i / 8)+3),g (8 * (i / 8)+4),g (8 * (i / 8)+5),g (8 * (i / 8)+6),g (8 * (i / 8)+7)].getD (i % 8) false=g i:=by
 have e:=Nat.div_add_mod i 8
 obtain⟨t,ht⟩:∃ t,i / 8=t:=⟨_,rfl⟩
 rw[ht] at e ⊢
 have hj:i % 8=0∨i % 8=1∨i % 8=2∨i % 8=3∨i % 8=4∨i % 8=5∨i % 8=6∨i % 8=7:=by omega
 rcases hj with h|h|h|h|h|h|h|h<;>rw[h] at e ⊢ <;> rw[←e]<;>rfl
theorem byB_test (g:Nat→Bool) (i:Nat):Nat.land (byB g (i / 8)) (2 ^ (i % 8))=if g i=true then 2 ^ (i % 8) else 0:=by
 have:=land8 (g (8 * (i / 8))) (g (8 * (i / 8)+1)) (g (8 * (i / 8)+2)) (g (8 * (i / 8)+3)) (g (8 * (i / 8)+4)) (g (8 * (i / 8)+5)) (g (8 * (i / 8)+6)) (g (8 * (i / 8)+7)) ⟨i % 8,by omega⟩
 simp only[sel8] at this
 exact this
theorem byB_set (g:Nat→Bool) (i:Nat):Nat.lor (byB g (i / 8)) (2 ^ (i % 8))=byB (updB g i) (i / 8):=by
 have:=lor8 (g (8 * (i / 8))) (g (8 * (i / 8)+1)) (g (8 * (i / 8)+2)) (g (8 * (i / 8)+3)) (g (8 * (i / 8)+4)) (g (8 * (i / 8)+5)) (g (8 * (i / 8)+6)) (g (8 * (i / 8)+7)) ⟨i % 8,by omega⟩
 refine this.trans ?_
 have e:=Nat.div_add_mod i 8
 unfold byB updB
 have q:∀ k,k<8→decide (i % 8=k)=decide (8 * (i / 8)+k=i):=fun k hk=>by
  rw[decide_eq_decide]
  omega
 have q0:=q 0 (by omega)
 rw[Nat.add_zero] at q0
 simp only[q0,q 1 (by omega),q 2 (by omega),q 3 (by omega),q 4 (by omega),q 5 (by omega),q 6 (by omega),q 7 (by omega)]
theorem byB_other (g:Nat→Bool) (i t:Nat) (h:t≠i / 8):byB (updB g i) t=byB g t:=by
 unfold byB updB
 have q:∀ k,k<8→decide (8 * t+k=i)=false:=fun k hk=>decide_eq_false (by omega)
 have q0:=q 0 (by omega)
 rw[Nat.add_zero] at q0
 simp only[q0,q 1 (by omega),q 2 (by omega),q 3 (by omega),q 4 (by omega),q 5 (by omega),q 6 (by omega),q 7 (by omega),Bool.or_false]
theorem packB_set (g:Nat→Bool) (i:Nat) (hi:i<2048):(packB g).set (i / 8) (.int .u8 ((Nat.lor (byB g (i / 8)) (2 ^ (i % 8)):Nat):Int))=packB (updB g i):=by
 refine List.ext_getElem (by simp [packB]) fun t h1 h2=>?_
 rw[List.getElem_set]
 simp only[packB,List.getElem_map,List.getElem_range]
 by_cases e:i / 8=t
 ·rw[if_pos e,byB_set,e]
 ·rw[if_neg e,byB_other _ _ _ (fun x=>e x.symm)]
theorem byB_lt (g:Nat→Bool) (t:Nat):byB g t<256:=b8_lt ..
theorem pow8_lt (i:Nat):2 ^ (i % 8)<256:=Nat.lt_of_lt_of_le (Nat.pow_lt_pow_right (by omega) (show i % 8<8 by omega)) (by decide)
theorem lor256 {a b:Nat} (ha:a<256) (hb:b<256):Nat.lor a b<256:=Nat.or_lt_two_pow (n:=8) ha hb
theorem land256 {a b:Nat} (ha:a<256):Nat.land a b<256:=Nat.lt_of_le_of_lt Nat.and_le_left ha
section
variable (Hh:Hearts K Tryz.prog)
include Hh
theorem isOk (h:Go.Ev.H) (i:Nat) (hi:i<2048):CallOk K Tryz.prog 79 [.c (.int .i64 i)] h (.w (.c (.bool true))) h:=by
 refine CallOk.goes fits Hh (by kernel_rfl) (by kernel_rfl) (by kernel_rfl) (show Tryz.f79.body=some (q79 []) by kernel_rfl) rfl ?_
 show Goes K Tryz.prog 9 none _ _ _ _ _
 refine Goes.seqQ q79_ ?_
 refine Goes.opsQ q79_0 fits Hh E0_sound (by
  simp (maxSteps:=9^6) +decide (disch:=first|omega|(simp only[lens]<;>omega)|decide) only [go_sem,q79,Tryz.f79,readRow,loadIn,simprocAttr]
  rfl) ?_
 refine Goes.seqQ q79_1 ?_
 refine Goes.opsQ q79_10 fits Hh E0_sound (by
  simp (maxSteps:=9^6) +decide (disch:=first|omega|(simp only[lens]<;>omega)|decide) only [go_sem,q79,Tryz.f79,readRow,loadIn,simprocAttr]
  rfl) ?_
 refine Goes.retQ q79_11 ?_
 simp (maxSteps:=9^6) +decide (disch:=first|omega|(simp only[lens]<;>omega)|decide) only [go_sem,readRow,loadIn,simprocAttr]<;>rfl
theorem maskOk (h:Go.Ev.H) (i:Nat):CallOk K Tryz.prog 78 [.c (.int .i64 i)] h (.w (.c (.int .u8 ((2 ^ (i % 8):Nat):Int)))) h:=by
 have r1:opRem .i64 (i:Int) 8=some (.int .i64 ((i % 8:Nat):Int)):=rem_nat (b:=8) (by omega)
 have s1:opShl .u8 1 ((i % 8:Nat):Int)=some (.int .u8 ((2 ^ (i % 8):Nat):Int)):=by
  have h8:=pow8_lt i
  unfold opShl
  rw[decide_eq_false (by omega),cond_false]
  have e:min ((i % 8:Nat):Int).toNat IntKind.u8.bits=i % 8:=by
   show min ((i % 8:Nat):Int).toNat 8=i % 8
   omega
  rw[e,Int.one_mul,wrapU8I ⟨Int.pow_nonneg (by omega),by exact_mod_cast h8⟩]
  congr 2
 refine CallOk.goes fits Hh (by kernel_rfl) (by kernel_rfl) (by kernel_rfl) (show Tryz.f78.body=some (q78 []) by kernel_rfl) rfl ?_
 show Goes K Tryz.prog 6 none _ _ _ _ _
 refine Goes.seqQ q78_ ?_
 refine Goes.opsQ q78_0 fits Hh E0_sound (by
  simp (maxSteps:=9^6) +decide (disch:=first|omega|(simp only[lens]<;>omega)|decide) only [go_sem,q78,Tryz.f78,readRow,loadIn,simprocAttr,r1,s1]
  rfl) ?_
 refine Goes.seqQ q78_1 ?_
 refine Goes.opsQ q78_10 fits Hh E0_sound (by
  simp (maxSteps:=9^6) +decide (disch:=first|omega|(simp only[lens]<;>omega)|decide) only [go_sem,q78,Tryz.f78,readRow,loadIn,simprocAttr,r1,s1]
  rfl) ?_
 refine Goes.retQ q78_11 ?_
 simp (maxSteps:=9^6) +decide (disch:=first|omega|(simp only[lens]<;>omega)|decide) only [go_sem,readRow,loadIn,simprocAttr,r1,s1]<;>rfl
theorem setOk (h:Go.Ev.H) (b i:Nat) (g:Nat→Bool) (hi:i<2048) (hg:g i=false) (hb:h.get b=some (.row 256 [packB g] false)):CallOk K Tryz.prog 36 [.c (.ptr b 0),.c (.int .i64 i)] h (.w (.c (.bool true))) (h.put b (.row 256 [packB (updB g i)] false)):=by
 have c1:=isOk Hh h i hi
 have c2:=maskOk Hh h i
 have q1:opQuo .i64 (i:Int) 8=some (.int .i64 ((i / 8:Nat):Int)):=quo_nat (b:=8) (by omega) (by omega)
 have rd:read1 256 [packB g] (i / 8)=some (.int .u8 ((byB g (i / 8):Nat):Int)):=by
  unfold read1
  rw[Nat.div_eq_of_lt (by omega),Nat.mod_eq_of_lt (by omega),List.getElem?_cons_zero]
  exact packB_get g _ (by omega)
 have wr:writeRow 256 [packB g] (i / 8) [.int .u8 ((Nat.lor (byB g (i / 8)) (2 ^ (i % 8)):Nat):Int)]=some [packB (updB g i)]:=by
  simp only[writeRow]
  rw[Nat.div_eq_of_lt (by omega),Nat.mod_eq_of_lt (by omega),List.getElem?_cons_zero]
  simp only[packB_len]
  rw[blt_t (by omega),cond_true,packB_set g i hi]
  rfl
 have l1:opBit .u8 Nat.land ((byB g (i / 8):Nat):Int) ((2 ^ (i % 8):Nat):Int)=.int .u8 ((0:Nat):Int):=by
  rw[bitU8 (byB_lt _ _) (pow8_lt _) (land256 (byB_lt _ _)),byB_test,hg]
  rfl
 have l2:opBit .u8 Nat.lor ((byB g (i / 8):Nat):Int) ((2 ^ (i % 8):Nat):Int)=.int .u8 ((Nat.lor (byB g (i / 8)) (2 ^ (i % 8)):Nat):Int):=bitU8 (byB_lt _ _) (pow8_lt _) (lor256 (byB_lt _ _) (pow8_lt _))
 refine CallOk.goes fits Hh (by kernel_rfl) (by kernel_rfl) (by kernel_rfl) (show Tryz.f36.body=some (q36 []) by kernel_rfl) rfl ?_
 show Goes K Tryz.prog 35 none _ _ _ _ _
 refine Goes.seqQ q36_ ?_
 refine Goes.opsQ q36_0 fits Hh E0_sound (by
  simp (maxSteps:=9^6) +decide (disch:=first|omega|(simp only[lens]<;>omega)|decide) only [go_sem,q36,Tryz.f36,readRow,loadIn,simprocAttr,q1,rd,wr,l1,l2,hb]
  rfl) ?_
 refine Goes.seqQ q36_1 ?_
 refine Goes.seqQ q36_10 ?_
 refine Goes.drawnQ q36_100 fits Hh (E1_sound (E1_sound E0_sound c1) c2) (by kernel_rfl) (by
  simp (maxSteps:=9^6) +decide (disch:=first|omega|(simp only[lens]<;>omega)|decide) only [go_sem,q36,Tryz.f36,readRow,loadIn,simprocAttr,op_move,op_assign,op_binOp,op_unOp,op_convert,op_load,op_store,op_indexAddr,op_alloc,op_pick,op_box,op_build,op_buildSlice,op_nilCheck,op_makeSlice,op_fieldAddr,op_field,op_extract,op_lookup,op_mapUpdate,op_builtin,op_index,drEnd,drAll,drOne,drTs,drKd,drPure,drRead,drAlloc,drEff,drSkip,drPut,putT_ok,putT_none,cutT,looks,tmpOf,Op.operands,Call.operands,kd,kdCall,List.filterMap_cons,List.filterMap_nil,List.append_nil,List.nil_append,List.cons_append,stables,stable,reachAt,reachP,waitsAt,waits,gives_self,List.all_cons,List.all_nil,List.any_cons,List.any_nil,Region.binds,Bool.or_true,Bool.true_or,Bool.and_true,Bool.true_and,Bool.or_false,Bool.false_or,Bool.and_self,Bool.or_self,ble_true,Nat.le_refl,Nat.le_add_right,List.map_cons,Array.toList_append,E1_call,q1,rd,wr,l1,l2,hb]
  rfl) ?_
 refine Goes.condFQ q36_101 (by simp (maxSteps:=9^6) +decide (disch:=first|omega|(simp only[lens]<;>omega)|decide) only [go_sem,readRow,loadIn,simprocAttr,q1,rd,wr,l1,l2,hb]<;>rfl) (by first|rfl|assumption|exact decide_eq_false (by omega)|(simp; omega)) ?_
 refine Goes.skipQ q36_1014 ?_
 refine Goes.seqQ q36_11 ?_
 refine Goes.drawnQ q36_110 fits Hh (E1_sound E0_sound c2) (by kernel_rfl) (by
  simp (maxSteps:=9^6) +decide (disch:=first|omega|(simp only[lens]<;>omega)|decide) only [go_sem,q36,Tryz.f36,readRow,loadIn,simprocAttr,op_move,op_assign,op_binOp,op_unOp,op_convert,op_load,op_store,op_indexAddr,op_alloc,op_pick,op_box,op_build,op_buildSlice,op_nilCheck,op_makeSlice,op_fieldAddr,op_field,op_extract,op_lookup,op_mapUpdate,op_builtin,op_index,drEnd,drAll,drOne,drTs,drKd,drPure,drRead,drAlloc,drEff,drSkip,drPut,putT_ok,putT_none,cutT,looks,tmpOf,Op.operands,Call.operands,kd,kdCall,List.filterMap_cons,List.filterMap_nil,List.append_nil,List.nil_append,List.cons_append,stables,stable,reachAt,reachP,waitsAt,waits,gives_self,List.all_cons,List.all_nil,List.any_cons,List.any_nil,Region.binds,Bool.or_true,Bool.true_or,Bool.and_true,Bool.true_and,Bool.or_false,Bool.false_or,Bool.and_self,Bool.or_self,ble_true,Nat.le_refl,Nat.le_add_right,List.map_cons,Array.toList_append,E1_call,q1,rd,wr,l1,l2,hb]
  rfl) ?_
 refine Goes.seqQ q36_111 ?_
 refine Goes.opsQ q36_1110 fits Hh E0_sound (by
  simp (maxSteps:=9^6) +decide (disch:=first|omega|(simp only[lens]<;>omega)|decide) only [go_sem,q36,Tryz.f36,readRow,loadIn,simprocAttr,q1,rd,wr,l1,l2,hb]
  rfl) ?_
 refine Goes.retQ q36_1111 ?_
 simp (maxSteps:=9^6) +decide (disch:=first|omega|(simp only[lens]<;>omega)|decide) only [go_sem,readRow,loadIn,simprocAttr,q1,rd,wr,l1,l2,hb]<;>rfl
end
end Go.Proofs.YtlbbmhgdcdcdnaaGreatDoor
