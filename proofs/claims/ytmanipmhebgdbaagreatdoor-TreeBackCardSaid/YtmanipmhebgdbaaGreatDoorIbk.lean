/- Bytes of a block: numbers put and got, sums, noughts. -/
import Derived.Test.YtmanipmhebgdbaaGreatDoorCrcX
set_option maxRecDepth 100000
set_option maxHeartbeats 4000000
set_option linter.unusedSimpArgs false
set_option linter.unusedVariables false
set_option linter.unusedSectionVars false
namespace Go.Proofs.YtmanipmhebgdbaaGreatDoor
open Go.Ev
noncomputable section
theorem ty73:K.types.get 73=some ti73:=kR
theorem sz73:ti73.size=1:=by rfl
theorem ag73:ti73.agg=false:=by rfl
theorem de73:ti73.desc=(.slice 5):=by rfl
theorem ze73:ti73.zero=(.c (.snil)):=by rfl
theorem el73:J9 K 73=some ti5:=kR
theorem ty271:K.types.get 271=some ti271:=kR
theorem de271:ti271.desc=(.int .u16):=by rfl
attribute [go_sem] ty73 sz73 ag73 de73 ze73 el73 ty271 de271
theorem rs235:Tryz.f235.results.toList=[.tmp 6]:=rfl
theorem rs272:Tryz.f272.results.toList=[.tmp 8]:=rfl
theorem rs223:Tryz.f223.results.toList=[.tmp 6]:=rfl
theorem rs222:Tryz.f222.results.toList=[.tmp 6]:=rfl
theorem rs163:Tryz.f163.results.toList=[.tmp 6,.tmp 7]:=rfl
theorem rs86:Tryz.f86.results.toList=[.tmp 4,.tmp 5]:=rfl
theorem rs164:Tryz.f164.results.toList=[.tmp 6,.tmp 7]:=rfl
theorem rs87:Tryz.f87.results.toList=[.tmp 4,.tmp 5]:=rfl
attribute [go_sem] rs235 rs272 rs223 rs222 rs163 rs86 rs164 rs87
def pgL (ns:Lq):List C:=ns.map fun n=>.int .u8 ((n % 256:Nat):Int)
def Yd5:C->Nat
 | .int _ (.ofNat n)=>n
 | _=>0
def unN (x:List C):Lq:=x.map Yd5
def byC:C->Bool
 | .int .u8 (.ofNat n)=>Nat.blt n 256
 | _=>false
def Zpr (x:List C):Bool:=x.all byC
def atN (ns:Lq) (i:Nat):Nat:=ns.getD i 0 % 256
def G8 (ns:Lq) (i v:Nat):Lq:=(ns.set i v).set (i+1) (v / 256)
def Jz (ns:Lq) (i v:Nat):Lq:=(((ns.set i v).set (i+1) (v / 256)).set (i+2) (v / 256 / 256)).set (i+3) (v / 256 / 256 / 256)
def Ou (ns:Lq) (i:Nat):Nat:=atN ns i+256 * atN ns (i+1)
def Yk (ns:Lq) (i:Nat):Nat:=atN ns i+256 * (atN ns (i+1)+256 * (atN ns (i+2)+256 * atN ns (i+3)))
def Qx (ns:Lq):Nat:=Nat.xor 4294967295 (Zxj ((ns.take 252).map (· % 256)) 4294967295)
def Bv (ns:Lq) (a n:Nat):Bool:=Zgb (((ns.drop a).take n).map (· % 256))
theorem Z5g {c:C} (h:byC c=true):∃ n,n<256/\c=.int .u8 ((n % 256:Nat):Int):=by
 unfold byC at h
 split at h
 ·rename_i n
  have hn:n<256:=by simpa [Nat.blt_eq] using h
  exact⟨n,hn,by rw[Nat.mod_eq_of_lt hn]; rfl⟩
 ·cases h
theorem Zgn:∀ {x:List C},Zpr x=true->∃ ns,x=pgL ns/\ns.length=x.length
 | [],_=>⟨[],rfl,rfl⟩
 | c :: x,h=>by
  have h':(byC c&&Zpr x)=true:=h
  rw[aQ] at h'
  obtain⟨n,_,e⟩:=Z5g h'.1
  obtain⟨ns,e2,e3⟩:=Zgn h'.2
  exact⟨n :: ns,by rw[e,e2]; rfl,by rw[List.length_cons,List.length_cons,e3]⟩
theorem Zee:∀ ns:Lq,Zpr (pgL ns)=true
 | []=>rfl
 | n :: ns=>by
  show (Nat.blt (n % 256) 256&&Zpr (pgL ns))=true
  rw[Zee ns,Bool.and_true]
  have:=Nat.mod_lt n (show 256 > 0 by omega)
  simpa [Nat.blt_eq] using this
theorem Zc3:∀ ns:Lq,(pgL ns).all C.flat=true
 | []=>rfl
 | n :: ns=>Zc3 ns
theorem J7 (ns:Lq):(pgL ns).length=ns.length:=by simp [pgL]
theorem Yz (ns:Lq) (i v:Nat):(G8 ns i v).length=ns.length:=by simp [G8]
theorem Yj (ns:Lq) (i v:Nat):(Jz ns i v).length=ns.length:=by simp [Jz]
theorem Mi (ns:Lq) (i v:Nat):(pgL ns).set i (.int .u8 ((v % 256:Nat):Int))=pgL (ns.set i v):=by rw[pgL,pgL,List.map_set]
theorem Gr (ns:Lq):unN (pgL ns)=ns.map (· % 256):=by
 unfold unN pgL
 rw[List.map_map]
 rfl
theorem Zth (ns:Lq):pgL (ns.map (· % 256))=pgL ns:=by
 unfold pgL
 rw[List.map_map]
 refine List.map_congr_left fun n _=>?_
 show C.int .u8 ((n % 256 % 256:Nat):Int)=_
 rw[Nat.mod_mod]
theorem Zlw (ns:Lq) (i v:Nat):pgL ((ns.map (· % 256)).set i v)=pgL (ns.set i v):=by
 rw[<-Mi,Zth,Mi]
theorem Zi2 (ns:Lq) (i v:Nat):pgL (G8 (ns.map (· % 256)) i v)=pgL (G8 ns i v):=by
 unfold G8
 rw[<-Mi,Zlw,Mi]
theorem Xh (ns:Lq) (i v:Nat):pgL (Jz (ns.map (· % 256)) i v)=pgL (Jz ns i v):=by
 unfold Jz
 rw[<-Mi,<-Mi,<-Mi,Zlw,Mi,Mi,Mi]
theorem Zzy (ns:Lq) (i:Nat):atN (ns.map (· % 256)) i=atN ns i:=by
 unfold atN
 rw[List.getD_eq_getElem?_getD,List.getD_eq_getElem?_getD,List.getElem?_map]
 cases ns[i]? with
 | none=>rfl
 | some n=>show n % 256 % 256=n % 256; rw[Nat.mod_mod]
theorem Q6 (ns:Lq) (i:Nat):Ou (ns.map (· % 256)) i=Ou ns i:=by simp only[Ou,Zzy]
theorem Vz (ns:Lq) (i:Nat):Yk (ns.map (· % 256)) i=Yk ns i:=by simp only[Yk,Zzy]
theorem Z1w (ns:Lq):(ns.map (· % 256)).map (· % 256)=ns.map (· % 256):=by
 rw[List.map_map]
 refine List.map_congr_left fun n _=>?_
 show n % 256 % 256=n % 256
 rw[Nat.mod_mod]
theorem Zax (ns:Lq):Qx (ns.map (· % 256))=Qx ns:=by
 unfold Qx
 rw[<-List.map_take,Z1w]
theorem Zea (ns:Lq) (a n:Nat):Bv (ns.map (· % 256)) a n=Bv ns a n:=by
 unfold Bv
 rw[<-List.map_drop,<-List.map_take,Z1w]
theorem Nh (ns:Lq) (i:Nat):atN ns i<256:=Nat.mod_lt _ oM
theorem Znl (ns:Lq) (i:Nat):Yk ns i<4294967296:=by
 have h1:=Nh ns i
 have h2:=Nh ns (i+1)
 have h3:=Nh ns (i+2)
 have h4:=Nh ns (i+3)
 unfold Yk
 omega
theorem Znk (ns:Lq) (i:Nat):Ou ns i<65536:=by
 have h1:=Nh ns i
 have h2:=Nh ns (i+1)
 unfold Ou
 omega
theorem Z0k (ns:Lq):Qx ns<4294967296:=Zo7 oM (Zm6 oM fun b hb=>by
 obtain⟨n,_,rfl⟩:=List.mem_map.1 hb
 have:=Nat.mod_lt n (show 256 > 0 by omega)
 exact this)
theorem Yai {ns:Lq} {i:Nat} (h:i<ns.length):(pgL ns)[i]? = some (.int .u8 ((atN ns i:Nat):Int)):=by
 unfold pgL atN
 rw[List.getElem?_map,List.getD_eq_getElem?_getD,lG h]
 rfl
theorem Zra {ns:Lq} {i:Nat} (h:i<256/\256<=ns.length):read1 256 [pgL ns] i=some (.int .u8 ((atN ns i:Nat):Int)):=by
 unfold read1
 rw[Nat.div_eq_of_lt h.1,Nat.mod_eq_of_lt h.1]
 exact Yai oM
theorem Z75 {ns:Lq} {i v:Nat} (h:i<256/\256<=ns.length):Z0 256 [pgL ns] i [.int .u8 ((v % 256:Nat):Int)]=some [pgL (ns.set i v)]:=by
 simp only[Z0]
 rw[Nat.div_eq_of_lt h.1,Nat.mod_eq_of_lt h.1,List.getElem?_cons_zero]
 simp only[J7]
 rw[Zbr oM,cond_true,Mi]
 rfl
theorem shr8 {v:Nat}:Zwf .u32 (v:Int) 8=some (.int .u32 ((v / 256:Nat):Int)):=by
 show some (C.int .u32 ((v:Int).fdiv 256))=_
 rw[show (v:Int).fdiv 256=((v / 256:Nat):Int) by rw[Int.fdiv_eq_ediv_of_nonneg _ oM]; rfl]
theorem wr8 {v:Nat}:Jm .u8 (v:Int)=.int .u8 ((v % 256:Nat):Int):=by
 rw[Z3h]
 rfl
theorem shl8 {v:Nat} (h:v<16777216):Zah .u32 (v:Int) 8=some (.int .u32 ((v * 256:Nat):Int)):=by
 unfold Zah
 have e:min (8:Int).toNat IntKind.u32.bits=8:=rfl
 rw[e]
 show some (Jm .u32 ((v:Int) * 256))=_
 rw[Zap oM]
 rfl
theorem Z1u {v b:Nat} (hb:b<256):Nat.lor (v * 256) b=b+256 * v:=by
 have:=Nat.two_pow_add_eq_or_of_lt (i:=8) hb v
 rw[show (2:Nat) ^ 8 * v=v * 256 by omega] at this
 show v * 256 ||| b=_
 omega
theorem or8 {v b:Nat} (h:v<16777216) (hb:b<256):De .u32 Nat.lor ((v * 256:Nat):Int) (b:Int)=.int .u32 ((b+256 * v:Nat):Int):=by
 rw[Zsj oM oM (by rw[Z1u hb]; omega),Z1u hb]
theorem sh16 {v:Nat} (h:v<256):Zah .u16 (v:Int) 8=some (.int .u16 ((v * 256:Nat):Int)):=by
 unfold Zah
 have e:min (8:Int).toNat IntKind.u16.bits=8:=rfl
 rw[e]
 show some (Jm .u16 ((v:Int) * 256))=_
 rw[Zjm oM]
 rfl
theorem or16 {v b:Nat} (h:v<256) (hb:b<256):De .u16 Nat.lor ((v * 256:Nat):Int) (b:Int)=.int .u16 ((b+256 * v:Nat):Int):=by
 have e1:(((v * 256:Nat):Int) % 2 ^ IntKind.bits .u16).toNat=v * 256:=by show (((v * 256:Nat):Int) % 65536).toNat=v * 256; omega
 have e2:((b:Int) % 2 ^ IntKind.bits .u16).toNat=b:=by show ((b:Int) % 65536).toNat=b; omega
 unfold De
 rw[e1,e2,Z1u hb]
 exact Zjm oM
def Li (h:Hq) (p:Nat):Option (List C):=match h.get p with
 | some (.row s [x] ro)=>Y5 (Nat.beq s 256&&!ro&&Nat.beq x.length 256&&Zpr x) (some x)
 | _=>none
theorem Z1z (n:Nat):Ob (no_index (@OfNat.ofNat Int n instOfNat))=some (@OfNat.ofNat Nat n (instOfNatNat n)):=by
 show Ob (n:Int)=some n
 exact Zir n
theorem J6 {h:Hq} {p:Nat} {x:List C} (e:Li h p=some x):∃ ns,x=pgL ns/\ns.length=256/\h.get p=some (.row 256 [pgL ns] false):=by
 unfold Li at e
 split at e
 ·rename_i s y ro heq
  obtain⟨b,e⟩:=Zu.1 e
  cases e
  simp only[aQ,Bool.not_eq_true'] at b
  obtain⟨⟨⟨b1,rfl⟩,b3⟩,b4⟩:=b
  obtain rfl:=bQ b1
  obtain⟨ns,rfl,e2⟩:=Zgn b4
  exact⟨ns,rfl,by rw[e2]; exact bQ b3,heq⟩
 ·cases e
def Zo4:Kn1:=fun args h=>match args with
 | [.c (.int .i64 n),.c (.int .i64 a),.c (.int .i64 s)]=>Y5 (decide (0<=n)&&decide (n<4096)&&decide (0<=a)&&decide (0<=s)&&decide (a+s<=n)) (some (.w (.c (.bool true)),h))
 | _=>none
def Zut:Kn1:=fun args h=>match args with
 | [.c (.slice p off len 1),.c (.int .i64 a),.c (.int .u32 v)]=>(Ob a).bind fun a=>(Ob v).bind fun v=>(Li h p).bind fun x=>Y5 (decide (off+len<=256)&&decide (a+2<=len)&&decide (v<65536)) (some (.w (.c (.bool true)),h.put p (.row 256 [pgL (G8 (unN x) (off+a) v)] false)))
 | _=>none
def Zuu:Kn1:=fun args h=>match args with
 | [.c (.slice p off len 1),.c (.int .i64 a),.c (.int .u32 v)]=>(Ob a).bind fun a=>(Ob v).bind fun v=>(Li h p).bind fun x=>Y5 (decide (off+len<=256)&&decide (a+4<=len)&&decide (v<4294967296)) (some (.w (.c (.bool true)),h.put p (.row 256 [pgL (Jz (unN x) (off+a) v)] false)))
 | _=>none
def Zud:Kn1:=fun args h=>match args with
 | [.c (.slice p off len 1),.c (.int .i64 a)]=>(Ob a).bind fun a=>(Li h p).bind fun x=>Y5 (decide (off+len<=256)&&decide (a+2<=len)) (some (.tup [.c (.int .u32 ((Ou (unN x) (off+a):Nat):Int)),.c (.bool true)],h))
 | _=>none
def Zue:Kn1:=fun args h=>match args with
 | [.c (.slice p off len 1),.c (.int .i64 a)]=>(Ob a).bind fun a=>(Li h p).bind fun x=>Y5 (decide (off+len<=256)&&decide (a+4<=len)) (some (.tup [.c (.int .u32 ((Yk (unN x) (off+a):Nat):Int)),.c (.bool true)],h))
 | _=>none
def Z4d:Kn1:=fun args h=>match args with
 | [.c (.slice n 0 m 1)]=>match h.get n with
  | some (.row s [[.slice p 0 l z]] _)=>(Li h p).bind fun x=>Y5 (Nat.beq m 1&&Nat.beq s 1&&Nat.beq l 252&&Nat.beq z 1&&M4 (h.get 0)) (some (.w (.c (.int .u32 ((Qx (unN x):Nat):Int))),h))
  | _=>none
 | _=>none
def Ybg:Kn1:=fun args h=>match args with
 | [.c (.slice p off len 1)]=>(Li h p).bind fun x=>Y5 (decide (off+len<=256)) (some (.w (.c (.bool (Bv (unN x) off len))),h))
 | _=>none
attribute [go_sem] J7 Yz Yj Gr Zi2 Xh Q6 Vz Zax Zea Zee Li Zo4 Zut Zuu Zud Zue Z4d Ybg Zra Z1z
theorem Zv9 (p o l:Nat):Y4 K 73 (.c (.slice p o l 1))=true:=kR
attribute [go_sem] Zv9
theorem Z23:M4 (some Bt)=true:=kR
attribute [go_sem] Z23
theorem Holds.pg {h:Hq} {p off len:Nat} {ns:Lq} (hl:ns.length=256) (hp:h.get p=some (.row 256 [pgL ns] false)) (ho:off+len<=256):Holds h (.slice p off len 1) (((ns.drop off).take len).map (· % 256)):=by
 have e:(((ns.drop off).take len).map (· % 256)).length=len:=by rw[List.length_map,List.length_take,List.length_drop]; omega
 refine⟨p,off,_,by rw[e],hp,oM,fun j b hj=>?_⟩
 have jl:j<len:=by
  rcases Nat.lt_or_ge j len with h1|h1
  ·exact h1
  ·rw[lN oM] at hj; cases hj
 have q:b=atN ns (off+j):=by
  rw[List.getElem?_map,List.getElem?_take_of_lt jl,List.getElem?_drop,lG oM] at hj
  unfold atN
  rw[List.getD_eq_getElem?_getD,lG oM]
  cases hj
  rfl
 subst q
 exact⟨Nh _ _,by rw[Zh,Zfq,cond_false,Zra oM]; rfl⟩
section
variable (Hh:Hearts K Tryz.prog)
include Hh
theorem Tc {args:List W} {h h':Hq} {v:V} (e:Zo4 args h=some (v,h')):Zb 235 args h v h':=by
 unfold Zo4 at e
 split at e
 ·rename_i n a s
  obtain⟨b,e⟩:=Zu.1 e
  simp only[aQ,decide_eq_true_eq] at b
  obtain⟨⟨⟨⟨b1,b2⟩,b3⟩,b4⟩,b5⟩:=b
  cases e
  refine fnG Hh Tryz.f235 ?_
  repeat (first|apply Z6|apply Yc|refine Zn Hh Za Zd ?_)
  exact Zd
 ·cases e
theorem Yc6 {h:Hq} {p off len a v:Nat} {ns:Lq} (hl:ns.length=256) (hp:h.get p=some (.row 256 [pgL ns] false)) (h1:off+len<=256) (h2:a+2<=len):Zb 272 [.c (.slice p off len 1),.c (.int .i64 a),.c (.int .i64 2),.c (.int .u32 v)] h (.w (.c (.bool true))) (h.put p (.row 256 [pgL (G8 ns (off+a) v)] false)):=by
 have e0:(a:Int)+0=(a:Int):=Int.add_zero _
 have e1:(a:Int)+1=((a+1:Nat):Int):=rfl
 have s1:=@shr8
 have w8:=@wr8
 have sl:=@List.length_set Nat
 have wp:=@Z75
 have pp:=@H.Zdl
 refine fnG Hh Tryz.f272 ?_
 have Jf:=Yp @hp @e0 @e1 @s1 @w8 @wp @sl @hl @pp
 repeat (first|apply Z6|apply O9|apply E9|apply Yx|apply Ea|apply Yc|refine Goes.Zi Ui ?_|refine Zn Hh (EY Za (Tc Hh)) Ui ?_)
 simp (maxSteps:=9^6) +decide (disch:=first|exact dZ|fail) only [go_sem,Zm,Zh,simprocAttr,G8,pp]<;>rfl
theorem Yc7 {h:Hq} {p off len a v:Nat} {ns:Lq} (hl:ns.length=256) (hp:h.get p=some (.row 256 [pgL ns] false)) (h1:off+len<=256) (h2:a+4<=len):Zb 272 [.c (.slice p off len 1),.c (.int .i64 a),.c (.int .i64 4),.c (.int .u32 v)] h (.w (.c (.bool true))) (h.put p (.row 256 [pgL (Jz ns (off+a) v)] false)):=by
 have e0:(a:Int)+0=(a:Int):=Int.add_zero _
 have e1:(a:Int)+1=((a+1:Nat):Int):=rfl
 have e2:(a:Int)+2=((a+2:Nat):Int):=rfl
 have e3:(a:Int)+3=((a+3:Nat):Int):=rfl
 have s1:=@shr8
 have w8:=@wr8
 have sl:=@List.length_set Nat
 have wp:=@Z75
 have pp:=@H.Zdl
 refine fnG Hh Tryz.f272 ?_
 have Jf:=Jh @hp @e0 (Yp @e1 @e2 @e3 @s1 @w8 @wp @sl @hl @pp)
 repeat (first|apply Z6|apply O9|apply E9|apply Yx|apply Ea|apply Yc|refine Goes.Zi Ui ?_|refine Zn Hh (EY Za (Tc Hh)) Ui ?_)
 simp (maxSteps:=9^6) +decide (disch:=first|exact dZ|fail) only [go_sem,Zm,Zh,simprocAttr,Jz,pp]<;>rfl
theorem Yce {h:Hq} {p off len a:Nat} {ns:Lq} (hl:ns.length=256) (hp:h.get p=some (.row 256 [pgL ns] false)) (h1:off+len<=256) (h2:a+2<=len):Zb 163 [.c (.slice p off len 1),.c (.int .i64 a),.c (.int .i64 2)] h (.tup [.c (.int .u16 ((Ou ns (off+a):Nat):Int)),.c (.bool true)]) h:=by
 have e0:(a:Int)+0=(a:Int):=Int.add_zero _
 have e1:(a:Int)+1=((a+1:Nat):Int):=rfl
 have g:Ou ns (off+a)=atN ns (off+a)+256 * atN ns (off+(a+1)):=rfl
 obtain⟨b0,k0⟩:∃ b,atN ns (off+a)=b:=⟨_,rfl⟩
 obtain⟨b1,k1⟩:∃ b,atN ns (off+(a+1))=b:=⟨_,rfl⟩
 have l0:=Nh ns (off+a)
 have l1:=Nh ns (off+(a+1))
 rw[g,k0,k1]
 rw[k0] at l0
 rw[k1] at l1
 have s0:Zah .u16 0 8=some (.int .u16 0):=rfl
 have o0:De .u16 Nat.lor 0 (b1:Int)=.int .u16 (b1:Int):=by
  have:=or16 (v:=0) oM l1
  rwa [Nat.mul_zero,Nat.add_zero] at this
 have s1:=sh16 l1
 have o1:=or16 l1 l0
 refine fnG Hh Tryz.f163 ?_
 have Jf:=Y2 @hp (Yp @e0 @e1 @s0 @o0 @s1 @o1 @hl @k0 @k1)
 repeat (first|apply Z6|apply O9|apply E9|apply Yx|apply Ea|apply Yc|refine Goes.Zi Ui ?_|refine Zn Hh (EY Za (Tc Hh)) Ui ?_)
 exact Zd
theorem Ycf {h:Hq} {p off len a:Nat} {ns:Lq} (hl:ns.length=256) (hp:h.get p=some (.row 256 [pgL ns] false)) (h1:off+len<=256) (h2:a+4<=len):Zb 164 [.c (.slice p off len 1),.c (.int .i64 a),.c (.int .i64 4)] h (.tup [.c (.int .u32 ((Yk ns (off+a):Nat):Int)),.c (.bool true)]) h:=by
 have e0:(a:Int)+0=(a:Int):=Int.add_zero _
 have e1:(a:Int)+1=((a+1:Nat):Int):=rfl
 have e2:(a:Int)+2=((a+2:Nat):Int):=rfl
 have e3:(a:Int)+3=((a+3:Nat):Int):=rfl
 have g:Yk ns (off+a)=atN ns (off+a)+256 * (atN ns (off+(a+1))+256 * (atN ns (off+(a+2))+256 * atN ns (off+(a+3)))):=rfl
 obtain⟨b0,k0⟩:∃ b,atN ns (off+a)=b:=⟨_,rfl⟩
 obtain⟨b1,k1⟩:∃ b,atN ns (off+(a+1))=b:=⟨_,rfl⟩
 obtain⟨b2,k2⟩:∃ b,atN ns (off+(a+2))=b:=⟨_,rfl⟩
 obtain⟨b3,k3⟩:∃ b,atN ns (off+(a+3))=b:=⟨_,rfl⟩
 have l0:=Nh ns (off+a)
 have l1:=Nh ns (off+(a+1))
 have l2:=Nh ns (off+(a+2))
 have l3:=Nh ns (off+(a+3))
 rw[g,k0,k1,k2,k3]
 rw[k0] at l0
 rw[k1] at l1
 rw[k2] at l2
 rw[k3] at l3
 have s0:Zah .u32 0 8=some (.int .u32 0):=rfl
 have o0:De .u32 Nat.lor 0 (b3:Int)=.int .u32 (b3:Int):=by
  have:=or8 (v:=0) oM l3
  rwa [Nat.mul_zero,Nat.add_zero] at this
 have s1:=shl8 (v:=b3) oM
 have o1:=or8 (v:=b3) oM l2
 have s2:=shl8 (v:=b2+256 * b3) oM
 have o2:=or8 (v:=b2+256 * b3) oM l1
 have s3:=shl8 (v:=b1+256 * (b2+256 * b3)) oM
 have o3:=or8 (v:=b1+256 * (b2+256 * b3)) oM l0
 refine fnG Hh Tryz.f164 ?_
 have Jf:=Y2 @hp (Yp @e0 @e1 @e2 @e3 @s0 @o0 @s1 @o1 (Yp @s2 @o2 @s3 @o3 @hl @k0 @k1 @k2 @k3))
 repeat (first|apply Z6|apply O9|apply E9|apply Yx|apply Ea|apply Yc|refine Goes.Zi Ui ?_|refine Zn Hh (EY Za (Tc Hh)) Ui ?_)
 exact Zd
theorem Zmk {args:List W} {h h':Hq} {v:V} (e:Zut args h=some (v,h')):Zb 223 args h v h':=by
 unfold Zut at e
 split at e
 ·rename_i p off len a0 v0
  obtain⟨a,ha,e⟩:=Zk e
  obtain⟨v,hv,e⟩:=Zk e
  obtain⟨x,hx,e⟩:=Zk e
  obtain⟨ns,rfl,hl,hp⟩:=J6 hx
  obtain⟨b,e⟩:=Zu.1 e
  simp only[aQ,decide_eq_true_eq] at b
  obtain⟨⟨b1,b2⟩,b3⟩:=b
  cases e
  rw[Yb ha,Yb hv,Gr,Zi2]
  have c1:=Yc6 Hh hl hp b1 b2 (v:=v)
  refine fnG Hh Tryz.f223 ?_
  iterate 8 (first|apply Z6|apply Yx|refine Goes.Zi Zd ?_|refine Zn Hh Za Zd ?_)
  iterate 2 (first|apply Yc|refine Zn Hh (Zj Za c1) Zd ?_)
  exact Zd
 ·cases e
theorem Zfh {args:List W} {h h':Hq} {v:V} (e:Zuu args h=some (v,h')):Zb 222 args h v h':=by
 unfold Zuu at e
 split at e
 ·rename_i p off len a0 v0
  obtain⟨a,ha,e⟩:=Zk e
  obtain⟨v,hv,e⟩:=Zk e
  obtain⟨x,hx,e⟩:=Zk e
  obtain⟨ns,rfl,hl,hp⟩:=J6 hx
  obtain⟨b,e⟩:=Zu.1 e
  simp only[aQ,decide_eq_true_eq] at b
  obtain⟨⟨b1,b2⟩,b3⟩:=b
  cases e
  rw[Yb ha,Yb hv,Gr,Xh]
  have c1:=Yc7 Hh hl hp b1 b2 (v:=v)
  refine fnG Hh Tryz.f222 ?_
  iterate 3 (first|apply Z6|refine Zn Hh Za Zd ?_)
  iterate 2 (first|apply Yc|refine Zn Hh (Zj Za c1) Zd ?_)
  exact Zd
 ·cases e
theorem Zme {args:List W} {h h':Hq} {v:V} (e:Zud args h=some (v,h')):Zb 86 args h v h':=by
 unfold Zud at e
 split at e
 ·rename_i p off len a0
  obtain⟨a,ha,e⟩:=Zk e
  obtain⟨x,hx,e⟩:=Zk e
  obtain⟨ns,rfl,hl,hp⟩:=J6 hx
  obtain⟨b,e⟩:=Zu.1 e
  simp only[aQ,decide_eq_true_eq] at b
  obtain⟨b1,b2⟩:=b
  cases e
  rw[Yb ha,Gr,Q6]
  have c1:=Yce Hh hl hp b1 b2
  have g2:=Znk ns (off+a)
  obtain⟨g,hg⟩:=xzE (Ou ns (off+a))
  rw[hg] at c1 g2 ⊢
  refine fnG Hh Tryz.f86 ?_
  iterate 3 (first|apply Z6|refine Zn Hh Za Zd ?_)
  iterate 4 (first|apply Z6|apply Yc|refine Zn Hh (Zj Za c1) Zd ?_)
  exact Zd
 ·cases e
theorem Mq {args:List W} {h h':Hq} {v:V} (e:Zue args h=some (v,h')):Zb 87 args h v h':=by
 unfold Zue at e
 split at e
 ·rename_i p off len a0
  obtain⟨a,ha,e⟩:=Zk e
  obtain⟨x,hx,e⟩:=Zk e
  obtain⟨ns,rfl,hl,hp⟩:=J6 hx
  obtain⟨b,e⟩:=Zu.1 e
  simp only[aQ,decide_eq_true_eq] at b
  obtain⟨b1,b2⟩:=b
  cases e
  rw[Yb ha,Gr,Vz]
  have c1:=Ycf Hh hl hp b1 b2
  refine fnG Hh Tryz.f87 ?_
  iterate 3 (first|apply Z6|refine Zn Hh Za Zd ?_)
  iterate 2 (first|apply Yc|refine Zn Hh (Zj Za c1) Zd ?_)
  exact Zd
 ·cases e
theorem Z4e {args:List W} {h h':Hq} {v:V} (e:Z4d args h=some (v,h')):Zb 317 args h v h':=by
 unfold Z4d at e
 split at e
 ·rename_i n m
  split at e
  ·rename_i s p l z ro heq
   obtain⟨x,hx,e⟩:=Zk e
   obtain⟨ns,rfl,hl,hp⟩:=J6 hx
   obtain⟨b,e⟩:=Zu.1 e
   cases e
   simp only[aQ] at b
   obtain⟨⟨⟨⟨b1,b2⟩,b3⟩,b4⟩,b5⟩:=b
   obtain rfl:=bQ b1
   obtain rfl:=bQ b2
   obtain rfl:=bQ b3
   obtain rfl:=bQ b4
   rw[Gr,Zax]
   exact Yb5 Hh h n [.slice p 0 252 1] ro [((ns.drop 0).take 252).map (· % 256)] heq (Md b5) rfl (by show 1<4294967296; decide) fun j l hj=>by
    match j with
    | 0=>cases hj; exact⟨_,rfl,Holds.pg hl hp oM⟩
    | j+1=>simp at hj
  ·cases e
 ·cases e
theorem Zbj {args:List W} {h h':Hq} {v:V} (e:Ybg args h=some (v,h')):Zb 85 args h v h':=by
 unfold Ybg at e
 split at e
 ·rename_i p off len
  obtain⟨x,hx,e⟩:=Zk e
  obtain⟨ns,rfl,hl,hp⟩:=J6 hx
  obtain⟨b,e⟩:=Zu.1 e
  cases e
  rw[Gr,Zea]
  exact Ybi Hh h _ _ (Holds.pg hl hp (of_decide_eq_true b))
 ·cases e
end
theorem ty41:K.types.get 41=some ti41:=kR
theorem sz41:ti41.size=11:=by rfl
theorem ag41:ti41.agg=true:=by rfl
theorem de41:ti41.desc=(.array 11 40):=by rfl
theorem ty43:K.types.get 43=some ti43:=kR
theorem sz43:ti43.size=16:=by rfl
theorem ag43:ti43.agg=true:=by rfl
theorem fo43_0:Zw K 43 0=some (0,ti5):=kR
theorem fo43_1:Zw K 43 1=some (1,ti3):=kR
theorem fo43_2:Zw K 43 2=some (2,ti40):=kR
theorem fo43_3:Zw K 43 3=some (3,ti3):=kR
theorem fo43_4:Zw K 43 4=some (4,ti41):=kR
theorem fo43_5:Zw K 43 5=some (15,ti40):=kR
theorem bu43 (ps:List (Nat × W)):Yr K 43 (some ps)=gW (Yh K 43 ps ti43.zero.cells):=kR
theorem ze43:ti43.zero=(.g ([.int .u8 0,.int .i64 0,.int .u32 0,.int .i64 0,.int .u32 0,.int .u32 0,.int .u32 0,.int .u32 0,.int .u32 0,.int .u32 0,.int .u32 0,.int .u32 0,.int .u32 0,.int .u32 0,.int .u32 0,.int .u32 0])):=by rfl
attribute [go_sem] ty41 sz41 ag41 de41 ty43 sz43 ag43 fo43_0 fo43_1 fo43_2 fo43_3 fo43_4 fo43_5 bu43 ze43
theorem rs73:Tryz.f73.results.toList=[.tmp 2]:=rfl
theorem rs84:Tryz.f84.results.toList=[.tmp 2]:=rfl
attribute [go_sem] rs73 rs84
def Ra (k l g s p0 p1 p2 p3 p4 p5 p6 p7 p8 p9 p10 nx:Int):List C:=[.int .u8 k,.int .i64 l,.int .u32 g,.int .i64 s,.int .u32 p0,.int .u32 p1,.int .u32 p2,.int .u32 p3,.int .u32 p4,.int .u32 p5,.int .u32 p6,.int .u32 p7,.int .u32 p8,.int .u32 p9,.int .u32 p10,.int .u32 nx]
def Ro (l s:Int):Bool:=decide (0<=l)&&decide (l<=1000)&&decide (0<=s)&&decide (s<=16777216)
def Z8v (l s p0 p1 p2 p3 p4 p5 p6 p7 p8 p9 p10 nx:Int):Bool:=l == 0&&(s == 0&&((p0 == 0&&(p1 == 0&&(p2 == 0&&(p3 == 0&&(p4 == 0&&(p5 == 0&&(p6 == 0&&(p7 == 0&&(p8 == 0&&(p9 == 0&&(p10 == 0&&true)))))))))))&&(nx == 0&&true)))
def Ziq (k l s p0 p1 p2 p3 p4 p5 p6 p7 p8 p9 p10 nx:Int):Bool :=
 bif decide (k=0) then Z8v l s p0 p1 p2 p3 p4 p5 p6 p7 p8 p9 p10 nx
 else bif decide (k=2) then decide (l=1)&&decide (s % 256=0)&&decide (nx=0)&&Ro l s
 else bif decide (k=1) then Ro l s else false
def Zjz:Kn1:=fun args h=>match args with
 | [.c (.int .i64 z)]=>some (.w (.c (.bool (decide (z=0\/z=64\/z=128\/z=192)))),h)
 | _=>none
attribute [go_sem] Zjz
def mB (b:Bool) (r:Option Bool):Option Bool:=match some b with
 | some true=>r
 | r'=>r'
def mO (o:Option Bool) (r:Option Bool):Option Bool:=match o with
 | some true=>r
 | r'=>r'
theorem Z6i (b x:Bool):mB b (some x)=some (b&&x):=by cases b<;>rfl
theorem Z6l (b x:Bool):mO (some b) (some x)=some (b&&x):=by cases b<;>rfl
theorem Ee (k:IntKind) (a:Int) (x y:List C) (r:Bool) (h:Jc x y=some r):Jc (.int k a :: x) (.int k 0 :: y)=some (a == 0&&r):=by
 simp only[Jc,if_true,h]
 cases (a == 0)<;>rfl
theorem Ycc (k l g s p0 p1 p2 p3 p4 p5 p6 p7 p8 p9 p10 nx:Int):eqT K 20 43 (.g (Ra k l g s p0 p1 p2 p3 p4 p5 p6 p7 p8 p9 p10 nx)) (.g (Ra 0 0 g 0 0 0 0 0 0 0 0 0 0 0 0 0))=some (k == 0&&(l == 0&&(s == 0&&((p0 == 0&&(p1 == 0&&(p2 == 0&&(p3 == 0&&(p4 == 0&&(p5 == 0&&(p6 == 0&&(p7 == 0&&(p8 == 0&&(p9 == 0&&(p10 == 0&&true)))))))))))&&(nx == 0&&true))))):=by
 have e1:eqT K 20 43 (.g (Ra k l g s p0 p1 p2 p3 p4 p5 p6 p7 p8 p9 p10 nx)) (.g (Ra 0 0 g 0 0 0 0 0 0 0 0 0 0 0 0 0))=mB (k == 0) (mB (l == 0) (mB (g == g) (mB (s == 0) (mO (Jc [.int .u32 p0,.int .u32 p1,.int .u32 p2,.int .u32 p3,.int .u32 p4,.int .u32 p5,.int .u32 p6,.int .u32 p7,.int .u32 p8,.int .u32 p9,.int .u32 p10] [.int .u32 0,.int .u32 0,.int .u32 0,.int .u32 0,.int .u32 0,.int .u32 0,.int .u32 0,.int .u32 0,.int .u32 0,.int .u32 0,.int .u32 0]) (mB (nx == 0) (some true)))))):=kR
 rw[e1]
 have e2:Jc [C.int .u32 p0,C.int .u32 p1,C.int .u32 p2,C.int .u32 p3,C.int .u32 p4,C.int .u32 p5,C.int .u32 p6,C.int .u32 p7,C.int .u32 p8,C.int .u32 p9,C.int .u32 p10] [C.int .u32 0,C.int .u32 0,C.int .u32 0,C.int .u32 0,C.int .u32 0,C.int .u32 0,C.int .u32 0,C.int .u32 0,C.int .u32 0,C.int .u32 0,C.int .u32 0]=some _:=Ee _ _ _ _ _ (Ee _ _ _ _ _ (Ee _ _ _ _ _ (Ee _ _ _ _ _ (Ee _ _ _ _ _ (Ee _ _ _ _ _ (Ee _ _ _ _ _ (Ee _ _ _ _ _ (Ee _ _ _ _ _ (Ee _ _ _ _ _ (Ee _ _ _ _ _ (rfl)))))))))))
 rw[e2]
 simp only[beq_self_eq_true,Z6i,Z6l,Bool.true_and]
section
variable (Hh:Hearts K Tryz.prog)
include Hh
theorem Va {args:List W} {h h':Hq} {v:V} (e:Zjz args h=some (v,h')):Zb 84 args h v h':=by
 unfold Zjz at e
 split at e
 ·rename_i z
  cases e
  by_cases z0:0<=z
  ·by_cases z1:z<256
   ·obtain⟨n,rfl⟩:=Int.eq_ofNat_of_zero_le z0
    have rm:Nr .i64 (n:Int) 64=some (.int .i64 ((n % 64:Nat):Int)):=Et (b:=64) oM
    by_cases z2:n % 64=0
    ·rw[decide_eq_true (show (n:Int)=0\/(n:Int)=64\/(n:Int)=128\/(n:Int)=192 by omega)]
     refine fnG Hh Tryz.f84 ?_
     have Jf:=Y2 @rm @z2
     repeat (first|apply Z6|apply Yc|refine Zn Hh Za Zq ?_)
     exact Zd
    ·rw[decide_eq_false (show ¬((n:Int)=0\/(n:Int)=64\/(n:Int)=128\/(n:Int)=192) by omega)]
     have z3:(((n % 64:Nat):Int) == 0)=false:=beq_eq_false_iff_ne.2 oM
     refine fnG Hh Tryz.f84 ?_
     have Jf:=Y2 @rm @z3
     repeat (first|apply Z6|apply Yc|refine Zn Hh Za Zq ?_)
     exact Zd
   ·rw[decide_eq_false (show ¬(z=0\/z=64\/z=128\/z=192) by omega)]
    refine fnG Hh Tryz.f84 ?_
    repeat (first|apply Z6|apply Yc|refine Zn Hh Za Zd ?_)
    exact Zd
  ·rw[decide_eq_false (show ¬(z=0\/z=64\/z=128\/z=192) by omega)]
   refine fnG Hh Tryz.f84 ?_
   repeat (first|apply Z6|apply Yc|refine Zn Hh Za Zd ?_)
   exact Zd
 ·cases e
theorem Zns (k l g s p0 p1 p2 p3 p4 p5 p6 p7 p8 p9 p10 nx:Int) (h:Hq):Zb 73 [.g [.int .u8 k,.int .i64 l,.int .u32 g,.int .i64 s,.int .u32 p0,.int .u32 p1,.int .u32 p2,.int .u32 p3,.int .u32 p4,.int .u32 p5,.int .u32 p6,.int .u32 p7,.int .u32 p8,.int .u32 p9,.int .u32 p10,.int .u32 nx]] h (.w (.c (.bool (Ziq k l s p0 p1 p2 p3 p4 p5 p6 p7 p8 p9 p10 nx)))) h:=by
 have r16:∀ k,Zm 16 [[.int .u8 k,.int .i64 l,.int .u32 g,.int .i64 s,.int .u32 p0,.int .u32 p1,.int .u32 p2,.int .u32 p3,.int .u32 p4,.int .u32 p5,.int .u32 p6,.int .u32 p7,.int .u32 p8,.int .u32 p9,.int .u32 p10,.int .u32 nx]] 0 16=some [.int .u8 k,.int .i64 l,.int .u32 g,.int .i64 s,.int .u32 p0,.int .u32 p1,.int .u32 p2,.int .u32 p3,.int .u32 p4,.int .u32 p5,.int .u32 p6,.int .u32 p7,.int .u32 p8,.int .u32 p9,.int .u32 p10,.int .u32 nx]:=fun _=>rfl
 obtain⟨v,h',c,rfl,hk⟩:∃ v h',Zb 73 [.g [.int .u8 k,.int .i64 l,.int .u32 g,.int .i64 s,.int .u32 p0,.int .u32 p1,.int .u32 p2,.int .u32 p3,.int .u32 p4,.int .u32 p5,.int .u32 p6,.int .u32 p7,.int .u32 p8,.int .u32 p9,.int .u32 p10,.int .u32 nx]] h v h'/\v=.w (.c (.bool (Ziq k l s p0 p1 p2 p3 p4 p5 p6 p7 p8 p9 p10 nx)))/\∀ m,m<h.next->h'.get m=h.get m:=by
  unfold Ziq
  by_cases k0:k=0
  ·subst k0
   have q:=Ycc 0 l g s p0 p1 p2 p3 p4 p5 p6 p7 p8 p9 p10 nx
   simp only[Ra] at q
   refine Ym Hh Tryz.f73 ?_
   have Jf:=Y2 @r16 @q
   repeat (first|apply Z6|apply Qj|apply Yx|apply Ea|apply Yc|refine Goes.Zi Jk ?_|refine Zn Hh Za Jk ?_|simp +decide only [reduceIte])
   exact⟨_,_,Yi,by simp [Z8v],fun m hm=>by exact Yn⟩
  ·by_cases k2:k=2
   ·subst k2
    rw[decide_eq_false oM,decide_eq_true rfl,cond_false,cond_true]
    by_cases l1:l=1
    ·subst l1
     by_cases s0:0<=s
     ·obtain⟨z,rfl⟩:=Int.eq_ofNat_of_zero_le s0
      have rm:Nr .i64 (z:Int) 256=some (.int .i64 ((z % 256:Nat):Int)):=Et (b:=256) oM
      have em:((z:Int) % 256)=((z % 256:Nat):Int):=rfl
      rw[em]
      by_cases z2:z % 256=0
      ·by_cases n0:nx=0
       ·subst n0
        by_cases z3:z<=16777216
        ·
         refine Ym Hh Tryz.f73 ?_
         have Jf:=Jh @r16 @rm @z2
         repeat (first|apply Z6|apply Qj|apply Yx|apply Ea|apply Yc|refine Goes.Zi Jk ?_|refine Zn Hh Za Jk ?_|simp +decide only [reduceIte])
         exact⟨_,_,Yi,by simp [Ro,z2]; omega,fun m hm=>by exact Yn⟩
        ·
         refine Ym Hh Tryz.f73 ?_
         have Jf:=Jh @r16 @rm @z2
         repeat (first|apply Z6|apply Qj|apply Yx|apply Ea|apply Yc|refine Goes.Zi Jk ?_|refine Zn Hh Za Jk ?_|simp +decide only [reduceIte])
         exact⟨_,_,Yi,by simp [Ro,z2]; omega,fun m hm=>by exact Yn⟩
       ·
        refine Ym Hh Tryz.f73 ?_
        have Jf:=J4 @r16 @rm @z2 @n0
        repeat (first|apply Z6|apply Qj|apply Yx|apply Ea|apply Yc|refine Goes.Zi Jk ?_|refine Zn Hh Za Jk ?_|simp +decide only [reduceIte])
        exact⟨_,_,Yi,by simp [n0],fun m hm=>by exact Yn⟩
      ·have z3:(((z % 256:Nat):Int) == 0)=false:=beq_eq_false_iff_ne.2 oM
       have z4:(((z % 256:Nat):Int) != 0)=true:=by rw[bne,z3]; rfl
       refine Ym Hh Tryz.f73 ?_
       have Jf:=Jh @r16 @rm @z4
       repeat (first|apply Z6|apply Qj|apply Yx|apply Ea|apply Yc|refine Goes.Zi Jk ?_|refine Zn Hh Za Jk ?_|simp +decide only [reduceIte])
       exact⟨_,_,Yi,by rw[decide_eq_false (show ¬(((z % 256:Nat):Int)=0) by omega)]; rfl,fun m hm=>by exact Yn⟩
     ·have rm:Nr .i64 s 256=some (.int .i64 (s.tmod 256)):=rfl
      have mf:Ro 1 s=false:=by unfold Ro; rw[decide_eq_false s0]; rfl
      rw[mf,Bool.and_false]
      by_cases z2:s.tmod 256=0
      ·by_cases n0:nx=0
       ·subst n0
        refine Ym Hh Tryz.f73 ?_
        have Jf:=Jh @r16 @rm @z2
        repeat (first|apply Z6|apply Qj|apply Yx|apply Ea|apply Yc|refine Goes.Zi Jk ?_|refine Zn Hh Za Jk ?_|simp +decide only [reduceIte])
        exact⟨_,_,Yi,rfl,fun m hm=>by exact Yn⟩
       ·
        refine Ym Hh Tryz.f73 ?_
        have Jf:=J4 @r16 @rm @z2 @n0
        repeat (first|apply Z6|apply Qj|apply Yx|apply Ea|apply Yc|refine Goes.Zi Jk ?_|refine Zn Hh Za Jk ?_|simp +decide only [reduceIte])
        exact⟨_,_,Yi,rfl,fun m hm=>by exact Yn⟩
      ·have z4:(s.tmod 256 != 0)=true:=by rw[bne,beq_eq_false_iff_ne.2 z2]; rfl
       refine Ym Hh Tryz.f73 ?_
       have Jf:=Jh @r16 @rm @z4
       repeat (first|apply Z6|apply Qj|apply Yx|apply Ea|apply Yc|refine Goes.Zi Jk ?_|refine Zn Hh Za Jk ?_|simp +decide only [reduceIte])
       exact⟨_,_,Yi,rfl,fun m hm=>by exact Yn⟩
    ·have l2:(l != 1)=true:=by rw[bne,beq_eq_false_iff_ne.2 l1]; rfl
     rw[decide_eq_false l1]
     refine Ym Hh Tryz.f73 ?_
     have Jf:=Y2 @r16 @l2
     repeat (first|apply Z6|apply Qj|apply Yx|apply Ea|apply Yc|refine Goes.Zi Jk ?_|refine Zn Hh Za Jk ?_|simp +decide only [reduceIte])
     exact⟨_,_,Yi,rfl,fun m hm=>by exact Yn⟩
   ·by_cases k1:k=1
    ·subst k1
     rw[decide_eq_false oM,decide_eq_false oM,decide_eq_true rfl,cond_false,cond_false,cond_true]
     unfold Ro
     by_cases a1:0<=l
     ·by_cases a2:l<=1000
      ·by_cases a3:0<=s
       ·by_cases a4:s<=16777216
        all_goals
         refine Ym Hh Tryz.f73 ?_
         have Jf:=@r16
         repeat (first|apply Z6|apply Qj|apply Yx|apply Ea|apply Yc|refine Goes.Zi Jk ?_|refine Zn Hh Za Jk ?_|simp +decide only [reduceIte])
         exact⟨_,_,Yi,by simp [a1,a2,a3,a4],fun m hm=>by exact Yn⟩
       ·
        refine Ym Hh Tryz.f73 ?_
        have Jf:=@r16
        repeat (first|apply Z6|apply Qj|apply Yx|apply Ea|apply Yc|refine Goes.Zi Jk ?_|refine Zn Hh Za Jk ?_|simp +decide only [reduceIte])
        exact⟨_,_,Yi,by simp [a3],fun m hm=>by exact Yn⟩
      ·
       refine Ym Hh Tryz.f73 ?_
       have Jf:=@r16
       repeat (first|apply Z6|apply Qj|apply Yx|apply Ea|apply Yc|refine Goes.Zi Jk ?_|refine Zn Hh Za Jk ?_|simp +decide only [reduceIte])
       exact⟨_,_,Yi,by simp [a2],fun m hm=>by exact Yn⟩
     ·
      refine Ym Hh Tryz.f73 ?_
      have Jf:=@r16
      repeat (first|apply Z6|apply Qj|apply Yx|apply Ea|apply Yc|refine Goes.Zi Jk ?_|refine Zn Hh Za Jk ?_|simp +decide only [reduceIte])
      exact⟨_,_,Yi,by simp [a1],fun m hm=>by exact Yn⟩
    ·rw[decide_eq_false k0,decide_eq_false k2,decide_eq_false k1,cond_false,cond_false,cond_false]
     have b0:(k == 0)=false:=beq_eq_false_iff_ne.2 k0
     have b1:(k == 1)=false:=beq_eq_false_iff_ne.2 k1
     have b2:(k == 2)=false:=beq_eq_false_iff_ne.2 k2
     refine Ym Hh Tryz.f73 ?_
     have Jf:=J4 @r16 @b0 @b1 @b2
     repeat (first|apply Z6|apply Qj|apply Yx|apply Ea|apply Yc|refine Goes.Zi Jk ?_|refine Zn Hh Za Jk ?_|simp +decide only [reduceIte])
     exact⟨_,_,Yi,rfl,fun m hm=>by exact Yn⟩
 exact c.quiet rfl hk
end
def Zcs (ns:Lq) (p:Nat):Lq:=ns.take p++(List.replicate 64 0++ns.drop (p+64))
def Zi3 (ns:Lq) (a:Nat):Lq->Lq
 | []=>ns
 | v :: vs=>Zi3 (Jz ns a v) (a+4) vs
def Vg (ns:Lq) (a:Nat):Nat->Lq
 | 0=>[]
 | n+1=>Yk ns a :: Vg ns (a+4) n
def Ed (ns:Lq) (p k l g s:Nat) (ps:Lq) (nx:Nat):Lq :=
 Jz (Zi3 (Jz (Jz (G8 ((Zcs ns p).set p k) (p+2) l) (p+4) g) (p+8) s) (p+12) ps) (p+56) nx
theorem Ri (ns:Lq) (i j v:Nat) (h:i<ns.length):atN (ns.set i v) j=if j=i then v % 256 else atN ns j:=by
 unfold atN
 rw[List.getD_eq_getElem?_getD,List.getD_eq_getElem?_getD,List.getElem?_set]
 by_cases e:i=j
 ·subst e; rw[if_pos rfl,if_pos rfl,if_pos h]; rfl
 ·rw[if_neg e,if_neg (Ne.symm e)]
theorem Zmt (ns:Lq) (i j v:Nat) (h:i+2<=ns.length):atN (G8 ns i v) j=if j=i+1 then v / 256 % 256 else if j=i then v % 256 else atN ns j:=by
 unfold G8
 rw[Ri _ _ _ _ (by rw[List.length_set]; omega),Ri _ _ _ _ oM]
theorem Zcn (ns:Lq) (i j v:Nat) (h:i+4<=ns.length):atN (Jz ns i v) j=if j=i+3 then v / 256 / 256 / 256 % 256 else if j=i+2 then v / 256 / 256 % 256 else if j=i+1 then v / 256 % 256 else if j=i then v % 256 else atN ns j:=by
 unfold Jz
 rw[Ri _ _ _ _ (by simp only[List.length_set]; omega),Ri _ _ _ _ (by simp only[List.length_set]; omega),Ri _ _ _ _ (by simp only[List.length_set]; omega),Ri _ _ _ _ oM]
theorem Za4 (ns:Lq) (i v:Nat) (h:i+4<=ns.length) (hv:v<4294967296):Yk (Jz ns i v) i=v:=by
 unfold Yk
 rw[Zcn _ _ _ _ h,Zcn _ _ _ _ h,Zcn _ _ _ _ h,Zcn _ _ _ _ h]
 simp (discharger:=omega) only [if_neg,if_true]
 omega
theorem Zxx (ns:Lq) (i v:Nat) (h:i+2<=ns.length) (hv:v<65536):Ou (G8 ns i v) i=v:=by
 unfold Ou
 rw[Zmt _ _ _ _ h,Zmt _ _ _ _ h]
 simp (discharger:=omega) only [if_neg,if_true]
 omega
theorem Jy (ns:Lq) (i j v:Nat) (h:i+4<=ns.length) (d:j<i\/i+4<=j):atN (Jz ns i v) j=atN ns j:=by
 rw[Zcn _ _ _ _ h,if_neg oM,if_neg oM,if_neg oM,if_neg oM]
theorem Zb4 (ns:Lq) (i j v:Nat) (h:i+2<=ns.length) (d:j<i\/i+2<=j):atN (G8 ns i v) j=atN ns j:=by
 rw[Zmt _ _ _ _ h,if_neg oM,if_neg oM]
theorem Eh {ns ms:Lq} {i:Nat} (h:∀ j,i<=j->j<i+4->atN ms j=atN ns j):Yk ms i=Yk ns i:=by
 unfold Yk
 rw[h i oM oM,h (i+1) oM oM,h (i+2) oM oM,h (i+3) oM oM]
theorem Sb {ns ms:Lq} {i:Nat} (h:∀ j,i<=j->j<i+2->atN ms j=atN ns j):Ou ms i=Ou ns i:=by
 unfold Ou
 rw[h i oM oM,h (i+1) oM oM]
theorem Zh6 {ns ms:Lq}:∀ {n a:Nat},(∀ j,a<=j->j<a+4 * n->atN ms j=atN ns j)->Vg ms a n=Vg ns a n
 | 0,_,_=>rfl
 | n+1,a,h=>by
  unfold Vg
  rw[Eh fun j h1 h2=>h j h1 oM,Zh6 fun j h1 h2=>h j oM oM]
theorem Em:∀ (vs ns:Lq) (a:Nat),(Zi3 ns a vs).length=ns.length
 | [],_,_=>rfl
 | v :: vs,ns,a=>by
  unfold Zi3
  rw[Em vs,Yj]
theorem Ti:∀ (vs ns:Lq) (a j:Nat),a+4 * vs.length<=ns.length->j<a\/a+4 * vs.length<=j->atN (Zi3 ns a vs) j=atN ns j
 | [],_,_,_,_,_=>rfl
 | v :: vs,ns,a,j,h,d=>by
  unfold Zi3
  rw[List.length_cons] at h d
  rw[Ti vs _ _ _ (by rw[Yj]; omega) oM,Jy _ _ _ _ oM oM]
theorem Zlj:∀ (vs ns:Lq) (a:Nat),a+4 * vs.length<=ns.length->(∀ v∈vs,v<4294967296)->Vg (Zi3 ns a vs) a vs.length=vs
 | [],_,_,_,_=>rfl
 | v :: vs,ns,a,h,b=>by
  rw[List.length_cons] at h ⊢
  unfold Zi3 Vg
  rw[Zlj vs _ _ (by rw[Yj]; omega) fun v hv=>b v (List.mem_cons_of_mem _ hv),Eh (ns:=Jz ns a v) fun j h1 h2=>Ti _ _ _ _ (by rw[Yj]; omega) oM,Za4 _ _ _ oM (b v (List.mem_cons_self ..))]
theorem M0 {ns:Lq} {p:Nat} (h:p+64<=ns.length):(Zcs ns p).length=ns.length:=by
 unfold Zcs
 simp only[List.length_append,List.length_take,List.length_replicate,List.length_drop]
 omega
theorem Zzx {ns:Lq} {p:Nat} (h:p+64<=ns.length) (j:Nat):atN (Zcs ns p) j=if p<=j/\j<p+64 then 0 else atN ns j:=by
 unfold atN Zcs
 rw[List.getD_eq_getElem?_getD,List.getD_eq_getElem?_getD,List.getElem?_append,List.length_take,List.getElem?_append,List.length_replicate,Nat.min_eq_left oM]
 by_cases h1:j<p
 ·rw[if_pos h1,if_neg oM,List.getElem?_take_of_lt h1]
 ·rw[if_neg h1]
  by_cases h2:j<p+64
  ·rw[if_pos oM,if_pos oM,List.getElem?_replicate,if_pos oM]; rfl
  ·rw[if_neg oM,if_neg oM,List.getElem?_drop,show p+64+(j - p - 64)=j by omega]
theorem Zg5:∀ (n:Nat) (ns:Lq) (a:Nat),a+n<=ns.length->(Bv ns a n=true ↔ ∀ i,i<n->atN ns (a+i)=0)
 | 0,ns,a,_=>by
  unfold Bv
  rw[List.take_zero]
  exact⟨fun _ i hi=>absurd hi oM,fun _=>rfl⟩
 | n+1,ns,a,h=>by
  have ih:=Zg5 n ns (a+1) oM
  have e:Bv ns a (n+1)=(bif Nat.beq (atN ns a) 0 then Bv ns (a+1) n else false):=by
   unfold Bv
   rw[List.drop_eq_getElem_cons oM,List.take_succ_cons,List.map_cons]
   unfold atN
   rw[List.getD_eq_getElem?_getD,lG oM]
   rfl
  rw[e]
  cases hb:Nat.beq (atN ns a) 0 with
  | true =>
   have b:=bQ hb
   rw[cond_true,ih]
   refine⟨fun q i hi=>?_,fun q i hi=>?_⟩
   ·match i with
    | 0=>exact b
    | i+1=>have:=q i oM; rwa [show a+1+i=a+(i+1) by omega] at this
   ·have:=q (i+1) oM; rwa [show a+(i+1)=a+1+i by omega] at this
  | false =>
   rw[cond_false]
   refine⟨fun q=>by (cases q),fun q=>?_⟩
   have:=q 0 oM
   rw[Nat.add_zero] at this
   rw[this] at hb
   cases hb
theorem Zzj {ns ms:Lq} {a n:Nat} (l1:a+n<=ns.length) (l2:a+n<=ms.length) (h:∀ j,a<=j->j<a+n->atN ms j=atN ns j):Bv ms a n=Bv ns a n:=by
 rw[Bool.eq_iff_iff,Zg5 n ms a l2,Zg5 n ns a l1]
 exact⟨fun q i hi=>(h (a+i) oM oM).symm.trans (q i hi),fun q i hi=>(h (a+i) oM oM).trans (q i hi)⟩
theorem Zgt {ns:Lq} {p:Nat} (h:p+64<=ns.length) (k l g s nx:Nat) (ps:Lq):(Ed ns p k l g s ps nx).length=ns.length:=by
 unfold Ed
 rw[Yj,Em,Yj,Yj,Yz,List.length_set,M0 h]
section
variable {ns:Lq} {p k l g s nx:Nat} {ps:Lq}
theorem Zse (h:p+64<=ns.length) (pl:ps.length=11) {j:Nat} (d:j<p\/p+64<=j):atN (Ed ns p k l g s ps nx) j=atN ns j:=by
 have c:=M0 h
 unfold Ed
 rw[Jy _ _ _ _ (by simp only[Em,Yj,Yz,List.length_set,c]; omega) oM,
  Ti _ _ _ _ (by simp only[Yj,Yz,List.length_set,c]; omega) oM,
  Jy _ _ _ _ (by simp only[Yj,Yz,List.length_set,c]; omega) oM,
  Jy _ _ _ _ (by simp only[Yj,Yz,List.length_set,c]; omega) oM,
  Zb4 _ _ _ _ (by simp only[Yj,Yz,List.length_set,c]; omega) oM,
  Ri _ _ _ _ (by rw[c]; omega),if_neg oM,Zzx h,if_neg oM]
theorem Zfs (h:p+64<=ns.length) (pl:ps.length=11) {j:Nat} (d:j=p+1\/p+60<=j/\j<p+64):atN (Ed ns p k l g s ps nx) j=0:=by
 have c:=M0 h
 unfold Ed
 rw[Jy _ _ _ _ (by simp only[Em,Yj,Yz,List.length_set,c]; omega) oM,
  Ti _ _ _ _ (by simp only[Yj,Yz,List.length_set,c]; omega) oM,
  Jy _ _ _ _ (by simp only[Yj,Yz,List.length_set,c]; omega) oM,
  Jy _ _ _ _ (by simp only[Yj,Yz,List.length_set,c]; omega) oM,
  Zb4 _ _ _ _ (by simp only[Yj,Yz,List.length_set,c]; omega) oM,
  Ri _ _ _ _ (by rw[c]; omega),if_neg oM,Zzx h,if_pos oM]
theorem Zph (h:p+64<=ns.length) (pl:ps.length=11) (kl:k<256):atN (Ed ns p k l g s ps nx) p=k:=by
 have c:=M0 h
 unfold Ed
 rw[Jy _ _ _ _ (by simp only[Em,Yj,Yz,List.length_set,c]; omega) oM,
  Ti _ _ _ _ (by simp only[Yj,Yz,List.length_set,c]; omega) oM,
  Jy _ _ _ _ (by simp only[Yj,Yz,List.length_set,c]; omega) oM,
  Jy _ _ _ _ (by simp only[Yj,Yz,List.length_set,c]; omega) oM,
  Zb4 _ _ _ _ (by simp only[Yj,Yz,List.length_set,c]; omega) oM,
  Ri _ _ _ _ (by rw[c]; omega),if_pos rfl,Nat.mod_eq_of_lt kl]
theorem Zkj (h:p+64<=ns.length) (pl:ps.length=11) (ll:l<65536):Ou (Ed ns p k l g s ps nx) (p+2)=l:=by
 have c:=M0 h
 unfold Ed
 rw[Sb fun j h1 h2=>Jy _ _ _ _ (by simp only[Em,Yj,Yz,List.length_set,c]; omega) oM,
  Sb fun j h1 h2=>Ti _ _ _ _ (by simp only[Yj,Yz,List.length_set,c]; omega) oM,
  Sb fun j h1 h2=>Jy _ _ _ _ (by simp only[Yj,Yz,List.length_set,c]; omega) oM,
  Sb fun j h1 h2=>Jy _ _ _ _ (by simp only[Yj,Yz,List.length_set,c]; omega) oM,
  Zxx _ _ _ (by simp only[List.length_set,c]; omega) ll]
theorem Zqg (h:p+64<=ns.length) (pl:ps.length=11) (gl:g<4294967296):Yk (Ed ns p k l g s ps nx) (p+4)=g:=by
 have c:=M0 h
 unfold Ed
 rw[Eh fun j h1 h2=>Jy _ _ _ _ (by simp only[Em,Yj,Yz,List.length_set,c]; omega) oM,
  Eh fun j h1 h2=>Ti _ _ _ _ (by simp only[Yj,Yz,List.length_set,c]; omega) oM,
  Eh fun j h1 h2=>Jy _ _ _ _ (by simp only[Yj,Yz,List.length_set,c]; omega) oM,
  Za4 _ _ _ (by simp only[Yz,List.length_set,c]; omega) gl]
theorem Zno (h:p+64<=ns.length) (pl:ps.length=11) (sl:s<4294967296):Yk (Ed ns p k l g s ps nx) (p+8)=s:=by
 have c:=M0 h
 unfold Ed
 rw[Eh fun j h1 h2=>Jy _ _ _ _ (by simp only[Em,Yj,Yz,List.length_set,c]; omega) oM,
  Eh fun j h1 h2=>Ti _ _ _ _ (by simp only[Yj,Yz,List.length_set,c]; omega) oM,
  Za4 _ _ _ (by simp only[Yj,Yz,List.length_set,c]; omega) sl]
theorem Znn (h:p+64<=ns.length) (pl:ps.length=11) (pb:∀ v∈ps,v<4294967296):Vg (Ed ns p k l g s ps nx) (p+12) 11=ps:=by
 have c:=M0 h
 unfold Ed
 rw[Zh6 fun j h1 h2=>Jy _ _ _ _ (by simp only[Em,Yj,Yz,List.length_set,c]; omega) oM,<-pl]
 exact Zlj _ _ _ (by simp only[Yj,Yz,List.length_set,c]; omega) pb
theorem Znm (h:p+64<=ns.length) (pl:ps.length=11) (nl:nx<4294967296):Yk (Ed ns p k l g s ps nx) (p+56)=nx:=by
 have c:=M0 h
 unfold Ed
 rw[Za4 _ _ _ (by simp only[Em,Yj,Yz,List.length_set,c]; omega) nl]
end
def ino0:List C:=Ra 0 0 0 0 0 0 0 0 0 0 0 0 0 0 0 0
def Zm8 (ns:Lq) (p:Nat):List C:=Ra (atN ns p) (Ou ns (p+2)) (Yk ns (p+4)) (Yk ns (p+8)) (Yk ns (p+12)) (Yk ns (p+16)) (Yk ns (p+20)) (Yk ns (p+24)) (Yk ns (p+28)) (Yk ns (p+32)) (Yk ns (p+36)) (Yk ns (p+40)) (Yk ns (p+44)) (Yk ns (p+48)) (Yk ns (p+52)) (Yk ns (p+56))
def Zkh (ns:Lq) (p:Nat):Bool:=Ziq (atN ns p) (Ou ns (p+2)) (Yk ns (p+8)) (Yk ns (p+12)) (Yk ns (p+16)) (Yk ns (p+20)) (Yk ns (p+24)) (Yk ns (p+28)) (Yk ns (p+32)) (Yk ns (p+36)) (Yk ns (p+40)) (Yk ns (p+44)) (Yk ns (p+48)) (Yk ns (p+52)) (Yk ns (p+56))
def Ve (ns:Lq) (p:Nat):List C × Int:=bif Nat.beq (atN ns (p+1)) 0&&(Bv ns (p+60) 4&&Zkh ns p) then (Zm8 ns p,0) else (ino0,70)
theorem Zqn:ino0.length=16:=rfl
theorem Z0r (ns:Lq) (p:Nat):(Ve ns p).1.length=16:=by
 unfold Ve
 cases Nat.beq (atN ns (p+1)) 0&&(Bv ns (p+60) 4&&Zkh ns p)<;>rfl
theorem Zsn {ns ms:Lq} {p:Nat} (l1:p+64<=ns.length) (l2:p+64<=ms.length) (h:∀ j,p<=j->j<p+64->atN ms j=atN ns j):Ve ms p=Ve ns p:=by
 have w:∀ i,p<=i->i+4<=p+64->Yk ms i=Yk ns i:=fun i h1 h2=>Eh fun j q1 q2=>h j oM oM
 have e0:=h p oM oM
 have e1:=h (p+1) oM oM
 have e2:Ou ms (p+2)=Ou ns (p+2):=Sb fun j q1 q2=>h j oM oM
 have e3:Bv ms (p+60) 4=Bv ns (p+60) 4:=Zzj oM oM fun j q1 q2=>h j oM oM
 unfold Ve Zm8 Zkh
 simp (discharger:=omega) only [e0,e1,e2,e3,w]
theorem Z0q {ns:Lq} {p k l g s p0 p1 p2 p3 p4 p5 p6 p7 p8 p9 p10 nx:Nat} (h:p+64<=ns.length) (kl:k<256) (ll:l<65536) (gl:g<4294967296) (sl:s<4294967296) (pb:∀ v∈[p0,p1,p2,p3,p4,p5,p6,p7,p8,p9,p10],v<4294967296) (nl:nx<4294967296)
  (m:Ziq k l s p0 p1 p2 p3 p4 p5 p6 p7 p8 p9 p10 nx=true):Ve (Ed ns p k l g s [p0,p1,p2,p3,p4,p5,p6,p7,p8,p9,p10] nx) p=(Ra k l g s p0 p1 p2 p3 p4 p5 p6 p7 p8 p9 p10 nx,0):=by
 have pl:[p0,p1,p2,p3,p4,p5,p6,p7,p8,p9,p10].length=11:=rfl
 have e0:=Zph (l:=l) (g:=g) (s:=s) (nx:=nx) h pl kl
 have e1:=Zfs (k:=k) (l:=l) (g:=g) (s:=s) (nx:=nx) h pl (j:=p+1) (.inl rfl)
 have e2:=Zkj (k:=k) (g:=g) (s:=s) (nx:=nx) h pl ll
 have e3:=Zqg (k:=k) (l:=l) (s:=s) (nx:=nx) h pl gl
 have e4:=Zno (k:=k) (l:=l) (g:=g) (nx:=nx) h pl sl
 have e5:=Znn (k:=k) (l:=l) (g:=g) (s:=s) (nx:=nx) h pl pb
 have e6:=Znm (k:=k) (l:=l) (g:=g) (s:=s) h pl nl
 have e7:Bv (Ed ns p k l g s [p0,p1,p2,p3,p4,p5,p6,p7,p8,p9,p10] nx) (p+60) 4=true:=(Zg5 4 _ _ (by rw[Zgt h]; omega)).2 fun i hi=>Zfs h pl (.inr ⟨oM,oM⟩)
 obtain⟨E,hE⟩:=xzE (Ed ns p k l g s [p0,p1,p2,p3,p4,p5,p6,p7,p8,p9,p10] nx)
 rw[hE] at e0 e1 e2 e3 e4 e5 e6 e7 ⊢
 simp only[Vg,Nat.add_assoc,Nat.reduceAdd,List.cons.injEq] at e5
 obtain⟨q0,q1,q2,q3,q4,q5,q6,q7,q8,q9,q10,_⟩:=e5
 unfold Ve Zm8 Zkh
 rw[e0,e1,e2,e3,e4,e6,e7,q0,q1,q2,q3,q4,q5,q6,q7,q8,q9,q10,m]
 rfl
theorem Zp0 {ns:Lq} {p q k l g s nx:Nat} {ps:Lq} (h:p+64<=ns.length) (h2:q+64<=ns.length) (pl:ps.length=11) (d:q+64<=p\/p+64<=q):Ve (Ed ns p k l g s ps nx) q=Ve ns q :=
 Zsn h2 (by rw[Zgt h]; exact h2) fun j h1 h2=>Zse h pl oM
end
end Go.Proofs.YtmanipmhebgdbaaGreatDoor
