/- Bytes of a block: numbers put and got, sums, noughts. -/
import Derived.Test.YtmanipmhebgdbaaGreatDoorCrcX
set_option maxRecDepth 100000
set_option maxHeartbeats 4000000
set_option linter.unusedSimpArgs false
set_option linter.unusedVariables false
set_option linter.unusedSectionVars false
namespace Go.Proofs.YtmanipmhebgdbaaGreatDoor
open Go.Ev
noncomputable section
theorem ty73:K.types.get 73=some ti73:=kR
theorem sz73:ti73.size=1:=by rfl
theorem ag73:ti73.agg=false:=by rfl
theorem de73:ti73.desc=(.slice 5):=by rfl
theorem ze73:ti73.zero=(.c (.snil)):=by rfl
theorem el73:J9 K 73=some ti5:=kR
theorem ty271:K.types.get 271=some ti271:=kR
theorem de271:ti271.desc=(.int .u16):=by rfl
attribute [go_sem] ty73 sz73 ag73 de73 ze73 el73 ty271 de271
theorem rs235:Tryz.f235.results.toList=[.tmp 6]:=rfl
theorem rs272:Tryz.f272.results.toList=[.tmp 8]:=rfl
theorem rs223:Tryz.f223.results.toList=[.tmp 6]:=rfl
theorem rs222:Tryz.f222.results.toList=[.tmp 6]:=rfl
theorem rs163:Tryz.f163.results.toList=[.tmp 6,.tmp 7]:=rfl
theorem rs86:Tryz.f86.results.toList=[.tmp 4,.tmp 5]:=rfl
theorem rs164:Tryz.f164.results.toList=[.tmp 6,.tmp 7]:=rfl
theorem rs87:Tryz.f87.results.toList=[.tmp 4,.tmp 5]:=rfl
attribute [go_sem] rs235 rs272 rs223 rs222 rs163 rs86 rs164 rs87
def pgL (ns:Lq):List C:=ns.map fun n=>.int .u8 ((n % 256:Nat):Int)
def Yev:C->Nat
 | .int _ (.ofNat n)=>n
 | _=>0
def unN (x:List C):Lq:=x.map Yev
def byC:C->Bool
 | .int .u8 (.ofNat n)=>Nat.blt n 256
 | _=>false
def Zqe (x:List C):Bool:=x.all byC
def atN (ns:Lq) (i:Nat):Nat:=ns.getD i 0 % 256
def Om (ns:Lq) (i v:Nat):Lq:=(ns.set i v).set (i+1) (v / 256)
def Jr (ns:Lq) (i v:Nat):Lq:=(((ns.set i v).set (i+1) (v / 256)).set (i+2) (v / 256 / 256)).set (i+3) (v / 256 / 256 / 256)
def Oj (ns:Lq) (i:Nat):Nat:=atN ns i+256 * atN ns (i+1)
def Yj (ns:Lq) (i:Nat):Nat:=atN ns i+256 * (atN ns (i+1)+256 * (atN ns (i+2)+256 * atN ns (i+3)))
def Qs (ns:Lq):Nat:=Nat.xor 4294967295 (Zya ((ns.take 252).map (· % 256)) 4294967295)
def Bq (ns:Lq) (a n:Nat):Bool:=Zgw (((ns.drop a).take n).map (· % 256))
theorem Z6e {c:C} (h:byC c=true):∃ n,n<256/\c=.int .u8 ((n % 256:Nat):Int):=by
 unfold byC at h
 split at h
 ·rename_i n
  have hn:n<256:=by simpa [Nat.blt_eq] using h
  exact⟨n,hn,by rw[Nat.mod_eq_of_lt hn]; rfl⟩
 ·cases h
theorem Zg9:∀ {x:List C},Zqe x=true->∃ ns,x=pgL ns/\ns.length=x.length
 | [],_=>⟨[],rfl,rfl⟩
 | c :: x,h=>by
  have h':(byC c&&Zqe x)=true:=h
  rw[aQ] at h'
  obtain⟨n,_,e⟩:=Z6e h'.1
  obtain⟨ns,e2,e3⟩:=Zg9 h'.2
  exact⟨n :: ns,by rw[e,e2]; rfl,by rw[List.length_cons,List.length_cons,e3]⟩
theorem Ze0:∀ ns:Lq,Zqe (pgL ns)=true
 | []=>rfl
 | n :: ns=>by
  show (Nat.blt (n % 256) 256&&Zqe (pgL ns))=true
  rw[Ze0 ns,Bool.and_true]
  have:=Nat.mod_lt n (show 256 > 0 by omega)
  simpa [Nat.blt_eq] using this
theorem Wq:∀ ns:Lq,(pgL ns).all C.flat=true
 | []=>rfl
 | n :: ns=>Wq ns
theorem J3 (ns:Lq):(pgL ns).length=ns.length:=by simp [pgL]
theorem Y0 (ns:Lq) (i v:Nat):(Om ns i v).length=ns.length:=by simp [Om]
theorem Yi (ns:Lq) (i v:Nat):(Jr ns i v).length=ns.length:=by simp [Jr]
theorem Mi (ns:Lq) (i v:Nat):(pgL ns).set i (.int .u8 ((v % 256:Nat):Int))=pgL (ns.set i v):=by rw[pgL,pgL,List.map_set]
theorem Gp (ns:Lq):unN (pgL ns)=ns.map (· % 256):=by
 unfold unN pgL
 rw[List.map_map]
 rfl
theorem Zt2 (ns:Lq):pgL (ns.map (· % 256))=pgL ns:=by
 unfold pgL
 rw[List.map_map]
 refine List.map_congr_left fun n _=>?_
 show C.int .u8 ((n % 256 % 256:Nat):Int)=_
 rw[Nat.mod_mod]
theorem Zmg (ns:Lq) (i v:Nat):pgL ((ns.map (· % 256)).set i v)=pgL (ns.set i v):=by
 rw[<-Mi,Zt2,Mi]
theorem Zjp (ns:Lq) (i v:Nat):pgL (Om (ns.map (· % 256)) i v)=pgL (Om ns i v):=by
 unfold Om
 rw[<-Mi,Zmg,Mi]
theorem Xn (ns:Lq) (i v:Nat):pgL (Jr (ns.map (· % 256)) i v)=pgL (Jr ns i v):=by
 unfold Jr
 rw[<-Mi,<-Mi,<-Mi,Zmg,Mi,Mi,Mi]
theorem Z0u (ns:Lq) (i:Nat):atN (ns.map (· % 256)) i=atN ns i:=by
 unfold atN
 rw[List.getD_eq_getElem?_getD,List.getD_eq_getElem?_getD,List.getElem?_map]
 cases ns[i]? with
 | none=>rfl
 | some n=>show n % 256 % 256=n % 256; rw[Nat.mod_mod]
theorem Zah (ns:Lq) (i:Nat):Oj (ns.map (· % 256)) i=Oj ns i:=by simp only[Oj,Z0u]
theorem Xc (ns:Lq) (i:Nat):Yj (ns.map (· % 256)) i=Yj ns i:=by simp only[Yj,Z0u]
theorem Z2v (ns:Lq):(ns.map (· % 256)).map (· % 256)=ns.map (· % 256):=by
 rw[List.map_map]
 refine List.map_congr_left fun n _=>?_
 show n % 256 % 256=n % 256
 rw[Nat.mod_mod]
theorem Zba (ns:Lq):Qs (ns.map (· % 256))=Qs ns:=by
 unfold Qs
 rw[<-List.map_take,Z2v]
theorem Zew (ns:Lq) (a n:Nat):Bq (ns.map (· % 256)) a n=Bq ns a n:=by
 unfold Bq
 rw[<-List.map_drop,<-List.map_take,Z2v]
theorem Nn (ns:Lq) (i:Nat):atN ns i<256:=Nat.mod_lt _ oM
theorem Zn8 (ns:Lq) (i:Nat):Yj ns i<4294967296:=by
 have h1:=Nn ns i
 have h2:=Nn ns (i+1)
 have h3:=Nn ns (i+2)
 have h4:=Nn ns (i+3)
 unfold Yj
 omega
theorem Zn7 (ns:Lq) (i:Nat):Oj ns i<65536:=by
 have h1:=Nn ns i
 have h2:=Nn ns (i+1)
 unfold Oj
 omega
theorem Z1i (ns:Lq):Qs ns<4294967296:=Zpt oM (Znt oM fun b hb=>by
 obtain⟨n,_,rfl⟩:=List.mem_map.1 hb
 have:=Nat.mod_lt n (show 256 > 0 by omega)
 exact this)
theorem Ybg {ns:Lq} {i:Nat} (h:i<ns.length):(pgL ns)[i]? = some (.int .u8 ((atN ns i:Nat):Int)):=by
 unfold pgL atN
 rw[List.getElem?_map,List.getD_eq_getElem?_getD,List.getElem?_eq_getElem h]
 rfl
theorem Zrx {ns:Lq} {i:Nat} (h:i<256/\256<=ns.length):read1 256 [pgL ns] i=some (.int .u8 ((atN ns i:Nat):Int)):=by
 unfold read1
 rw[Nat.div_eq_of_lt h.1,Nat.mod_eq_of_lt h.1]
 exact Ybg oM
theorem Z83 {ns:Lq} {i v:Nat} (h:i<256/\256<=ns.length):Z0 256 [pgL ns] i [.int .u8 ((v % 256:Nat):Int)]=some [pgL (ns.set i v)]:=by
 simp only[Z0]
 rw[Nat.div_eq_of_lt h.1,Nat.mod_eq_of_lt h.1,List.getElem?_cons_zero]
 simp only[J3]
 rw[Zb5 oM,cond_true,Mi]
 rfl
theorem shr8 {v:Nat}:Zw4 .u32 (v:Int) 8=some (.int .u32 ((v / 256:Nat):Int)):=by
 show some (C.int .u32 ((v:Int).fdiv 256))=_
 rw[show (v:Int).fdiv 256=((v / 256:Nat):Int) by rw[Int.fdiv_eq_ediv_of_nonneg _ oM]; rfl]
theorem wr8 {v:Nat}:Jk .u8 (v:Int)=.int .u8 ((v % 256:Nat):Int):=by
 rw[Z4e]
 rfl
theorem shl8 {v:Nat} (h:v<16777216):Zas .u32 (v:Int) 8=some (.int .u32 ((v * 256:Nat):Int)):=by
 unfold Zas
 have e:min (8:Int).toNat IntKind.u32.bits=8:=rfl
 rw[e]
 show some (Jk .u32 ((v:Int) * 256))=_
 rw[Za2 oM]
 rfl
theorem Z2t {v b:Nat} (hb:b<256):Nat.lor (v * 256) b=b+256 * v:=by
 have:=Nat.two_pow_add_eq_or_of_lt (i:=8) hb v
 rw[show (2:Nat) ^ 8 * v=v * 256 by omega] at this
 show v * 256 ||| b=_
 omega
theorem or8 {v b:Nat} (h:v<16777216) (hb:b<256):Db .u32 Nat.lor ((v * 256:Nat):Int) (b:Int)=.int .u32 ((b+256 * v:Nat):Int):=by
 rw[Zs5 oM oM (by rw[Z2t hb]; omega),Z2t hb]
theorem sh16 {v:Nat} (h:v<256):Zas .u16 (v:Int) 8=some (.int .u16 ((v * 256:Nat):Int)):=by
 unfold Zas
 have e:min (8:Int).toNat IntKind.u16.bits=8:=rfl
 rw[e]
 show some (Jk .u16 ((v:Int) * 256))=_
 rw[Zka oM]
 rfl
theorem or16 {v b:Nat} (h:v<256) (hb:b<256):Db .u16 Nat.lor ((v * 256:Nat):Int) (b:Int)=.int .u16 ((b+256 * v:Nat):Int):=by
 have e1:(((v * 256:Nat):Int) % 2 ^ IntKind.bits .u16).toNat=v * 256:=by show (((v * 256:Nat):Int) % 65536).toNat=v * 256; omega
 have e2:((b:Int) % 2 ^ IntKind.bits .u16).toNat=b:=by show ((b:Int) % 65536).toNat=b; omega
 unfold Db
 rw[e1,e2,Z2t hb]
 exact Zka oM
def Li (h:Hq) (p:Nat):Option (List C):=match h.get p with
 | some (.row s [x] ro)=>Y5 (Nat.beq s 256&&!ro&&Nat.beq x.length 256&&Zqe x) (some x)
 | _=>none
theorem Z2y (n:Nat):U5 (no_index (@OfNat.ofNat Int n instOfNat))=some (@OfNat.ofNat Nat n (instOfNatNat n)):=by
 show U5 (n:Int)=some n
 exact Zjf n
theorem J8 {h:Hq} {p:Nat} {x:List C} (e:Li h p=some x):∃ ns,x=pgL ns/\ns.length=256/\h.get p=some (.row 256 [pgL ns] false):=by
 unfold Li at e
 split at e
 ·rename_i s y ro heq
  obtain⟨b,e⟩:=Zv.1 e
  cases e
  simp only[aQ,Bool.not_eq_true'] at b
  obtain⟨⟨⟨b1,rfl⟩,b3⟩,b4⟩:=b
  obtain rfl:=bQ b1
  obtain⟨ns,rfl,e2⟩:=Zg9 b4
  exact⟨ns,rfl,by rw[e2]; exact bQ b3,heq⟩
 ·cases e
def Zpq:Kn1:=fun args h=>match args with
 | [.c (.int .i64 n),.c (.int .i64 a),.c (.int .i64 s)]=>Y5 (decide (0<=n)&&decide (n<4096)&&decide (0<=a)&&decide (0<=s)&&decide (a+s<=n)) (some (.w (.c (.bool true)),h))
 | _=>none
def Zvf:Kn1:=fun args h=>match args with
 | [.c (.slice p off len 1),.c (.int .i64 a),.c (.int .u32 v)]=>(U5 a).bind fun a=>(U5 v).bind fun v=>(Li h p).bind fun x=>Y5 (decide (off+len<=256)&&decide (a+2<=len)&&decide (v<65536)) (some (.w (.c (.bool true)),h.put p (.row 256 [pgL (Om (unN x) (off+a) v)] false)))
 | _=>none
def Zvg:Kn1:=fun args h=>match args with
 | [.c (.slice p off len 1),.c (.int .i64 a),.c (.int .u32 v)]=>(U5 a).bind fun a=>(U5 v).bind fun v=>(Li h p).bind fun x=>Y5 (decide (off+len<=256)&&decide (a+4<=len)&&decide (v<4294967296)) (some (.w (.c (.bool true)),h.put p (.row 256 [pgL (Jr (unN x) (off+a) v)] false)))
 | _=>none
def Zux:Kn1:=fun args h=>match args with
 | [.c (.slice p off len 1),.c (.int .i64 a)]=>(U5 a).bind fun a=>(Li h p).bind fun x=>Y5 (decide (off+len<=256)&&decide (a+2<=len)) (some (.tup [.c (.int .u32 ((Oj (unN x) (off+a):Nat):Int)),.c (.bool true)],h))
 | _=>none
def Zuy:Kn1:=fun args h=>match args with
 | [.c (.slice p off len 1),.c (.int .i64 a)]=>(U5 a).bind fun a=>(Li h p).bind fun x=>Y5 (decide (off+len<=256)&&decide (a+4<=len)) (some (.tup [.c (.int .u32 ((Yj (unN x) (off+a):Nat):Int)),.c (.bool true)],h))
 | _=>none
def Z5a:Kn1:=fun args h=>match args with
 | [.c (.slice n 0 m 1)]=>match h.get n with
  | some (.row s [[.slice p 0 l z]] _)=>(Li h p).bind fun x=>Y5 (Nat.beq m 1&&Nat.beq s 1&&Nat.beq l 252&&Nat.beq z 1&&Lj (h.get 0)) (some (.w (.c (.int .u32 ((Qs (unN x):Nat):Int))),h))
  | _=>none
 | _=>none
def Yce:Kn1:=fun args h=>match args with
 | [.c (.slice p off len 1)]=>(Li h p).bind fun x=>Y5 (decide (off+len<=256)) (some (.w (.c (.bool (Bq (unN x) off len))),h))
 | _=>none
attribute [go_sem] J3 Y0 Yi Gp Zjp Xn Zah Xc Zba Zew Ze0 Li Zpq Zvf Zvg Zux Zuy Z5a Yce Zrx Z2y
theorem Zwz (p o l:Nat):Y3 K 73 (.c (.slice p o l 1))=true:=kR
attribute [go_sem] Zwz
theorem Z3y:Lj (some Ot)=true:=kR
attribute [go_sem] Z3y
theorem Holds.pg {h:Hq} {p off len:Nat} {ns:Lq} (hl:ns.length=256) (hp:h.get p=some (.row 256 [pgL ns] false)) (ho:off+len<=256):Holds h (.slice p off len 1) (((ns.drop off).take len).map (· % 256)):=by
 have e:(((ns.drop off).take len).map (· % 256)).length=len:=by rw[List.length_map,List.length_take,List.length_drop]; omega
 refine⟨p,off,_,by rw[e],hp,oM,fun j b hj=>?_⟩
 have jl:j<len:=by
  rcases Nat.lt_or_ge j len with h1|h1
  ·exact h1
  ·rw[List.getElem?_eq_none oM] at hj; cases hj
 have q:b=atN ns (off+j):=by
  rw[List.getElem?_map,List.getElem?_take_of_lt jl,List.getElem?_drop,List.getElem?_eq_getElem oM] at hj
  unfold atN
  rw[List.getD_eq_getElem?_getD,List.getElem?_eq_getElem oM]
  cases hj
  rfl
 subst q
 exact⟨Nn _ _,by rw[Zi,Zc3,cond_false,Zrx oM]; rfl⟩
section
variable (Hh:Hearts K Tryz.prog)
include Hh
theorem Tj {args:List W} {h h':Hq} {v:V} (e:Zpq args h=some (v,h')):Zb 235 args h v h':=by
 unfold Zpq at e
 split at e
 ·rename_i n a s
  obtain⟨b,e⟩:=Zv.1 e
  simp only[aQ,decide_eq_true_eq] at b
  obtain⟨⟨⟨⟨b1,b2⟩,b3⟩,b4⟩,b5⟩:=b
  cases e
  refine fnG Hh Tryz.f235 ?_
  repeat (first|apply Z6|apply Yc|refine Zo Hh Za Zf ?_)
  exact Zf
 ·cases e
theorem Yd1 {h:Hq} {p off len a v:Nat} {ns:Lq} (hl:ns.length=256) (hp:h.get p=some (.row 256 [pgL ns] false)) (h1:off+len<=256) (h2:a+2<=len):Zb 272 [.c (.slice p off len 1),.c (.int .i64 a),.c (.int .i64 2),.c (.int .u32 v)] h (.w (.c (.bool true))) (h.put p (.row 256 [pgL (Om ns (off+a) v)] false)):=by
 have e0:(a:Int)+0=(a:Int):=Int.add_zero _
 have e1:(a:Int)+1=((a+1:Nat):Int):=rfl
 have s1:=@shr8
 have w8:=@wr8
 have sl:=@List.length_set Nat
 have wp:=@Z83
 have pp:=@H.Zd8
 refine fnG Hh Tryz.f272 ?_
 have Jf:=Yu @hp @e0 @e1 @s1 @w8 @wp @sl @hl @pp
 repeat (first|apply Z6|apply Og|apply Ea|apply Yt|apply Bv|apply Yc|refine Goes.Zh Ut ?_|refine Zo Hh (EY Za (Tj Hh)) Ut ?_)
 simp (maxSteps:=9^6) +decide (disch:=first|exact dZ|fail) only [go_sem,Zn,Zi,simprocAttr,Om,pp]<;>rfl
theorem Yd2 {h:Hq} {p off len a v:Nat} {ns:Lq} (hl:ns.length=256) (hp:h.get p=some (.row 256 [pgL ns] false)) (h1:off+len<=256) (h2:a+4<=len):Zb 272 [.c (.slice p off len 1),.c (.int .i64 a),.c (.int .i64 4),.c (.int .u32 v)] h (.w (.c (.bool true))) (h.put p (.row 256 [pgL (Jr ns (off+a) v)] false)):=by
 have e0:(a:Int)+0=(a:Int):=Int.add_zero _
 have e1:(a:Int)+1=((a+1:Nat):Int):=rfl
 have e2:(a:Int)+2=((a+2:Nat):Int):=rfl
 have e3:(a:Int)+3=((a+3:Nat):Int):=rfl
 have s1:=@shr8
 have w8:=@wr8
 have sl:=@List.length_set Nat
 have wp:=@Z83
 have pp:=@H.Zd8
 refine fnG Hh Tryz.f272 ?_
 have Jf:=Ja @hp @e0 (Yu @e1 @e2 @e3 @s1 @w8 @wp @sl @hl @pp)
 repeat (first|apply Z6|apply Og|apply Ea|apply Yt|apply Bv|apply Yc|refine Goes.Zh Ut ?_|refine Zo Hh (EY Za (Tj Hh)) Ut ?_)
 simp (maxSteps:=9^6) +decide (disch:=first|exact dZ|fail) only [go_sem,Zn,Zi,simprocAttr,Jr,pp]<;>rfl
theorem Ydb {h:Hq} {p off len a:Nat} {ns:Lq} (hl:ns.length=256) (hp:h.get p=some (.row 256 [pgL ns] false)) (h1:off+len<=256) (h2:a+2<=len):Zb 163 [.c (.slice p off len 1),.c (.int .i64 a),.c (.int .i64 2)] h (.tup [.c (.int .u16 ((Oj ns (off+a):Nat):Int)),.c (.bool true)]) h:=by
 have e0:(a:Int)+0=(a:Int):=Int.add_zero _
 have e1:(a:Int)+1=((a+1:Nat):Int):=rfl
 have g:Oj ns (off+a)=atN ns (off+a)+256 * atN ns (off+(a+1)):=rfl
 obtain⟨b0,k0⟩:∃ b,atN ns (off+a)=b:=⟨_,rfl⟩
 obtain⟨b1,k1⟩:∃ b,atN ns (off+(a+1))=b:=⟨_,rfl⟩
 have l0:=Nn ns (off+a)
 have l1:=Nn ns (off+(a+1))
 rw[g,k0,k1]
 rw[k0] at l0
 rw[k1] at l1
 have s0:Zas .u16 0 8=some (.int .u16 0):=rfl
 have o0:Db .u16 Nat.lor 0 (b1:Int)=.int .u16 (b1:Int):=by
  have:=or16 (v:=0) oM l1
  rwa [Nat.mul_zero,Nat.add_zero] at this
 have s1:=sh16 l1
 have o1:=or16 l1 l0
 refine fnG Hh Tryz.f163 ?_
 have Jf:=Yy @hp (Yu @e0 @e1 @s0 @o0 @s1 @o1 @hl @k0 @k1)
 repeat (first|apply Z6|apply Og|apply Ea|apply Yt|apply Bv|apply Yc|refine Goes.Zh Ut ?_|refine Zo Hh (EY Za (Tj Hh)) Ut ?_)
 exact Zf
theorem Ydc {h:Hq} {p off len a:Nat} {ns:Lq} (hl:ns.length=256) (hp:h.get p=some (.row 256 [pgL ns] false)) (h1:off+len<=256) (h2:a+4<=len):Zb 164 [.c (.slice p off len 1),.c (.int .i64 a),.c (.int .i64 4)] h (.tup [.c (.int .u32 ((Yj ns (off+a):Nat):Int)),.c (.bool true)]) h:=by
 have e0:(a:Int)+0=(a:Int):=Int.add_zero _
 have e1:(a:Int)+1=((a+1:Nat):Int):=rfl
 have e2:(a:Int)+2=((a+2:Nat):Int):=rfl
 have e3:(a:Int)+3=((a+3:Nat):Int):=rfl
 have g:Yj ns (off+a)=atN ns (off+a)+256 * (atN ns (off+(a+1))+256 * (atN ns (off+(a+2))+256 * atN ns (off+(a+3)))):=rfl
 obtain⟨b0,k0⟩:∃ b,atN ns (off+a)=b:=⟨_,rfl⟩
 obtain⟨b1,k1⟩:∃ b,atN ns (off+(a+1))=b:=⟨_,rfl⟩
 obtain⟨b2,k2⟩:∃ b,atN ns (off+(a+2))=b:=⟨_,rfl⟩
 obtain⟨b3,k3⟩:∃ b,atN ns (off+(a+3))=b:=⟨_,rfl⟩
 have l0:=Nn ns (off+a)
 have l1:=Nn ns (off+(a+1))
 have l2:=Nn ns (off+(a+2))
 have l3:=Nn ns (off+(a+3))
 rw[g,k0,k1,k2,k3]
 rw[k0] at l0
 rw[k1] at l1
 rw[k2] at l2
 rw[k3] at l3
 have s0:Zas .u32 0 8=some (.int .u32 0):=rfl
 have o0:Db .u32 Nat.lor 0 (b3:Int)=.int .u32 (b3:Int):=by
  have:=or8 (v:=0) oM l3
  rwa [Nat.mul_zero,Nat.add_zero] at this
 have s1:=shl8 (v:=b3) oM
 have o1:=or8 (v:=b3) oM l2
 have s2:=shl8 (v:=b2+256 * b3) oM
 have o2:=or8 (v:=b2+256 * b3) oM l1
 have s3:=shl8 (v:=b1+256 * (b2+256 * b3)) oM
 have o3:=or8 (v:=b1+256 * (b2+256 * b3)) oM l0
 refine fnG Hh Tryz.f164 ?_
 have Jf:=Yy @hp (Yu @e0 @e1 @e2 @e3 @s0 @o0 @s1 @o1 (Yu @s2 @o2 @s3 @o3 @hl @k0 @k1 @k2 @k3))
 repeat (first|apply Z6|apply Og|apply Ea|apply Yt|apply Bv|apply Yc|refine Goes.Zh Ut ?_|refine Zo Hh (EY Za (Tj Hh)) Ut ?_)
 exact Zf
theorem Zm4 {args:List W} {h h':Hq} {v:V} (e:Zvf args h=some (v,h')):Zb 223 args h v h':=by
 unfold Zvf at e
 split at e
 ·rename_i p off len a0 v0
  obtain⟨a,ha,e⟩:=Zk e
  obtain⟨v,hv,e⟩:=Zk e
  obtain⟨x,hx,e⟩:=Zk e
  obtain⟨ns,rfl,hl,hp⟩:=J8 hx
  obtain⟨b,e⟩:=Zv.1 e
  simp only[aQ,decide_eq_true_eq] at b
  obtain⟨⟨b1,b2⟩,b3⟩:=b
  cases e
  rw[Yb ha,Yb hv,Gp,Zjp]
  have c1:=Yd1 Hh hl hp b1 b2 (v:=v)
  refine fnG Hh Tryz.f223 ?_
  iterate 8 (first|apply Z6|apply Yt|refine Goes.Zh Zf ?_|refine Zo Hh Za Zf ?_)
  iterate 2 (first|apply Yc|refine Zo Hh (Zj Za c1) Zf ?_)
  exact Zf
 ·cases e
theorem Zf3 {args:List W} {h h':Hq} {v:V} (e:Zvg args h=some (v,h')):Zb 222 args h v h':=by
 unfold Zvg at e
 split at e
 ·rename_i p off len a0 v0
  obtain⟨a,ha,e⟩:=Zk e
  obtain⟨v,hv,e⟩:=Zk e
  obtain⟨x,hx,e⟩:=Zk e
  obtain⟨ns,rfl,hl,hp⟩:=J8 hx
  obtain⟨b,e⟩:=Zv.1 e
  simp only[aQ,decide_eq_true_eq] at b
  obtain⟨⟨b1,b2⟩,b3⟩:=b
  cases e
  rw[Yb ha,Yb hv,Gp,Xn]
  have c1:=Yd2 Hh hl hp b1 b2 (v:=v)
  refine fnG Hh Tryz.f222 ?_
  iterate 3 (first|apply Z6|refine Zo Hh Za Zf ?_)
  iterate 2 (first|apply Yc|refine Zo Hh (Zj Za c1) Zf ?_)
  exact Zf
 ·cases e
theorem Zmx {args:List W} {h h':Hq} {v:V} (e:Zux args h=some (v,h')):Zb 86 args h v h':=by
 unfold Zux at e
 split at e
 ·rename_i p off len a0
  obtain⟨a,ha,e⟩:=Zk e
  obtain⟨x,hx,e⟩:=Zk e
  obtain⟨ns,rfl,hl,hp⟩:=J8 hx
  obtain⟨b,e⟩:=Zv.1 e
  simp only[aQ,decide_eq_true_eq] at b
  obtain⟨b1,b2⟩:=b
  cases e
  rw[Yb ha,Gp,Zah]
  have c1:=Ydb Hh hl hp b1 b2
  have g2:=Zn7 ns (off+a)
  obtain⟨g,hg⟩:=xzE (Oj ns (off+a))
  rw[hg] at c1 g2 ⊢
  refine fnG Hh Tryz.f86 ?_
  iterate 3 (first|apply Z6|refine Zo Hh Za Zf ?_)
  iterate 4 (first|apply Z6|apply Yc|refine Zo Hh (Zj Za c1) Zf ?_)
  exact Zf
 ·cases e
theorem Mo {args:List W} {h h':Hq} {v:V} (e:Zuy args h=some (v,h')):Zb 87 args h v h':=by
 unfold Zuy at e
 split at e
 ·rename_i p off len a0
  obtain⟨a,ha,e⟩:=Zk e
  obtain⟨x,hx,e⟩:=Zk e
  obtain⟨ns,rfl,hl,hp⟩:=J8 hx
  obtain⟨b,e⟩:=Zv.1 e
  simp only[aQ,decide_eq_true_eq] at b
  obtain⟨b1,b2⟩:=b
  cases e
  rw[Yb ha,Gp,Xc]
  have c1:=Ydc Hh hl hp b1 b2
  refine fnG Hh Tryz.f87 ?_
  iterate 3 (first|apply Z6|refine Zo Hh Za Zf ?_)
  iterate 2 (first|apply Yc|refine Zo Hh (Zj Za c1) Zf ?_)
  exact Zf
 ·cases e
theorem Z5b {args:List W} {h h':Hq} {v:V} (e:Z5a args h=some (v,h')):Zb 317 args h v h':=by
 unfold Z5a at e
 split at e
 ·rename_i n m
  split at e
  ·rename_i s p l z ro heq
   obtain⟨x,hx,e⟩:=Zk e
   obtain⟨ns,rfl,hl,hp⟩:=J8 hx
   obtain⟨b,e⟩:=Zv.1 e
   cases e
   simp only[aQ] at b
   obtain⟨⟨⟨⟨b1,b2⟩,b3⟩,b4⟩,b5⟩:=b
   obtain rfl:=bQ b1
   obtain rfl:=bQ b2
   obtain rfl:=bQ b3
   obtain rfl:=bQ b4
   rw[Gp,Zba]
   exact Z9f Hh h n [.slice p 0 252 1] ro [((ns.drop 0).take 252).map (· % 256)] heq (Fq b5) rfl (by show 1<4294967296; decide) fun j l hj=>by
    match j with
    | 0=>cases hj; exact⟨_,rfl,Holds.pg hl hp oM⟩
    | j+1=>simp at hj
  ·cases e
 ·cases e
theorem Zby {args:List W} {h h':Hq} {v:V} (e:Yce args h=some (v,h')):Zb 85 args h v h':=by
 unfold Yce at e
 split at e
 ·rename_i p off len
  obtain⟨x,hx,e⟩:=Zk e
  obtain⟨ns,rfl,hl,hp⟩:=J8 hx
  obtain⟨b,e⟩:=Zv.1 e
  cases e
  rw[Gp,Zew]
  exact Z5n Hh h _ _ (Holds.pg hl hp (of_decide_eq_true b))
 ·cases e
end
theorem ty41:K.types.get 41=some ti41:=kR
theorem sz41:ti41.size=11:=by rfl
theorem ag41:ti41.agg=true:=by rfl
theorem de41:ti41.desc=(.array 11 40):=by rfl
theorem ty43:K.types.get 43=some ti43:=kR
theorem sz43:ti43.size=16:=by rfl
theorem ag43:ti43.agg=true:=by rfl
theorem fo43_0:Zw K 43 0=some (0,ti5):=kR
theorem fo43_1:Zw K 43 1=some (1,ti3):=kR
theorem fo43_2:Zw K 43 2=some (2,ti40):=kR
theorem fo43_3:Zw K 43 3=some (3,ti3):=kR
theorem fo43_4:Zw K 43 4=some (4,ti41):=kR
theorem fo43_5:Zw K 43 5=some (15,ti40):=kR
theorem bu43 (ps:List (Nat × W)):Yq K 43 (some ps)=gW (Yh K 43 ps ti43.zero.cells):=kR
theorem ze43:ti43.zero=(.g ([.int .u8 0,.int .i64 0,.int .u32 0,.int .i64 0,.int .u32 0,.int .u32 0,.int .u32 0,.int .u32 0,.int .u32 0,.int .u32 0,.int .u32 0,.int .u32 0,.int .u32 0,.int .u32 0,.int .u32 0,.int .u32 0])):=by rfl
attribute [go_sem] ty41 sz41 ag41 de41 ty43 sz43 ag43 fo43_0 fo43_1 fo43_2 fo43_3 fo43_4 fo43_5 bu43 ze43
theorem rs73:Tryz.f73.results.toList=[.tmp 2]:=rfl
theorem rs84:Tryz.f84.results.toList=[.tmp 2]:=rfl
attribute [go_sem] rs73 rs84
def Rf (k l g s p0 p1 p2 p3 p4 p5 p6 p7 p8 p9 p10 nx:Int):List C:=[.int .u8 k,.int .i64 l,.int .u32 g,.int .i64 s,.int .u32 p0,.int .u32 p1,.int .u32 p2,.int .u32 p3,.int .u32 p4,.int .u32 p5,.int .u32 p6,.int .u32 p7,.int .u32 p8,.int .u32 p9,.int .u32 p10,.int .u32 nx]
def Lm (l s:Int):Bool:=decide (0<=l)&&decide (l<=1000)&&decide (0<=s)&&decide (s<=16777216)
def Z9u (l s p0 p1 p2 p3 p4 p5 p6 p7 p8 p9 p10 nx:Int):Bool:=l == 0&&(s == 0&&((p0 == 0&&(p1 == 0&&(p2 == 0&&(p3 == 0&&(p4 == 0&&(p5 == 0&&(p6 == 0&&(p7 == 0&&(p8 == 0&&(p9 == 0&&(p10 == 0&&true)))))))))))&&(nx == 0&&true)))
def Zg1 (k l s p0 p1 p2 p3 p4 p5 p6 p7 p8 p9 p10 nx:Int):Bool :=
 bif decide (k=0) then Z9u l s p0 p1 p2 p3 p4 p5 p6 p7 p8 p9 p10 nx
 else bif decide (k=2) then decide (l=1)&&decide (s % 256=0)&&decide (nx=0)&&Lm l s
 else bif decide (k=1) then Lm l s else false
def Zkm:Kn1:=fun args h=>match args with
 | [.c (.int .i64 z)]=>some (.w (.c (.bool (decide (z=0\/z=64\/z=128\/z=192)))),h)
 | _=>none
attribute [go_sem] Zkm
def mB (b:Bool) (r:Option Bool):Option Bool:=match some b with
 | some true=>r
 | r'=>r'
def mO (o:Option Bool) (r:Option Bool):Option Bool:=match o with
 | some true=>r
 | r'=>r'
theorem Z7f (b x:Bool):mB b (some x)=some (b&&x):=by cases b<;>rfl
theorem Z7i (b x:Bool):mO (some b) (some x)=some (b&&x):=by cases b<;>rfl
theorem Eg (k:IntKind) (a:Int) (x y:List C) (r:Bool) (h:Jc x y=some r):Jc (.int k a :: x) (.int k 0 :: y)=some (a == 0&&r):=by
 simp only[Jc,if_true,h]
 cases (a == 0)<;>rfl
theorem Yc9 (k l g s p0 p1 p2 p3 p4 p5 p6 p7 p8 p9 p10 nx:Int):eqT K 20 43 (.g (Rf k l g s p0 p1 p2 p3 p4 p5 p6 p7 p8 p9 p10 nx)) (.g (Rf 0 0 g 0 0 0 0 0 0 0 0 0 0 0 0 0))=some (k == 0&&(l == 0&&(s == 0&&((p0 == 0&&(p1 == 0&&(p2 == 0&&(p3 == 0&&(p4 == 0&&(p5 == 0&&(p6 == 0&&(p7 == 0&&(p8 == 0&&(p9 == 0&&(p10 == 0&&true)))))))))))&&(nx == 0&&true))))):=by
 have e1:eqT K 20 43 (.g (Rf k l g s p0 p1 p2 p3 p4 p5 p6 p7 p8 p9 p10 nx)) (.g (Rf 0 0 g 0 0 0 0 0 0 0 0 0 0 0 0 0))=mB (k == 0) (mB (l == 0) (mB (g == g) (mB (s == 0) (mO (Jc [.int .u32 p0,.int .u32 p1,.int .u32 p2,.int .u32 p3,.int .u32 p4,.int .u32 p5,.int .u32 p6,.int .u32 p7,.int .u32 p8,.int .u32 p9,.int .u32 p10] [.int .u32 0,.int .u32 0,.int .u32 0,.int .u32 0,.int .u32 0,.int .u32 0,.int .u32 0,.int .u32 0,.int .u32 0,.int .u32 0,.int .u32 0]) (mB (nx == 0) (some true)))))):=kR
 rw[e1]
 have e2:Jc [C.int .u32 p0,C.int .u32 p1,C.int .u32 p2,C.int .u32 p3,C.int .u32 p4,C.int .u32 p5,C.int .u32 p6,C.int .u32 p7,C.int .u32 p8,C.int .u32 p9,C.int .u32 p10] [C.int .u32 0,C.int .u32 0,C.int .u32 0,C.int .u32 0,C.int .u32 0,C.int .u32 0,C.int .u32 0,C.int .u32 0,C.int .u32 0,C.int .u32 0,C.int .u32 0]=some _:=Eg _ _ _ _ _ (Eg _ _ _ _ _ (Eg _ _ _ _ _ (Eg _ _ _ _ _ (Eg _ _ _ _ _ (Eg _ _ _ _ _ (Eg _ _ _ _ _ (Eg _ _ _ _ _ (Eg _ _ _ _ _ (Eg _ _ _ _ _ (Eg _ _ _ _ _ (rfl)))))))))))
 rw[e2]
 simp only[beq_self_eq_true,Z7f,Z7i,Bool.true_and]
section
variable (Hh:Hearts K Tryz.prog)
include Hh
theorem Vh {args:List W} {h h':Hq} {v:V} (e:Zkm args h=some (v,h')):Zb 84 args h v h':=by
 unfold Zkm at e
 split at e
 ·rename_i z
  cases e
  by_cases z0:0<=z
  ·by_cases z1:z<256
   ·obtain⟨n,rfl⟩:=Int.eq_ofNat_of_zero_le z0
    have rm:Rj .i64 (n:Int) 64=some (.int .i64 ((n % 64:Nat):Int)):=Ff (b:=64) oM
    by_cases z2:n % 64=0
    ·rw[decide_eq_true (show (n:Int)=0\/(n:Int)=64\/(n:Int)=128\/(n:Int)=192 by omega)]
     refine fnG Hh Tryz.f84 ?_
     have Jf:=Yy @rm @z2
     repeat (first|apply Z6|apply Yc|refine Zo Hh Za Zm ?_)
     exact Zf
    ·rw[decide_eq_false (show ¬((n:Int)=0\/(n:Int)=64\/(n:Int)=128\/(n:Int)=192) by omega)]
     have z3:(((n % 64:Nat):Int) == 0)=false:=beq_eq_false_iff_ne.2 oM
     refine fnG Hh Tryz.f84 ?_
     have Jf:=Yy @rm @z3
     repeat (first|apply Z6|apply Yc|refine Zo Hh Za Zm ?_)
     exact Zf
   ·rw[decide_eq_false (show ¬(z=0\/z=64\/z=128\/z=192) by omega)]
    refine fnG Hh Tryz.f84 ?_
    repeat (first|apply Z6|apply Yc|refine Zo Hh Za Zf ?_)
    exact Zf
  ·rw[decide_eq_false (show ¬(z=0\/z=64\/z=128\/z=192) by omega)]
   refine fnG Hh Tryz.f84 ?_
   repeat (first|apply Z6|apply Yc|refine Zo Hh Za Zf ?_)
   exact Zf
 ·cases e
theorem Zof (k l g s p0 p1 p2 p3 p4 p5 p6 p7 p8 p9 p10 nx:Int) (h:Hq):Zb 73 [.g [.int .u8 k,.int .i64 l,.int .u32 g,.int .i64 s,.int .u32 p0,.int .u32 p1,.int .u32 p2,.int .u32 p3,.int .u32 p4,.int .u32 p5,.int .u32 p6,.int .u32 p7,.int .u32 p8,.int .u32 p9,.int .u32 p10,.int .u32 nx]] h (.w (.c (.bool (Zg1 k l s p0 p1 p2 p3 p4 p5 p6 p7 p8 p9 p10 nx)))) h:=by
 have r16:∀ k,Zn 16 [[.int .u8 k,.int .i64 l,.int .u32 g,.int .i64 s,.int .u32 p0,.int .u32 p1,.int .u32 p2,.int .u32 p3,.int .u32 p4,.int .u32 p5,.int .u32 p6,.int .u32 p7,.int .u32 p8,.int .u32 p9,.int .u32 p10,.int .u32 nx]] 0 16=some [.int .u8 k,.int .i64 l,.int .u32 g,.int .i64 s,.int .u32 p0,.int .u32 p1,.int .u32 p2,.int .u32 p3,.int .u32 p4,.int .u32 p5,.int .u32 p6,.int .u32 p7,.int .u32 p8,.int .u32 p9,.int .u32 p10,.int .u32 nx]:=fun _=>rfl
 obtain⟨v,h',c,rfl,hk⟩:∃ v h',Zb 73 [.g [.int .u8 k,.int .i64 l,.int .u32 g,.int .i64 s,.int .u32 p0,.int .u32 p1,.int .u32 p2,.int .u32 p3,.int .u32 p4,.int .u32 p5,.int .u32 p6,.int .u32 p7,.int .u32 p8,.int .u32 p9,.int .u32 p10,.int .u32 nx]] h v h'/\v=.w (.c (.bool (Zg1 k l s p0 p1 p2 p3 p4 p5 p6 p7 p8 p9 p10 nx)))/\∀ m,m<h.next->h'.get m=h.get m:=by
  unfold Zg1
  by_cases k0:k=0
  ·subst k0
   have q:=Yc9 0 l g s p0 p1 p2 p3 p4 p5 p6 p7 p8 p9 p10 nx
   simp only[Rf] at q
   refine Yk Hh Tryz.f73 ?_
   have Jf:=Yy @r16 @q
   repeat (first|apply Z6|apply Qv|apply Yt|apply Bv|apply Yc|refine Goes.Zh Jl ?_|refine Zo Hh Za Jl ?_|simp +decide only [reduceIte])
   exact⟨_,_,Yn,by simp [Z9u],fun m hm=>by exact Ym⟩
  ·by_cases k2:k=2
   ·subst k2
    rw[decide_eq_false oM,decide_eq_true rfl,cond_false,cond_true]
    by_cases l1:l=1
    ·subst l1
     by_cases s0:0<=s
     ·obtain⟨z,rfl⟩:=Int.eq_ofNat_of_zero_le s0
      have rm:Rj .i64 (z:Int) 256=some (.int .i64 ((z % 256:Nat):Int)):=Ff (b:=256) oM
      have em:((z:Int) % 256)=((z % 256:Nat):Int):=rfl
      rw[em]
      by_cases z2:z % 256=0
      ·by_cases n0:nx=0
       ·subst n0
        by_cases z3:z<=16777216
        ·
         refine Yk Hh Tryz.f73 ?_
         have Jf:=Ja @r16 @rm @z2
         repeat (first|apply Z6|apply Qv|apply Yt|apply Bv|apply Yc|refine Goes.Zh Jl ?_|refine Zo Hh Za Jl ?_|simp +decide only [reduceIte])
         exact⟨_,_,Yn,by simp [Lm,z2]; omega,fun m hm=>by exact Ym⟩
        ·
         refine Yk Hh Tryz.f73 ?_
         have Jf:=Ja @r16 @rm @z2
         repeat (first|apply Z6|apply Qv|apply Yt|apply Bv|apply Yc|refine Goes.Zh Jl ?_|refine Zo Hh Za Jl ?_|simp +decide only [reduceIte])
         exact⟨_,_,Yn,by simp [Lm,z2]; omega,fun m hm=>by exact Ym⟩
       ·
        refine Yk Hh Tryz.f73 ?_
        have Jf:=J6 @r16 @rm @z2 @n0
        repeat (first|apply Z6|apply Qv|apply Yt|apply Bv|apply Yc|refine Goes.Zh Jl ?_|refine Zo Hh Za Jl ?_|simp +decide only [reduceIte])
        exact⟨_,_,Yn,by simp [n0],fun m hm=>by exact Ym⟩
      ·have z3:(((z % 256:Nat):Int) == 0)=false:=beq_eq_false_iff_ne.2 oM
       have z4:(((z % 256:Nat):Int) != 0)=true:=by rw[bne,z3]; rfl
       refine Yk Hh Tryz.f73 ?_
       have Jf:=Ja @r16 @rm @z4
       repeat (first|apply Z6|apply Qv|apply Yt|apply Bv|apply Yc|refine Goes.Zh Jl ?_|refine Zo Hh Za Jl ?_|simp +decide only [reduceIte])
       exact⟨_,_,Yn,by rw[decide_eq_false (show ¬(((z % 256:Nat):Int)=0) by omega)]; rfl,fun m hm=>by exact Ym⟩
     ·have rm:Rj .i64 s 256=some (.int .i64 (s.tmod 256)):=rfl
      have mf:Lm 1 s=false:=by unfold Lm; rw[decide_eq_false s0]; rfl
      rw[mf,Bool.and_false]
      by_cases z2:s.tmod 256=0
      ·by_cases n0:nx=0
       ·subst n0
        refine Yk Hh Tryz.f73 ?_
        have Jf:=Ja @r16 @rm @z2
        repeat (first|apply Z6|apply Qv|apply Yt|apply Bv|apply Yc|refine Goes.Zh Jl ?_|refine Zo Hh Za Jl ?_|simp +decide only [reduceIte])
        exact⟨_,_,Yn,rfl,fun m hm=>by exact Ym⟩
       ·
        refine Yk Hh Tryz.f73 ?_
        have Jf:=J6 @r16 @rm @z2 @n0
        repeat (first|apply Z6|apply Qv|apply Yt|apply Bv|apply Yc|refine Goes.Zh Jl ?_|refine Zo Hh Za Jl ?_|simp +decide only [reduceIte])
        exact⟨_,_,Yn,rfl,fun m hm=>by exact Ym⟩
      ·have z4:(s.tmod 256 != 0)=true:=by rw[bne,beq_eq_false_iff_ne.2 z2]; rfl
       refine Yk Hh Tryz.f73 ?_
       have Jf:=Ja @r16 @rm @z4
       repeat (first|apply Z6|apply Qv|apply Yt|apply Bv|apply Yc|refine Goes.Zh Jl ?_|refine Zo Hh Za Jl ?_|simp +decide only [reduceIte])
       exact⟨_,_,Yn,rfl,fun m hm=>by exact Ym⟩
    ·have l2:(l != 1)=true:=by rw[bne,beq_eq_false_iff_ne.2 l1]; rfl
     rw[decide_eq_false l1]
     refine Yk Hh Tryz.f73 ?_
     have Jf:=Yy @r16 @l2
     repeat (first|apply Z6|apply Qv|apply Yt|apply Bv|apply Yc|refine Goes.Zh Jl ?_|refine Zo Hh Za Jl ?_|simp +decide only [reduceIte])
     exact⟨_,_,Yn,rfl,fun m hm=>by exact Ym⟩
   ·by_cases k1:k=1
    ·subst k1
     rw[decide_eq_false oM,decide_eq_false oM,decide_eq_true rfl,cond_false,cond_false,cond_true]
     unfold Lm
     by_cases a1:0<=l
     ·by_cases a2:l<=1000
      ·by_cases a3:0<=s
       ·by_cases a4:s<=16777216
        all_goals
         refine Yk Hh Tryz.f73 ?_
         have Jf:=@r16
         repeat (first|apply Z6|apply Qv|apply Yt|apply Bv|apply Yc|refine Goes.Zh Jl ?_|refine Zo Hh Za Jl ?_|simp +decide only [reduceIte])
         exact⟨_,_,Yn,by simp [a1,a2,a3,a4],fun m hm=>by exact Ym⟩
       ·
        refine Yk Hh Tryz.f73 ?_
        have Jf:=@r16
        repeat (first|apply Z6|apply Qv|apply Yt|apply Bv|apply Yc|refine Goes.Zh Jl ?_|refine Zo Hh Za Jl ?_|simp +decide only [reduceIte])
        exact⟨_,_,Yn,by simp [a3],fun m hm=>by exact Ym⟩
      ·
       refine Yk Hh Tryz.f73 ?_
       have Jf:=@r16
       repeat (first|apply Z6|apply Qv|apply Yt|apply Bv|apply Yc|refine Goes.Zh Jl ?_|refine Zo Hh Za Jl ?_|simp +decide only [reduceIte])
       exact⟨_,_,Yn,by simp [a2],fun m hm=>by exact Ym⟩
     ·
      refine Yk Hh Tryz.f73 ?_
      have Jf:=@r16
      repeat (first|apply Z6|apply Qv|apply Yt|apply Bv|apply Yc|refine Goes.Zh Jl ?_|refine Zo Hh Za Jl ?_|simp +decide only [reduceIte])
      exact⟨_,_,Yn,by simp [a1],fun m hm=>by exact Ym⟩
    ·rw[decide_eq_false k0,decide_eq_false k2,decide_eq_false k1,cond_false,cond_false,cond_false]
     have b0:(k == 0)=false:=beq_eq_false_iff_ne.2 k0
     have b1:(k == 1)=false:=beq_eq_false_iff_ne.2 k1
     have b2:(k == 2)=false:=beq_eq_false_iff_ne.2 k2
     refine Yk Hh Tryz.f73 ?_
     have Jf:=J6 @r16 @b0 @b1 @b2
     repeat (first|apply Z6|apply Qv|apply Yt|apply Bv|apply Yc|refine Goes.Zh Jl ?_|refine Zo Hh Za Jl ?_|simp +decide only [reduceIte])
     exact⟨_,_,Yn,rfl,fun m hm=>by exact Ym⟩
 exact c.quiet rfl hk
end
def Zde (ns:Lq) (p:Nat):Lq:=ns.take p++(List.replicate 64 0++ns.drop (p+64))
def Zjq (ns:Lq) (a:Nat):Lq->Lq
 | []=>ns
 | v :: vs=>Zjq (Jr ns a v) (a+4) vs
def Vn (ns:Lq) (a:Nat):Nat->Lq
 | 0=>[]
 | n+1=>Yj ns a :: Vn ns (a+4) n
def Ee (ns:Lq) (p k l g s:Nat) (ps:Lq) (nx:Nat):Lq :=
 Jr (Zjq (Jr (Jr (Om ((Zde ns p).set p k) (p+2) l) (p+4) g) (p+8) s) (p+12) ps) (p+56) nx
theorem Ro (ns:Lq) (i j v:Nat) (h:i<ns.length):atN (ns.set i v) j=if j=i then v % 256 else atN ns j:=by
 unfold atN
 rw[List.getD_eq_getElem?_getD,List.getD_eq_getElem?_getD,List.getElem?_set]
 by_cases e:i=j
 ·subst e; rw[if_pos rfl,if_pos rfl,if_pos h]; rfl
 ·rw[if_neg e,if_neg (Ne.symm e)]
theorem Znf (ns:Lq) (i j v:Nat) (h:i+2<=ns.length):atN (Om ns i v) j=if j=i+1 then v / 256 % 256 else if j=i then v % 256 else atN ns j:=by
 unfold Om
 rw[Ro _ _ _ _ (by rw[List.length_set]; omega),Ro _ _ _ _ oM]
theorem Zc8 (ns:Lq) (i j v:Nat) (h:i+4<=ns.length):atN (Jr ns i v) j=if j=i+3 then v / 256 / 256 / 256 % 256 else if j=i+2 then v / 256 / 256 % 256 else if j=i+1 then v / 256 % 256 else if j=i then v % 256 else atN ns j:=by
 unfold Jr
 rw[Ro _ _ _ _ (by simp only[List.length_set]; omega),Ro _ _ _ _ (by simp only[List.length_set]; omega),Ro _ _ _ _ (by simp only[List.length_set]; omega),Ro _ _ _ _ oM]
theorem Zbh (ns:Lq) (i v:Nat) (h:i+4<=ns.length) (hv:v<4294967296):Yj (Jr ns i v) i=v:=by
 unfold Yj
 rw[Zc8 _ _ _ _ h,Zc8 _ _ _ _ h,Zc8 _ _ _ _ h,Zc8 _ _ _ _ h]
 simp (discharger:=omega) only [if_neg,if_true]
 omega
theorem Zyo (ns:Lq) (i v:Nat) (h:i+2<=ns.length) (hv:v<65536):Oj (Om ns i v) i=v:=by
 unfold Oj
 rw[Znf _ _ _ _ h,Znf _ _ _ _ h]
 simp (discharger:=omega) only [if_neg,if_true]
 omega
theorem Jz (ns:Lq) (i j v:Nat) (h:i+4<=ns.length) (d:j<i\/i+4<=j):atN (Jr ns i v) j=atN ns j:=by
 rw[Zc8 _ _ _ _ h,if_neg oM,if_neg oM,if_neg oM,if_neg oM]
theorem Zcl (ns:Lq) (i j v:Nat) (h:i+2<=ns.length) (d:j<i\/i+2<=j):atN (Om ns i v) j=atN ns j:=by
 rw[Znf _ _ _ _ h,if_neg oM,if_neg oM]
theorem Ei {ns ms:Lq} {i:Nat} (h:∀ j,i<=j->j<i+4->atN ms j=atN ns j):Yj ms i=Yj ns i:=by
 unfold Yj
 rw[h i oM oM,h (i+1) oM oM,h (i+2) oM oM,h (i+3) oM oM]
theorem Sm {ns ms:Lq} {i:Nat} (h:∀ j,i<=j->j<i+2->atN ms j=atN ns j):Oj ms i=Oj ns i:=by
 unfold Oj
 rw[h i oM oM,h (i+1) oM oM]
theorem Ziv {ns ms:Lq}:∀ {n a:Nat},(∀ j,a<=j->j<a+4 * n->atN ms j=atN ns j)->Vn ms a n=Vn ns a n
 | 0,_,_=>rfl
 | n+1,a,h=>by
  unfold Vn
  rw[Ei fun j h1 h2=>h j h1 oM,Ziv fun j h1 h2=>h j oM oM]
theorem Eo:∀ (vs ns:Lq) (a:Nat),(Zjq ns a vs).length=ns.length
 | [],_,_=>rfl
 | v :: vs,ns,a=>by
  unfold Zjq
  rw[Eo vs,Yi]
theorem Tq:∀ (vs ns:Lq) (a j:Nat),a+4 * vs.length<=ns.length->j<a\/a+4 * vs.length<=j->atN (Zjq ns a vs) j=atN ns j
 | [],_,_,_,_,_=>rfl
 | v :: vs,ns,a,j,h,d=>by
  unfold Zjq
  rw[List.length_cons] at h d
  rw[Tq vs _ _ _ (by rw[Yi]; omega) oM,Jz _ _ _ _ oM oM]
theorem Zl3:∀ (vs ns:Lq) (a:Nat),a+4 * vs.length<=ns.length->(∀ v∈vs,v<4294967296)->Vn (Zjq ns a vs) a vs.length=vs
 | [],_,_,_,_=>rfl
 | v :: vs,ns,a,h,b=>by
  rw[List.length_cons] at h ⊢
  unfold Zjq Vn
  rw[Zl3 vs _ _ (by rw[Yi]; omega) fun v hv=>b v (List.mem_cons_of_mem _ hv),Ei (ns:=Jr ns a v) fun j h1 h2=>Tq _ _ _ _ (by rw[Yi]; omega) oM,Zbh _ _ _ oM (b v (List.mem_cons_self ..))]
theorem M4 {ns:Lq} {p:Nat} (h:p+64<=ns.length):(Zde ns p).length=ns.length:=by
 unfold Zde
 simp only[List.length_append,List.length_take,List.length_replicate,List.length_drop]
 omega
theorem Z0t {ns:Lq} {p:Nat} (h:p+64<=ns.length) (j:Nat):atN (Zde ns p) j=if p<=j/\j<p+64 then 0 else atN ns j:=by
 unfold atN Zde
 rw[List.getD_eq_getElem?_getD,List.getD_eq_getElem?_getD,List.getElem?_append,List.length_take,List.getElem?_append,List.length_replicate,Nat.min_eq_left oM]
 by_cases h1:j<p
 ·rw[if_pos h1,if_neg oM,List.getElem?_take_of_lt h1]
 ·rw[if_neg h1]
  by_cases h2:j<p+64
  ·rw[if_pos oM,if_pos oM,List.getElem?_replicate,if_pos oM]; rfl
  ·rw[if_neg oM,if_neg oM,List.getElem?_drop,show p+64+(j - p - 64)=j by omega]
theorem Zhs:∀ (n:Nat) (ns:Lq) (a:Nat),a+n<=ns.length->(Bq ns a n=true ↔ ∀ i,i<n->atN ns (a+i)=0)
 | 0,ns,a,_=>by
  unfold Bq
  rw[List.take_zero]
  exact⟨fun _ i hi=>absurd hi oM,fun _=>rfl⟩
 | n+1,ns,a,h=>by
  have ih:=Zhs n ns (a+1) oM
  have e:Bq ns a (n+1)=(bif Nat.beq (atN ns a) 0 then Bq ns (a+1) n else false):=by
   unfold Bq
   rw[List.drop_eq_getElem_cons oM,List.take_succ_cons,List.map_cons]
   unfold atN
   rw[List.getD_eq_getElem?_getD,List.getElem?_eq_getElem oM]
   rfl
  rw[e]
  cases hb:Nat.beq (atN ns a) 0 with
  | true =>
   have b:=bQ hb
   rw[cond_true,ih]
   refine⟨fun q i hi=>?_,fun q i hi=>?_⟩
   ·match i with
    | 0=>exact b
    | i+1=>have:=q i oM; rwa [show a+1+i=a+(i+1) by omega] at this
   ·have:=q (i+1) oM; rwa [show a+(i+1)=a+1+i by omega] at this
  | false =>
   rw[cond_false]
   refine⟨fun q=>by (cases q),fun q=>?_⟩
   have:=q 0 oM
   rw[Nat.add_zero] at this
   rw[this] at hb
   cases hb
theorem Z0e {ns ms:Lq} {a n:Nat} (l1:a+n<=ns.length) (l2:a+n<=ms.length) (h:∀ j,a<=j->j<a+n->atN ms j=atN ns j):Bq ms a n=Bq ns a n:=by
 rw[Bool.eq_iff_iff,Zhs n ms a l2,Zhs n ns a l1]
 exact⟨fun q i hi=>(h (a+i) oM oM).symm.trans (q i hi),fun q i hi=>(h (a+i) oM oM).trans (q i hi)⟩
theorem Zhg {ns:Lq} {p:Nat} (h:p+64<=ns.length) (k l g s nx:Nat) (ps:Lq):(Ee ns p k l g s ps nx).length=ns.length:=by
 unfold Ee
 rw[Yi,Eo,Yi,Yi,Y0,List.length_set,M4 h]
section
variable {ns:Lq} {p k l g s nx:Nat} {ps:Lq}
theorem Zs1 (h:p+64<=ns.length) (pl:ps.length=11) {j:Nat} (d:j<p\/p+64<=j):atN (Ee ns p k l g s ps nx) j=atN ns j:=by
 have c:=M4 h
 unfold Ee
 rw[Jz _ _ _ _ (by simp only[Eo,Yi,Y0,List.length_set,c]; omega) oM,
  Tq _ _ _ _ (by simp only[Yi,Y0,List.length_set,c]; omega) oM,
  Jz _ _ _ _ (by simp only[Yi,Y0,List.length_set,c]; omega) oM,
  Jz _ _ _ _ (by simp only[Yi,Y0,List.length_set,c]; omega) oM,
  Zcl _ _ _ _ (by simp only[Yi,Y0,List.length_set,c]; omega) oM,
  Ro _ _ _ _ (by rw[c]; omega),if_neg oM,Z0t h,if_neg oM]
theorem Zgc (h:p+64<=ns.length) (pl:ps.length=11) {j:Nat} (d:j=p+1\/p+60<=j/\j<p+64):atN (Ee ns p k l g s ps nx) j=0:=by
 have c:=M4 h
 unfold Ee
 rw[Jz _ _ _ _ (by simp only[Eo,Yi,Y0,List.length_set,c]; omega) oM,
  Tq _ _ _ _ (by simp only[Yi,Y0,List.length_set,c]; omega) oM,
  Jz _ _ _ _ (by simp only[Yi,Y0,List.length_set,c]; omega) oM,
  Jz _ _ _ _ (by simp only[Yi,Y0,List.length_set,c]; omega) oM,
  Zcl _ _ _ _ (by simp only[Yi,Y0,List.length_set,c]; omega) oM,
  Ro _ _ _ _ (by rw[c]; omega),if_neg oM,Z0t h,if_pos oM]
theorem Zp5 (h:p+64<=ns.length) (pl:ps.length=11) (kl:k<256):atN (Ee ns p k l g s ps nx) p=k:=by
 have c:=M4 h
 unfold Ee
 rw[Jz _ _ _ _ (by simp only[Eo,Yi,Y0,List.length_set,c]; omega) oM,
  Tq _ _ _ _ (by simp only[Yi,Y0,List.length_set,c]; omega) oM,
  Jz _ _ _ _ (by simp only[Yi,Y0,List.length_set,c]; omega) oM,
  Jz _ _ _ _ (by simp only[Yi,Y0,List.length_set,c]; omega) oM,
  Zcl _ _ _ _ (by simp only[Yi,Y0,List.length_set,c]; omega) oM,
  Ro _ _ _ _ (by rw[c]; omega),if_pos rfl,Nat.mod_eq_of_lt kl]
theorem Zk6 (h:p+64<=ns.length) (pl:ps.length=11) (ll:l<65536):Oj (Ee ns p k l g s ps nx) (p+2)=l:=by
 have c:=M4 h
 unfold Ee
 rw[Sm fun j h1 h2=>Jz _ _ _ _ (by simp only[Eo,Yi,Y0,List.length_set,c]; omega) oM,
  Sm fun j h1 h2=>Tq _ _ _ _ (by simp only[Yi,Y0,List.length_set,c]; omega) oM,
  Sm fun j h1 h2=>Jz _ _ _ _ (by simp only[Yi,Y0,List.length_set,c]; omega) oM,
  Sm fun j h1 h2=>Jz _ _ _ _ (by simp only[Yi,Y0,List.length_set,c]; omega) oM,
  Zyo _ _ _ (by simp only[List.length_set,c]; omega) ll]
theorem Zq4 (h:p+64<=ns.length) (pl:ps.length=11) (gl:g<4294967296):Yj (Ee ns p k l g s ps nx) (p+4)=g:=by
 have c:=M4 h
 unfold Ee
 rw[Ei fun j h1 h2=>Jz _ _ _ _ (by simp only[Eo,Yi,Y0,List.length_set,c]; omega) oM,
  Ei fun j h1 h2=>Tq _ _ _ _ (by simp only[Yi,Y0,List.length_set,c]; omega) oM,
  Ei fun j h1 h2=>Jz _ _ _ _ (by simp only[Yi,Y0,List.length_set,c]; omega) oM,
  Zbh _ _ _ (by simp only[Y0,List.length_set,c]; omega) gl]
theorem Zob (h:p+64<=ns.length) (pl:ps.length=11) (sl:s<4294967296):Yj (Ee ns p k l g s ps nx) (p+8)=s:=by
 have c:=M4 h
 unfold Ee
 rw[Ei fun j h1 h2=>Jz _ _ _ _ (by simp only[Eo,Yi,Y0,List.length_set,c]; omega) oM,
  Ei fun j h1 h2=>Tq _ _ _ _ (by simp only[Yi,Y0,List.length_set,c]; omega) oM,
  Zbh _ _ _ (by simp only[Yi,Y0,List.length_set,c]; omega) sl]
theorem Zoa (h:p+64<=ns.length) (pl:ps.length=11) (pb:∀ v∈ps,v<4294967296):Vn (Ee ns p k l g s ps nx) (p+12) 11=ps:=by
 have c:=M4 h
 unfold Ee
 rw[Ziv fun j h1 h2=>Jz _ _ _ _ (by simp only[Eo,Yi,Y0,List.length_set,c]; omega) oM,<-pl]
 exact Zl3 _ _ _ (by simp only[Yi,Y0,List.length_set,c]; omega) pb
theorem Zn9 (h:p+64<=ns.length) (pl:ps.length=11) (nl:nx<4294967296):Yj (Ee ns p k l g s ps nx) (p+56)=nx:=by
 have c:=M4 h
 unfold Ee
 rw[Zbh _ _ _ (by simp only[Eo,Yi,Y0,List.length_set,c]; omega) nl]
end
def ino0:List C:=Rf 0 0 0 0 0 0 0 0 0 0 0 0 0 0 0 0
def Znv (ns:Lq) (p:Nat):List C:=Rf (atN ns p) (Oj ns (p+2)) (Yj ns (p+4)) (Yj ns (p+8)) (Yj ns (p+12)) (Yj ns (p+16)) (Yj ns (p+20)) (Yj ns (p+24)) (Yj ns (p+28)) (Yj ns (p+32)) (Yj ns (p+36)) (Yj ns (p+40)) (Yj ns (p+44)) (Yj ns (p+48)) (Yj ns (p+52)) (Yj ns (p+56))
def Zk4 (ns:Lq) (p:Nat):Bool:=Zg1 (atN ns p) (Oj ns (p+2)) (Yj ns (p+8)) (Yj ns (p+12)) (Yj ns (p+16)) (Yj ns (p+20)) (Yj ns (p+24)) (Yj ns (p+28)) (Yj ns (p+32)) (Yj ns (p+36)) (Yj ns (p+40)) (Yj ns (p+44)) (Yj ns (p+48)) (Yj ns (p+52)) (Yj ns (p+56))
def Vl (ns:Lq) (p:Nat):List C × Int:=bif Nat.beq (atN ns (p+1)) 0&&(Bq ns (p+60) 4&&Zk4 ns p) then (Znv ns p,0) else (ino0,70)
theorem Zrb:ino0.length=16:=rfl
theorem Z1p (ns:Lq) (p:Nat):(Vl ns p).1.length=16:=by
 unfold Vl
 cases Nat.beq (atN ns (p+1)) 0&&(Bq ns (p+60) 4&&Zk4 ns p)<;>rfl
theorem Zs8 {ns ms:Lq} {p:Nat} (l1:p+64<=ns.length) (l2:p+64<=ms.length) (h:∀ j,p<=j->j<p+64->atN ms j=atN ns j):Vl ms p=Vl ns p:=by
 have w:∀ i,p<=i->i+4<=p+64->Yj ms i=Yj ns i:=fun i h1 h2=>Ei fun j q1 q2=>h j oM oM
 have e0:=h p oM oM
 have e1:=h (p+1) oM oM
 have e2:Oj ms (p+2)=Oj ns (p+2):=Sm fun j q1 q2=>h j oM oM
 have e3:Bq ms (p+60) 4=Bq ns (p+60) 4:=Z0e oM oM fun j q1 q2=>h j oM oM
 unfold Vl Znv Zk4
 simp (discharger:=omega) only [e0,e1,e2,e3,w]
theorem Z1o {ns:Lq} {p k l g s p0 p1 p2 p3 p4 p5 p6 p7 p8 p9 p10 nx:Nat} (h:p+64<=ns.length) (kl:k<256) (ll:l<65536) (gl:g<4294967296) (sl:s<4294967296) (pb:∀ v∈[p0,p1,p2,p3,p4,p5,p6,p7,p8,p9,p10],v<4294967296) (nl:nx<4294967296)
  (m:Zg1 k l s p0 p1 p2 p3 p4 p5 p6 p7 p8 p9 p10 nx=true):Vl (Ee ns p k l g s [p0,p1,p2,p3,p4,p5,p6,p7,p8,p9,p10] nx) p=(Rf k l g s p0 p1 p2 p3 p4 p5 p6 p7 p8 p9 p10 nx,0):=by
 have pl:[p0,p1,p2,p3,p4,p5,p6,p7,p8,p9,p10].length=11:=rfl
 have e0:=Zp5 (l:=l) (g:=g) (s:=s) (nx:=nx) h pl kl
 have e1:=Zgc (k:=k) (l:=l) (g:=g) (s:=s) (nx:=nx) h pl (j:=p+1) (.inl rfl)
 have e2:=Zk6 (k:=k) (g:=g) (s:=s) (nx:=nx) h pl ll
 have e3:=Zq4 (k:=k) (l:=l) (s:=s) (nx:=nx) h pl gl
 have e4:=Zob (k:=k) (l:=l) (g:=g) (nx:=nx) h pl sl
 have e5:=Zoa (k:=k) (l:=l) (g:=g) (s:=s) (nx:=nx) h pl pb
 have e6:=Zn9 (k:=k) (l:=l) (g:=g) (s:=s) h pl nl
 have e7:Bq (Ee ns p k l g s [p0,p1,p2,p3,p4,p5,p6,p7,p8,p9,p10] nx) (p+60) 4=true:=(Zhs 4 _ _ (by rw[Zhg h]; omega)).2 fun i hi=>Zgc h pl (.inr ⟨oM,oM⟩)
 obtain⟨E,hE⟩:=xzE (Ee ns p k l g s [p0,p1,p2,p3,p4,p5,p6,p7,p8,p9,p10] nx)
 rw[hE] at e0 e1 e2 e3 e4 e5 e6 e7 ⊢
 simp only[Vn,Nat.add_assoc,Nat.reduceAdd,List.cons.injEq] at e5
 obtain⟨q0,q1,q2,q3,q4,q5,q6,q7,q8,q9,q10,_⟩:=e5
 unfold Vl Znv Zk4
 rw[e0,e1,e2,e3,e4,e6,e7,q0,q1,q2,q3,q4,q5,q6,q7,q8,q9,q10,m]
 rfl
theorem Zqo {ns:Lq} {p q k l g s nx:Nat} {ps:Lq} (h:p+64<=ns.length) (h2:q+64<=ns.length) (pl:ps.length=11) (d:q+64<=p\/p+64<=q):Vl (Ee ns p k l g s ps nx) q=Vl ns q :=
 Zs8 h2 (by rw[Zhg h]; exact h2) fun j h1 h2=>Zs1 h pl oM
end
end Go.Proofs.YtmanipmhebgdbaaGreatDoor
