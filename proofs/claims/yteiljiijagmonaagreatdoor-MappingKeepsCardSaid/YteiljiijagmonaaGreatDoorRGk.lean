/- quernref05: what each block of a geometry is; what is asked of May, All, Data. -/
import Derived.Test.YteiljiijagmonaaGreatDoorWhat3
set_option maxRecDepth 100000
set_option linter.unusedSimpArgs false
set_option linter.unusedVariables false
set_option linter.unusedSectionVars false
namespace Go.Proofs.YteiljiijagmonaaGreatDoor
open Go.Ev
theorem Gg:K.types.get 52=some ti52:=kR
theorem La:ti52.size=4:=rfl
theorem Fx:ti52.agg=true:=rfl
theorem Zg8:Zm K 52 0=some (0,ti3):=kR
theorem Zkf:Zm K 52 1=some (1,ti3):=kR
theorem Ti:Zm K 52 2=some (2,ti3):=kR
theorem geo0 (a b c d:C):read1 4 [[a,b,c,d]] 0=some a:=rfl
theorem geo1 (a b c d:C):read1 4 [[a,b,c,d]] 1=some b:=rfl
theorem geo2 (a b c d:C):read1 4 [[a,b,c,d]] 2=some c:=rfl
theorem Ue:K.types.get 174=some ti174:=kR
theorem Ot:ti174.size=4:=rfl
def thing (k gr at' ino:Int):List C:=[.int .u8 k,.int .i64 gr,.int .i64 at',.int .i64 ino]
def jrL (i:Nat):List (List C):=[thing 1 0 0 0,thing 2 0 0 0]++(List.range i).map fun (j:Nat)=>thing 3 0 j 0
def inL (a ino c:Nat):List (List C):=(List.range c).map fun (k:Nat)=>thing 6 a ((2+k:Nat):Int) ((1+a * ino+4 * k:Nat):Int)
def daL (a ino d:Nat):List (List C):=(List.range d).map fun (k:Nat)=>thing 7 a ((2+ino / 4+k:Nat):Int) 0
def grL (sz ino a:Nat):List (List C):=[thing 4 a 0 0,thing 5 a 1 0]++inL a ino (ino / 4)++daL a ino (sz - (2+ino / 4))
def Xa (sz ino a:Nat):List (List C):=(List.range a).flatMap (grL sz ino)
def Dg (gr sz ino jr:Nat):List (List C):=jrL jr++Xa sz ino gr
theorem Z30 (i:Nat):(jrL i).length=2+i:=by simp [jrL]; omega
theorem Z3v (a ino c:Nat):(inL a ino c).length=c:=by simp [inL]
theorem Z3e (a ino d:Nat):(daL a ino d).length=d:=by simp [daL]
theorem Z3r {sz ino:Nat} (h:3+ino / 4<=sz) (a:Nat):(grL sz ino a).length=sz:=by simp [grL,Z3v,Z3e]; omega
theorem Zmi (sz ino a:Nat):Xa sz ino (a+1)=Xa sz ino a++grL sz ino a:=by simp [Xa,List.range_succ]
theorem Zo0 {sz ino:Nat} (h:3+ino / 4<=sz) (a:Nat):(Xa sz ino a).length=a * sz:=by
 induction a with
 | zero=>simp [Xa]
 | succ a ih=>rw[Zmi,List.length_append,ih,Z3r h,Nat.succ_mul]
theorem Ja:K.types.get 169=some ti169:=kR
theorem Ud:ti169.desc=.slice 174:=rfl
theorem Zaj:Zm K 174 0=some (0,ti5):=kR
theorem Zak:Zm K 174 1=some (1,ti3):=kR
theorem O6:Zm K 174 3=some (3,ti3):=kR
theorem N7 (n off len sz:Nat):Yx K 169 (.c (.slice n off len sz))=true:=by unfold Yx; rw[Ja]; rfl
def isD:List C->Bool
 | [.int _ k,.int _ a,_,_]=>k == 7&&a == 0
 | _=>false
def Mh (L:List (List C)):Nat:=(L.filter isD).length
def Zqx (L:List (List C)):Prop:=∀ x∈L,∃ k a b c:Int,x=thing k a b c
theorem Ze0 (gr sz ino jr:Nat):Zqx (Dg gr sz ino jr):=by
 intro l hl
 simp only[Dg,jrL,Xa,grL,inL,daL,List.mem_append,List.mem_flatMap,List.mem_map,List.mem_cons,List.not_mem_nil,or_false] at hl
 rcases hl with ((h|h)|⟨_,_,h⟩)|⟨_,_,((h|h)|⟨_,_,h⟩)|⟨_,_,h⟩⟩<;>subst h<;>exact⟨_,_,_,_,rfl⟩
structure RG (gr sz ino jr:Nat):Prop where
 may:∀ h:Hq,Zi 91 [.g (Jr gr sz ino jr)] h (.w (.c (.bool true))) h
 all:∀ h:Hq,Zi 92 [.g (Jr gr sz ino jr)] h (.w (.c (.slice h.next 0 (Dg gr sz ino jr).length 4))) (h.new (.row 4 (Dg gr sz ino jr) false))
 data:∀ h:Hq,Zi 93 [.g (Jr gr sz ino jr)] h (.w (.c (.int .i64 (Mh (Dg gr sz ino jr):Nat)))) h
section
variable (Hh:Hearts K Tryz.prog)
include Hh
noncomputable def xNo:Kn:=fun _ _ _=>none
omit Hh in
theorem Zs2:Zfk K Tryz.prog xNo:=fun _ _ _ _ _ e=>by cases e
theorem rgK:RG 4 60 8 40 :=
 ⟨fun h=>Zy.closed fits Hh Zs2 gl (n:=20000) kR rfl rfl h,fun h=>Zy.Z29 fits Hh Zs2 gl (n:=40000) (sz:=4) kR rfl h,fun h=>Zy.closed fits Hh Zs2 gl (n:=40000) kR rfl rfl h⟩
end
end Go.Proofs.YteiljiijagmonaaGreatDoor
