/- The reference model of validity. No condition. -/
import Derived.Test.YtmhcoofnnmiejaaGreatDoorTyA
set_option linter.all false
open List Go.IntKind
namespace Go.Proofs.YtmhcoofnnmiejaaGreatDoor
open Go.Sim
variable {w:List Str} {lo:Int} {hi:Int} {j:Int}
def QFj {g:List Int} (c:w.length<=1000000) (d:g.length<=1000000):decide (i64.wrap ((w.length:Int)+(g.length:Int))>0)=!(decide (w=[])&&decide (g=[])):=by
 rw[w64 (by omega) (by omega)]
 cases w with
 | nil=>cases g with
  | nil=>rfl
  | cons b g=>simp
 | cons a w=>simp;omega
def Qy9 {f:Qe} (c:f.Words.length<=1000000) (d:f.Xf.length<=1000000):QfX f=some (QaN f):=by
 have e1:=QFj c d;have hp:=QBA c d;unfold QfX;rw[e1,hp];clear e1 hp c d;obtain⟨n,o,u,k,lo,hi,w,g⟩:=f;simp only[QbZ,Qj0,Za];have ne:∀s:Str,(s !=([]:Str))=!(s==[]):=λs=>rfl;have b:∀a:Int,(a !=0)=!(a==0):=λa=>rfl;by_cases h:k=0
 ·subst h;have e:QaN ⟨n,o,u,0,lo,hi,w,g⟩=((QX n&&(((((o==[])&&(u==[]))&&(hi==0))&&decide (w=[]))&&decide (g=[])))&&inW lo (-1048576) 1048576):=by
   unfold QaN QdB Qdl QdC;simp
  rw[e];simp only[ne,b];cases QX n<;>cases (o==[])<;>cases (u==[])<;>cases (hi==0)<;>cases decide (w=[])<;>cases decide (g=[])<;>rfl
 by_cases i:k=1
 ·subst i;have e:QaN ⟨n,o,u,1,lo,hi,w,g⟩=((QX n&&(((u==[])&&decide (w=[]))&&decide (g=[])))&&(QX o&&QeG lo hi 0 65536)):=by
   unfold QaN QdB Qdl QdC;simp
  rw[e];simp only[ne,b];cases QX n<;>cases (u==[])<;>cases decide (w=[])<;>cases decide (g=[])<;>cases QX o<;>rfl
 by_cases l:k=2
 ·subst l;have e:QaN ⟨n,o,u,2,lo,hi,w,g⟩=((QX n&&((((o==[])&&(u==[]))&&decide (w=[]))&&decide (g=[])))&&QeG lo hi (-1048576) 1048576):=by
   unfold QaN QdB Qdl QdC;simp
  rw[e];simp only[ne,b];cases QX n<;>cases (o==[])<;>cases (u==[])<;>cases decide (w=[])<;>cases decide (g=[])<;>rfl
 by_cases m:k=3
 ·subst m;have e:QaN ⟨n,o,u,3,lo,hi,w,g⟩=((QX n&&((((o==[])&&(u==[]))&&(lo==0))&&(hi==0)))&&Qi9 w g):=by
   unfold QaN QdB Qdl QdC;simp
  rw[e];simp only[ne,b];cases QX n<;>cases (o==[])<;>cases (u==[])<;>cases (lo==0)<;>cases (hi==0)<;>rfl
 by_cases p:k=4
 ·subst p;have e:QaN ⟨n,o,u,4,lo,hi,w,g⟩=((QX n&&(((u==[])&&decide (w=[]))&&decide (g=[])))&&(((o==[])||QX o)&&QeG lo hi (-1048576) 1048576)):=by
   unfold QaN QdB Qdl QdC;simp
  rw[e];simp only[ne,b];cases QX n<;>cases (u==[])<;>cases decide (w=[])<;>cases decide (g=[])<;>cases QX o<;>cases (o==[])<;>rfl
 by_cases q:k=5
 ·subst q;have e:QaN ⟨n,o,u,5,lo,hi,w,g⟩=((QX n&&(((u==[])&&decide (w=[]))&&decide (g=[])))&&(QX o&&QeG lo hi 0 32)):=by
   unfold QaN QdB Qdl QdC;simp
  rw[e];simp only[ne,b];cases QX n<;>cases (u==[])<;>cases decide (w=[])<;>cases decide (g=[])<;>cases QX o<;>rfl
 by_cases r:k=6
 ·subst r;have e:QaN ⟨n,o,u,6,lo,hi,w,g⟩=((QX n&&(((((u==[])&&(lo==0))&&(hi==0))&&decide (w=[]))&&decide (g=[])))&&QX o):=by
   unfold QaN QdB Qdl QdC;simp
  rw[e];simp only[ne,b];cases QX n<;>cases (u==[])<;>cases (lo==0)<;>cases (hi==0)<;>cases decide (w=[])<;>cases decide (g=[])<;>cases QX o<;>rfl
 by_cases t:k=7
 ·subst t;have e:QaN ⟨n,o,u,7,lo,hi,w,g⟩=((QX n&&(decide (w=[])&&decide (g=[])))&&((QX o&&QX u)&&QeG lo hi 0 1048576)):=by
   unfold QaN QdB Qdl QdC;simp
  rw[e];simp only[ne,b];cases QX n<;>cases decide (w=[])<;>cases decide (g=[])<;>cases QX o<;>cases QX u<;>rfl
 by_cases v:k=8
 ·subst v;have e:QaN ⟨n,o,u,8,lo,hi,w,g⟩=((QX n&&((((lo==0)&&(hi==0))&&decide (w=[]))&&decide (g=[])))&&(QX o&&QX u)):=by
   unfold QaN QdB Qdl QdC;simp
  rw[e];simp only[ne,b];cases QX n<;>cases (lo==0)<;>cases (hi==0)<;>cases decide (w=[])<;>cases decide (g=[])<;>cases QX o<;>cases QX u<;>rfl
 have x:((decide (k<0))||(decide (k>=9)))=true:=by simp;omega
 have e:QaN ⟨n,o,u,k,lo,hi,w,g⟩=false:=by unfold QaN QdC;simp[h,i,l,m,p,q,r,t,v]
 rw[e,x];rfl
def QBB {k:QA} (h:QnM k.Xb):QgM k=some (QeH k):=by
 unfold QgM QeH;rw[Qj0];simp only[Za]
 cases QX k.Xj with
 | false=>rfl
 | true=>
  rw[show QdU k.Lo k.Hi 0 65536=some (QeG k.Lo k.Hi 0 65536) from rfl];simp only[Sim.opt,Bool.not_true,beq_self_eq_true,if_true,Za,Bool.true_and,Bool.false_or]
  cases QeG k.Lo k.Hi 0 65536 with
  | false=>rfl
  | true=>
   by_cases hm:(k.Xb.length:Int)<=10
   ·rw[Zb (by simp;omega),decide_eq_true hm,Qgy k.Xb QaN false (λi hi=>?_) (Zb (by simp))]
    ·simp only[Bool.true_and,Za];cases k.Xb.all QaN<;>rfl
    ·have hf:=h.2 _ (Zo hi);have hl:=h.1;rw[Zc (decide_eq_true (ZR.2 hi)),QY hi];simp only[Za];rw[Qy9 hf.1 hf.2];simp only[Za];rw[QD hi (by omega)];cases QaN k.Xb[i]<;>rfl
   ·rw[Zc (by simp;omega),decide_eq_false hm];rfl
def Qtq {u:Nat} (h:u<10):Qkj [u8.wrap (i64.wrap ((48:Int)+(u:Int)))]=[UInt8.ofNat (48+u)]:=by
 have:u=0\/u=1\/u=2\/u=3\/u=4\/u=5\/u=6\/u=7\/u=8\/u=9:=by omega
 rcases this with rfl | rfl | rfl | rfl | rfl | rfl | rfl | rfl | rfl | rfl<;>rfl
def decN:∀(k u:Nat),k<=1000000000000->u<10 ^ (k+1)->u<=1000000000->Qed (k+1) (u:Int)=some (Lib.decDigits u)
 | k,u,hk,hu,hb=>by
  show Qds (Qed k) (u:Int)=_;unfold Qds;rw[Zb (by simp)];rw[Lib.decDigits];by_cases h:u<10
  ·rw[Zc (by simp;omega),dif_pos h,Qtq h]
  ·rw[Zb (by simp;omega),dif_neg h]
   cases k with
   | zero=>simp at hu;omega
   | succ k=>
    have e1:i64.wrap (Int.tdiv (u:Int) 10)=((u / 10:Nat):Int):=by rw[Int.tdiv_eq_ediv_of_nonneg (by omega),w64 (by omega) (by omega)];rfl
    have e2:Int.tmod (u:Int) 10=((u % 10:Nat):Int):=by rw[Int.tmod_eq_emod_of_nonneg (by omega)];rfl
    rw[e1,e2,decN k (u / 10) (by omega) (by rw[Nat.pow_succ] at hu;omega) (by omega)];simp only[Za];rw[Qtq (by omega)];have hl:=Qja 18 (u / 10) (by omega);have a:cat ((Lib.decDigits (u / 10)).length+([UInt8.ofNat (48+u % 10)]:Str).length)=some ():=Zc (by rw[length_singleton];omega);rw[a];rfl
def Qqd (u:Nat):u<10 ^ (u+1):=by have h:u+1<10 ^ (u+1):=Nat.lt_pow_self (by decide);omega
def QwB {n:Int} (h:-1000000000<=n/\n<=1000000000):QfY n=some (Lib.itoa n):=by
 unfold QfY Lib.itoa;by_cases a:n<0
 ·show Qds (Qed (n.natAbs+1)) n=_;unfold Qds;have e:i64.wrap (0 - n)=(n.natAbs:Int):=by rw[w64 (by omega) (by omega)];omega
  rw[Zc (decide_eq_true a),Zc a,e,decN n.natAbs n.natAbs (by omega) (Qqd _) (by omega)];simp only[Za];have hl:=Qja 18 n.natAbs (by omega);have b:cat (([45]:Str).length+(Lib.decDigits n.natAbs).length)=some ():=Zc (by rw[length_singleton];omega);rw[b];rfl
 ·rw[Zb a];have e:n=(n.toNat:Int):=by omega
  have e2:n.natAbs+2=(n.natAbs+1)+1:=rfl;rw[e2];have:=decN (n.natAbs+1) n.toNat (by omega) (ZL (Qqd n.toNat) (Nat.pow_le_pow_right (by decide) (by omega))) (by omega);rw[<-e] at this;exact this
def Qau {n:Nat} (h:n<=1000000000000):cat n=some ():=Zc (by omega)
def Qdj {s:Str} {n:Int} (a:s.length<=100000000000) (h:-1000000000<=n/\n<=1000000000):QbS s n=some (s++(32::Lib.itoa n)):=by have hl:=QcQ (n:=n) (by unfold I64;omega);unfold QbS;rw[Qau (by rw[length_singleton];omega)];simp only[Za];rw[QwB h];simp only[Za];rw[Qau (by rw[Zf,length_singleton];omega)];simp
def Qgm (s:Str):QeT s=some (Qbt s):=by
 unfold QeT Qbt;by_cases h:s=[]
 ·rw[Zc (by simp[h]),Zc h]
 ·rw[Zb (by simpa using h),Zb h]
def QmN {s:Str} (h:QX s=true):Qbt s=s:=by unfold Qbt;rw[Zb];rintro rfl;cases h
def rLine0 {n o u:Str} {g:List Int} (b:n.length<=12) (a:-1000000000<=lo/\lo<=1000000000):Qa0 ⟨n,o,u,0,lo,hi,w,g⟩=some (10::([107,101,121]++toks [.str n,.int lo])):=by unfold Qa0 QbZ Qcg;simp only[Za];rw[show idx ([([107,101,121]:Str),([114,101,102]:Str),([110,117,109]:Str),([112,105,99,107]:Str),([100,97,121]:Str),([115,116,101,112]:Str),([115,117,109]:Str),([115,104,97,114,101]:Str),([99,111,112,121]:Str)]) (0:Int)=some [107,101,121] from rfl];simp only[Za];rw[Qau (by simp),Qau (by simp only[Zf,Zk,Zm];omega),Qau (by simp only[Zf,Zk,Zm];omega)];simp only[Za];rw[Zb (by decide)];simp only[Za];rw[Zb (by decide)];simp only[Za];have c:=QcQ (n:=lo) (by unfold I64;omega);rw[Zc (by decide),Qdj (by simp only[Zf,Zk,Zm];omega) a];simp only[Za];rw[Zb (by decide)];simp only[Za];rw[Zb (by decide)];simp[toks,Qej]
def rLine1 {n o u:Str} {g:List Int} (c:n.length<=12) (d:(Qbt o).length<=12) (a:-1000000000<=lo/\lo<=1000000000) (b:-1000000000<=hi/\hi<=1000000000):Qa0 ⟨n,o,u,1,lo,hi,w,g⟩=some (10::([114,101,102]++toks [.str n,.str (Qbt o),.int lo,.int hi])):=by unfold Qa0 QbZ Qcg;simp only[Za];rw[show idx ([([107,101,121]:Str),([114,101,102]:Str),([110,117,109]:Str),([112,105,99,107]:Str),([100,97,121]:Str),([115,116,101,112]:Str),([115,117,109]:Str),([115,104,97,114,101]:Str),([99,111,112,121]:Str)]) (1:Int)=some [114,101,102] from rfl];simp only[Za];rw[Qau (by simp),Qau (by simp only[Zf,Zk,Zm];omega),Qau (by simp only[Zf,Zk,Zm];omega)];simp only[Za];rw[Zb (by decide)];simp only[Za];rw[Zc (by decide),Qau (by simp only[Zf,Zk,Zm];omega),Qgm];simp only[Za];rw[Qau (by simp only[Zf,Zk,Zm];omega)];simp only[Za];have e:=QcQ (n:=lo) (by unfold I64;omega);rw[Zc (by decide),Qdj (by simp only[Zf,Zk,Zm];omega) a];simp only[Za];rw[Zc (by decide),Qdj (by simp only[Zf,Zk,Zm];omega) b];simp only[Za];rw[Zb (by decide)];simp[toks,Qej]
def rLine2 {n o u:Str} {g:List Int} (c:n.length<=12) (a:-1000000000<=lo/\lo<=1000000000) (b:-1000000000<=hi/\hi<=1000000000):Qa0 ⟨n,o,u,2,lo,hi,w,g⟩=some (10::([110,117,109]++toks [.str n,.int lo,.int hi])):=by unfold Qa0 QbZ Qcg;simp only[Za];rw[show idx ([([107,101,121]:Str),([114,101,102]:Str),([110,117,109]:Str),([112,105,99,107]:Str),([100,97,121]:Str),([115,116,101,112]:Str),([115,117,109]:Str),([115,104,97,114,101]:Str),([99,111,112,121]:Str)]) (2:Int)=some [110,117,109] from rfl];simp only[Za];rw[Qau (by simp),Qau (by simp only[Zf,Zk,Zm];omega),Qau (by simp only[Zf,Zk,Zm];omega)];simp only[Za];rw[Zb (by decide)];simp only[Za];rw[Zb (by decide)];simp only[Za];have d:=QcQ (n:=lo) (by unfold I64;omega);rw[Zc (by decide),Qdj (by simp only[Zf,Zk,Zm];omega) a];simp only[Za];rw[Zc (by decide),Qdj (by simp only[Zf,Zk,Zm];omega) b];simp only[Za];rw[Zb (by decide)];simp[toks,Qej]
def rLine4 {n o u:Str} {g:List Int} (c:n.length<=12) (d:(Qbt o).length<=12) (a:-1000000000<=lo/\lo<=1000000000) (b:-1000000000<=hi/\hi<=1000000000):Qa0 ⟨n,o,u,4,lo,hi,w,g⟩=some (10::([100,97,121]++toks [.str n,.str (Qbt o),.int lo,.int hi])):=by unfold Qa0 QbZ Qcg;simp only[Za];rw[show idx ([([107,101,121]:Str),([114,101,102]:Str),([110,117,109]:Str),([112,105,99,107]:Str),([100,97,121]:Str),([115,116,101,112]:Str),([115,117,109]:Str),([115,104,97,114,101]:Str),([99,111,112,121]:Str)]) (4:Int)=some [100,97,121] from rfl];simp only[Za];rw[Qau (by simp),Qau (by simp only[Zf,Zk,Zm];omega),Qau (by simp only[Zf,Zk,Zm];omega)];simp only[Za];rw[Zb (by decide)];simp only[Za];rw[Zc (by decide),Qau (by simp only[Zf,Zk,Zm];omega),Qgm];simp only[Za];rw[Qau (by simp only[Zf,Zk,Zm];omega)];simp only[Za];have e:=QcQ (n:=lo) (by unfold I64;omega);rw[Zc (by decide),Qdj (by simp only[Zf,Zk,Zm];omega) a];simp only[Za];rw[Zc (by decide),Qdj (by simp only[Zf,Zk,Zm];omega) b];simp only[Za];rw[Zb (by decide)];simp[toks,Qej]
def rLine5 {n o u:Str} {g:List Int} (c:n.length<=12) (d:(Qbt o).length<=12) (a:-1000000000<=lo/\lo<=1000000000) (b:-1000000000<=hi/\hi<=1000000000):Qa0 ⟨n,o,u,5,lo,hi,w,g⟩=some (10::([115,116,101,112]++toks [.str n,.str (Qbt o),.int lo,.int hi])):=by unfold Qa0 QbZ Qcg;simp only[Za];rw[show idx ([([107,101,121]:Str),([114,101,102]:Str),([110,117,109]:Str),([112,105,99,107]:Str),([100,97,121]:Str),([115,116,101,112]:Str),([115,117,109]:Str),([115,104,97,114,101]:Str),([99,111,112,121]:Str)]) (5:Int)=some [115,116,101,112] from rfl];simp only[Za];rw[Qau (by simp),Qau (by simp only[Zf,Zk,Zm];omega),Qau (by simp only[Zf,Zk,Zm];omega)];simp only[Za];rw[Zb (by decide)];simp only[Za];rw[Zc (by decide),Qau (by simp only[Zf,Zk,Zm];omega),Qgm];simp only[Za];rw[Qau (by simp only[Zf,Zk,Zm];omega)];simp only[Za];have e:=QcQ (n:=lo) (by unfold I64;omega);rw[Zc (by decide),Qdj (by simp only[Zf,Zk,Zm];omega) a];simp only[Za];rw[Zc (by decide),Qdj (by simp only[Zf,Zk,Zm];omega) b];simp only[Za];rw[Zb (by decide)];simp[toks,Qej]
def rLine6 {n o u:Str} {g:List Int} (b:n.length<=12) (c:(Qbt o).length<=12) (a:Qbt o=o):Qa0 ⟨n,o,u,6,lo,hi,w,g⟩=some (10::([115,117,109]++toks [.str n,.str o])):=by unfold Qa0 QbZ Qcg;simp only[Za];rw[show idx ([([107,101,121]:Str),([114,101,102]:Str),([110,117,109]:Str),([112,105,99,107]:Str),([100,97,121]:Str),([115,116,101,112]:Str),([115,117,109]:Str),([115,104,97,114,101]:Str),([99,111,112,121]:Str)]) (6:Int)=some [115,117,109] from rfl];simp only[Za];rw[Qau (by simp),Qau (by simp only[Zf,Zk,Zm];omega),Qau (by simp only[Zf,Zk,Zm];omega)];simp only[Za];rw[Zb (by decide)];simp only[Za];rw[Zc (by decide),Qau (by simp only[Zf,Zk,Zm];omega),Qgm];simp only[Za];rw[Qau (by simp only[Zf,Zk,Zm];omega)];simp only[Za];rw[Zb (by decide)];simp only[Za];rw[Zb (by decide)];simp only[Za];rw[Zb (by decide)];simp[toks,Qej,a]
def rLine7 {n o u:Str} {g:List Int} (d:n.length<=12) (hu:u.length<=12) (e:(Qbt o).length<=12) (a:Qbt o=o) (b:-1000000000<=lo/\lo<=1000000000) (c:-1000000000<=hi/\hi<=1000000000):Qa0 ⟨n,o,u,7,lo,hi,w,g⟩=some (10::([115,104,97,114,101]++toks [.str n,.str u,.str o,.int lo,.int hi])):=by unfold Qa0 QbZ Qcg;simp only[Za];rw[show idx ([([107,101,121]:Str),([114,101,102]:Str),([110,117,109]:Str),([112,105,99,107]:Str),([100,97,121]:Str),([115,116,101,112]:Str),([115,117,109]:Str),([115,104,97,114,101]:Str),([99,111,112,121]:Str)]) (7:Int)=some [115,104,97,114,101] from rfl];simp only[Za];rw[Qau (by simp),Qau (by simp only[Zf,Zk,Zm];omega),Qau (by simp only[Zf,Zk,Zm];omega)];simp only[Za];rw[Zc (by decide),Qau (by simp only[Zf,Zk,Zm];omega),Qau (by simp only[Zf,Zk,Zm];omega)];simp only[Za];rw[Zc (by decide),Qau (by simp only[Zf,Zk,Zm];omega),Qgm];simp only[Za];rw[Qau (by simp only[Zf,Zk,Zm];omega)];simp only[Za];have f:=QcQ (n:=lo) (by unfold I64;omega);rw[Zc (by decide),Qdj (by simp only[Zf,Zk,Zm];omega) b];simp only[Za];rw[Zc (by decide),Qdj (by simp only[Zf,Zk,Zm];omega) c];simp only[Za];rw[Zb (by decide)];simp[toks,Qej,a]
def rLine8 {n o u:Str} {g:List Int} (b:n.length<=12) (hu:u.length<=12) (c:(Qbt o).length<=12) (a:Qbt o=o):Qa0 ⟨n,o,u,8,lo,hi,w,g⟩=some (10::([99,111,112,121]++toks [.str n,.str u,.str o])):=by unfold Qa0 QbZ Qcg;simp only[Za];rw[show idx ([([107,101,121]:Str),([114,101,102]:Str),([110,117,109]:Str),([112,105,99,107]:Str),([100,97,121]:Str),([115,116,101,112]:Str),([115,117,109]:Str),([115,104,97,114,101]:Str),([99,111,112,121]:Str)]) (8:Int)=some [99,111,112,121] from rfl];simp only[Za];rw[Qau (by simp),Qau (by simp only[Zf,Zk,Zm];omega),Qau (by simp only[Zf,Zk,Zm];omega)];simp only[Za];rw[Zc (by decide),Qau (by simp only[Zf,Zk,Zm];omega),Qau (by simp only[Zf,Zk,Zm];omega)];simp only[Za];rw[Zc (by decide),Qau (by simp only[Zf,Zk,Zm];omega),Qgm];simp only[Za];rw[Qau (by simp only[Zf,Zk,Zm];omega)];simp only[Za];rw[Zb (by decide)];simp only[Za];rw[Zb (by decide)];simp only[Za];rw[Zb (by decide)];simp[toks,Qej,a]
def Qop (f:Qe):Str:=QmK f++toks (Qba f)
def QwC (l:List (Str×Int)):toks (l.flatMap λp=>[AnyV.str p.1,AnyV.int p.2])=l.flatMap λp=>(32::p.1)++(32::Lib.itoa p.2):=by
 induction l with
 | nil=>rfl
 | cons a l b=>rw[flatMap_cons,flatMap_cons,<-b];simp[toks,Qej]
def rLine3 {n o u:Str} {g:List Int} (v:n.length<=12) (hl:w.length=g.length) (m:w.length<=12) (q:∀s∈w,s.length<=12) (r:∀x∈g,0<=x/\x<=1048576):
  Qa0 ⟨n,o,u,3,lo,hi,w,g⟩=some (10::([112,105,99,107]++toks ([.str n,.int (w.length:Int)]++(w.zip g).flatMap λp=>[.str p.1,.int p.2]))):=by
 have hz:(w.zip g).length=w.length:=by rw[length_zip];omega
 unfold Qa0 QbZ Qcg;simp only[Za];rw[show idx ([([107,101,121]:Str),([114,101,102]:Str),([110,117,109]:Str),([112,105,99,107]:Str),([100,97,121]:Str),([115,116,101,112]:Str),([115,117,109]:Str),([115,104,97,114,101]:Str),([99,111,112,121]:Str)]) (3:Int)=some [112,105,99,107] from rfl];simp only[Za];rw[Qau (by simp),Qau (by simp only[Zf,Zk,Zm];omega),Qau (by simp only[Zf,Zk,Zm];omega)];simp only[Za];rw[Zb (by decide)];simp only[Za];rw[Zb (by decide)];simp only[Za];rw[Zb (by decide)];simp only[Za];rw[Zb (by decide)];simp only[Za];have y:=QcQ (n:=(w.length:Int)) (by unfold I64;omega);rw[Zc (by decide),Qdj (by simp only[Zf,Zk,Zm];omega) (by omega)];simp only[Za];have i:∀p∈w.zip g,p.1.length<=12/\0<=p.2/\p.2<=1048576/\(Lib.itoa p.2).length<=20:=λp hp=>by obtain⟨a,b⟩:=p;have h:=of_mem_zip hp;have l:=r b h.2;exact⟨q a h.1,l.1,l.2,QcQ (by unfold I64;dsimp only;omega)⟩
 rw[Qeo (w.zip g) (λp=>(32::p.1)++(32::Lib.itoa p.2)) 40 (λp hp=>?_) _ (λk t f d=>?_) (λf=>?_)]
 ·simp only[Za];have e:∀a b:List AnyV,toks (a++b)=toks a++toks b:=λa b=>by unfold toks;rw[ZK]
  rw[e,QwC];simp[toks,Qej]
 ·have:=i p hp;simp only[Zf,Zk];omega
 ·have c:k<w.length:=by omega
  have hp:=i _ (Zo t);rw[getElem_zip] at hp ⊢;dsimp only at hp ⊢;simp only[Zf,Zk,Zm] at d;rw[Zc (decide_eq_true (ZR.2 c)),Qau (by rw[length_singleton];omega),QY c,QY (show k<g.length by omega)];simp only[Za];rw[Qau (by rw[Zf,length_singleton];omega)];simp only[Za];rw[Qdj (by rw[Zf,Zf,length_singleton];omega) (by omega),QD c (by omega)];simp
 ·rw[hz,Zb (by simp)]
def QBC {f:Qe} (h:QaN f=true):Qa0 f=some (10::Qop f):=by
 unfold QaN at h;simp only[Zi] at h;obtain⟨⟨e,_⟩,hp⟩:=h;have a:=Qb7 e;obtain⟨n,o,u,k,lo,hi,w,g⟩:=f;have c:∀{s:Str},QX s=true->(Qbt s).length<=12:=λ{s} b=>by rw[QmN b];exact Qb7 b
 unfold QdC at hp;dsimp only at hp e a;by_cases i:k=0
 ·subst i;rw[Zc rfl] at hp;have:=Qdi hp;rw[rLine0 a (by omega)];rfl
 rw[Zb i] at hp;by_cases l:k=1
 ·subst l;rw[Zc rfl] at hp;simp only[Zi] at hp;have:=Qfm hp.2;rw[rLine1 a (c hp.1) (by omega) (by omega)];rfl
 rw[Zb l] at hp;by_cases m:k=2
 ·subst m;rw[Zc rfl] at hp;have:=Qfm hp;rw[rLine2 a (by omega) (by omega)];rfl
 rw[Zb m] at hp;by_cases p:k=3
 ·subst p;rw[Zc rfl] at hp;simp only[Qi9,Zi,ZD,Yf] at hp;obtain⟨z,⟨⟨A,hl⟩,_⟩,d⟩:=hp;have B:=(Qdi A).2;rw[rLine3 a (by omega) (by omega) (λs b=>Qb7 (d s b)) (λx hx=>Qdi (z x hx))];rfl
 rw[Zb p] at hp;by_cases q:k=4
 ·subst q;rw[Zc rfl] at hp;simp only[Zi] at hp;have:=Qfm hp.2;have C:(Qbt o).length<=12:=by
   by_cases b:o=[]
   ·subst b;decide
   ·exact c (by simpa[b] using hp.1)
  rw[rLine4 a C (by omega) (by omega)];rfl
 rw[Zb q] at hp;by_cases r:k=5
 ·subst r;rw[Zc rfl] at hp;simp only[Zi] at hp;have:=Qfm hp.2;rw[rLine5 a (c hp.1) (by omega) (by omega)];rfl
 rw[Zb r] at hp;by_cases t:k=6
 ·subst t;rw[Zc rfl] at hp;rw[rLine6 a (c hp) (QmN hp)];rfl
 rw[Zb t] at hp;by_cases v:k=7
 ·subst v;rw[Zc rfl] at hp;simp only[Zi] at hp;have:=Qfm hp.2;rw[rLine7 a (Qb7 hp.1.2) (c hp.1.1) (QmN hp.1.1) (by omega) (by omega)];rfl
 rw[Zb v] at hp;by_cases y:k=8
 ·subst y;rw[Zc rfl] at hp;simp only[Zi] at hp;rw[rLine8 a (Qb7 hp.2) (c hp.1) (QmN hp.1)];rfl
 rw[Zb y] at hp;cases hp
def Qkp (k:QA):Str:=(10::([107,105,110,100]++toks [.str k.Xj,.int k.Lo,.int k.Hi]))++k.Xb.flatMap λf=>10::Qop f
def Qqe (m:Qar):Str:=10::([109,111,118,101]++toks [.int m.a0,.int m.a1])
def Qlq (l:Qm):Str:=(10::([108,105,102,101]++toks ([.str l.Xj,.int (l.Xe.length:Int)]++l.Xe.map .str)))++l.Xg.flatMap Qqe
def Qoq (r:QL):Str:=10::([114,117,108,101]++toks (Qgl r))
def QjQ (x:Qc):Str:=[115,99,104,101,109,97]++(32::Lib.itoa x.Version)
def srcR (x:Qc):Str:=QjQ x++x.Xa.flatMap Qkp++x.Xd.flatMap Qlq++x.Xc.flatMap Qoq
def shift {α:Type} {l:List α} {g h:α->Str} (e:∀a∈l,[10]++g a=h a++[10]):[10]++l.flatMap g=l.flatMap h++[10]:=by
 induction l with
 | nil=>rfl
 | cons a l c=>rw[flatMap_cons,flatMap_cons,<-ZE,e a Zq,ZE,c λb hb=>e b (Zz _ hb),ZE]
def Qqf (k:QA):[10]++Qga k=Qkp k++[10]:=by have:=shift (l:=k.Xb) (g:=QfD) (h:=λf=>10::Qop f) λf _=>rfl;unfold Qga Qkp Qfe;rw[ZE _ [10],this];simp
def Qqg (l:Qm):[10]++Qhe l=Qlq l++[10]:=by have:=shift (l:=l.Xg) (g:=QiO) (h:=Qqe) λm _=>rfl;unfold Qhe Qlq Qfe;rw[ZE _ [10],this];simp
def Qza (x:Qc):srcS x=srcR x++[10]:=by
 have e1:=shift (l:=x.Xa) (g:=Qga) (h:=Qkp) λk _=>Qqf k;have e2:=shift (l:=x.Xd) (g:=Qhe) (h:=Qlq) λk _=>Qqg k;have a:=shift (l:=x.Xc) (g:=Qjx) (h:=Qoq) λk _=>rfl;have e0:Qfe [115,99,104,101,109,97] [.int x.Version]=QjQ x++[10]:=by simp[Qfe,QjQ,toks,Qej]
 unfold srcS srcR;rw[e0,ZE (QjQ x),e1,<-ZE,ZE _ [10],e2,<-ZE,ZE _ [10],a];simp
def Qj1 {a b:Str} (h:[10]++a=b++[10]):a.length=b.length:=by have:=Ya length h;simp only[Zf,Zk,Zm] at this;omega
def QwD {x:Qc} (h:QkF x):QgP x=some (srcR x++[10]):=by
 have Q:=h.version;have R:(QjQ x).length<=30:=by have:=QcQ (n:=x.Version) (by unfold I64;omega);unfold QjQ;simp only[Zf,Zk,Zm];omega
 have C:∀k∈x.Xa,(Qkp k).length<=50000:=λk b=>by rw[<-Qj1 (Qqf k)];exact QlH (h.kind k b)
 have D:∀k∈x.Xd,(Qlq k).length<=20000:=λk b=>by rw[<-Qj1 (Qqg k)];exact QjP (h.life k b)
 have E:∀k∈x.Xc,(Qoq k).length<=1000:=λk b=>by have e:[10]++Qjx k=Qoq k++[10]:=rfl;rw[<-Qj1 e];exact QlI (h.rule k b)
 have S:=QhL C;have I:=QhL D;have T:=QhL E;have U:=h.kinds;have V:=h.lives;have W:=h.rules;unfold QgP;have e0:QbS [115,99,104,101,109,97] x.Version=some (QjQ x):=Qdj (by decide) (by omega);rw[e0];simp only[Za];rw[Qeo x.Xa Qkp 50000 C (QjQ x) (λk b c i=>?_) (λc=>Zb (by simp))]
 ·simp only[Za];rw[Qeo x.Xd Qlq 20000 D (QjQ x++x.Xa.flatMap Qkp) (λk b c i=>?_) (λc=>Zb (by simp))]
  ·simp only[Za];rw[Qeo x.Xc Qoq 1000 E (QjQ x++x.Xa.flatMap Qkp++x.Xd.flatMap Qlq) (λk b c i=>?_) (λc=>Zb (by simp))]
   ·simp only[Za];rw[Qau (by simp only[Zf,Zk,Zm];omega)];rfl
   ·have F:=h.rule _ (Zo b);simp only[QdY,Zi] at F;obtain⟨⟨⟨⟨⟨r,t⟩,p⟩,u⟩,_⟩,z⟩:=F;have X:=Qdi z;have H:=Qb7 r;have Y:=Qb7 t;have K:=QmJ (Qjw p);have L:=QmJ (Qjw u);have M:(Qbt x.Xc[k].A).length<=100:=K;have N:(Qbt x.Xc[k].B).length<=100:=L;simp only[Zf] at i;rw[Zc (decide_eq_true (ZR.2 b))];dsimp only;rw[QY b];simp only[Za];rw[Qgm,Qgm];simp only[Za];rw[Qau (by simp only[Zk,Zm];omega),Qau (by simp only[Zf,Zk,Zm];omega),
     Qau (by simp only[Zf,Zk,Zm];omega),Qau (by simp only[Zf,Zk,Zm];omega),
     Qau (by simp only[Zf,Zk,Zm];omega),Qau (by simp only[Zf,Zk,Zm];omega),
     Qau (by simp only[Zf,Zk,Zm];omega),Qau (by simp only[Zf,Zk,Zm];omega)]
    simp only[Za];rw[Qdj (by simp only[Zf,Zk,Zm];omega) (by omega),QD b (by omega)];simp[Qoq,Qgl,toks,Qej]
  ·have hl:=h.life _ (Zo b);simp only[QfC,Zi,ZD,Zs] at hl;obtain⟨⟨⟨⟨r,t⟩,p⟩,u⟩,z⟩:=hl;have O:=Qdi t;have H:=Qb7 r;have P:=QcQ (n:=(x.Xd[k].Xe.length:Int)) (by unfold I64;omega);simp only[Zf] at i;rw[Zc (decide_eq_true (ZR.2 b))];dsimp only;rw[QY b];simp only[Za];rw[Qau (by simp only[Zk,Zm];omega),Qau (by simp only[Zf,Zk,Zm];omega)];simp only[Za];rw[Qdj (by simp only[Zf,Zk,Zm];omega) (by omega)];simp only[Za];rw[Qeo x.Xd[k].Xe (λs=>32::s) 20 (λs A=>by have:=Qb7 (p s A);rw[Zk];omega) _ (λq d o a=>?_) (λc=>Zb (by simp))]
   ·simp only[Za];have Z:=QhL (l:=x.Xd[k].Xe) (g:=λs=>32::s) (B:=20) (λs A=>by have:=Qb7 (p s A);rw[Zk];omega);rw[Qeo x.Xd[k].Xg Qqe 300 (λm hm=>?_) _ (λq d o a=>?_) (λc=>Zb (by simp))]
    ·simp only[Za];rw[QD b (by omega)];have e:(x.Xd[k].Xe.map AnyV.str).flatMap (λv=>32::Qej v)=x.Xd[k].Xe.flatMap λs=>32::s:=by
      rw[flatMap_map];rfl
     simp[Qlq,toks,Qej,<-e]
    ·have e:[10]++QiO m=Qqe m++[10]:=rfl;rw[<-Qj1 e];exact QjO (Qy3 (by omega) (z m hm))
    ·have hm:=z _ (Zo d);simp only[QeI,Zi] at hm;have m1:=Qdi hm.1;have m2:=Qdi hm.2;have i1:=QcQ (n:=x.Xd[k].Xg[q].a0) (by unfold I64;omega);simp only[Zf,Zk,Zm] at a;rw[Zc (decide_eq_true (ZR.2 d))];dsimp only;rw[Qau (by simp only[Zk,Zm];omega),QY d];simp only[Za];rw[Qdj (by simp only[Zf,Zk,Zm];omega) (by omega)];simp only[Za];rw[Qdj (by simp only[Zf,Zk,Zm];omega) (by omega),QD d (by omega)];simp[Qqe,toks,Qej]
   ·have A:=Qb7 (p _ (Zo d));simp only[Zf,Zk,Zm] at a;rw[Zc (decide_eq_true (ZR.2 d))];dsimp only;rw[Qau (by simp only[Zk,Zm];omega),QY d];simp only[Za];rw[Qau (by simp only[Zf,Zk,Zm];omega),QD d (by omega)];simp
 ·have y:=h.kind _ (Zo b);simp only[QeH,Zi,ZD,Zs] at y;obtain⟨⟨⟨r,t⟩,p⟩,u⟩:=y;have O:=Qfm t;have H:=Qb7 r;have P:=QcQ (n:=x.Xa[k].Lo) (by unfold I64;omega);have l2:=QcQ (n:=x.Xa[k].Hi) (by unfold I64;omega);rw[Zc (decide_eq_true (ZR.2 b))];dsimp only;rw[QY b];simp only[Za];rw[Qau (by simp only[Zk,Zm];omega),Qau (by simp only[Zf,Zk,Zm];omega)];simp only[Za];rw[Qdj (by simp only[Zf,Zk,Zm];omega) (by omega)];simp only[Za];rw[Qdj (by simp only[Zf,Zk,Zm];omega) (by omega)];simp only[Za];have fl:∀f∈x.Xa[k].Xb,(10::Qop f).length<=4000:=λf hf=>by
   have e:[10]++QfD f=(10::Qop f)++[10]:=rfl;rw[<-Qj1 e];exact Qiu (QhK (u f hf))
  rw[Qeo x.Xa[k].Xb (λf=>10::Qop f) 4000 fl _ (λq d o a=>?_) (λc=>Zb (by simp))]
  ·simp only[Za];rw[QD b (by omega)];simp[Qkp,toks,Qej]
  ·have hf:=fl _ (Zo d);simp only[Zf,Zk,Zm] at a;rw[Zc (decide_eq_true (ZR.2 d))];dsimp only;rw[QY d];simp only[Za];rw[QBC (u _ (Zo d))];simp only[Za];rw[Qau (by omega),QD d (by omega)];rfl
def Qzb {x:Qc} (h:Fine x):Qhr x=some (Qgc x):=by
 obtain⟨⟨a1,a2⟩,⟨s,r⟩,c⟩:=h;have d:∀(n:Nat) (m:Int),decide ((n:Int)>m)=!decide ((n:Int)<=m):=λn m=>by
  by_cases h:(n:Int)<=m
  ·rw[decide_eq_true h,decide_eq_false (by omega)];rfl
  ·rw[decide_eq_false h,decide_eq_true (by omega)];rfl
 unfold Qhr;rw[show Qbe x.Version 0 1048576=some (inW x.Version 0 1048576) from rfl];simp only[Za];rw[d,d,d,Qgy x.Xa QeH 1 (λk a=>?_) (Zb (by simp)),Qgy x.Xd QfC 1 (λk a=>?_) (Zb (by simp)),Qgy x.Xc QdY 1 (λk a=>?_) (Zb (by simp))]
 ·unfold Qgc
  cases b:Qgb x with
  | true=>
   have q:=QwD (QjZ b);rw[<-Qza] at q;simp only[Qgb,Zi] at b;obtain⟨⟨⟨⟨⟨⟨e,f⟩,g⟩,i⟩,l⟩,o⟩,p⟩:=b;rw[e,f,g,i,l,o,p,q];simp only[Bool.not_true,Bool.or_self,if_true,Za];rw[Zb (by decide)];by_cases hl:(srcS x).length>8192
   ·rw[Zc (by simp;omega),Zc hl]
   ·rw[Zb (by simp;omega),Zb hl]
  | false=>
   show _=some (1:Int);unfold Qgb at b
   cases e:inW x.Version 0 1048576<;>cases f:decide ((x.Xa.length:Int)<=6)<;>cases g:decide ((x.Xd.length:Int)<=6)<;>cases i:decide ((x.Xc.length:Int)<=16)<;>
    cases l:x.Xa.all QeH<;>cases o:x.Xd.all QfC<;>cases p:x.Xc.all QdY<;>first | rfl | (rw[e,f,g,i,l,o,p] at b;cases b)
 ·rw[Zc (decide_eq_true (ZR.2 a)),QY a];simp only[Za];rw[QBz];simp only[Za];rw[QD a (by omega)];cases QdY x.Xc[k]<;>rfl
 ·have hl:=r _ (Zo a);rw[Zc (decide_eq_true (ZR.2 a)),QY a];simp only[Za];rw[QBy hl.1 hl.2];simp only[Za];rw[QD a (by omega)];cases QfC x.Xd[k]<;>rfl
 ·rw[Zc (decide_eq_true (ZR.2 a)),QY a];simp only[Za];rw[QBB (a2 _ (Zo a))];simp only[Za];rw[QD a (by omega)];cases QeH x.Xa[k]<;>rfl
def Qeq {x:Qc} {n:Str} (hx:x.Xa.length<=1000000):QcH x n=some (Q3 x n):=by
 unfold QcH;rw[Qc6 x.Xa (λk=>k.Xj==n) (λk a=>?_) ?_]
 ·unfold Q3 Qa2;cases x.Xa.findIdx? _<;>rfl
 ·rw[Zb (by simp)]
 ·rw[Zc (by simpa using a),QY a,QD a (by omega)];rfl
def QdS {q:QA} {n:Str} (hx:q.Xb.length<=1000000):Qbi q n=some (Qal q n):=by
 unfold Qbi;rw[Qc6 q.Xb (λk=>k.Xj==n) (λk a=>?_) ?_]
 ·unfold Qal Qa2;cases q.Xb.findIdx? _<;>rfl
 ·rw[Zb (by simp)]
 ·rw[Zc (by simpa using a),QY a,QD a (by omega)];rfl
def has_is (x:Qc) (k j:Int):Qi1 x k j=some (field? x k j).isSome:=by
 unfold Qi1;by_cases d:(0<=k/\k<x.Xa.length)/\0<=j
 ·obtain⟨⟨e,i⟩,g⟩:=d;obtain⟨q,b,_⟩:=QcF e i;rw[Zb (by simp;omega),b];show some (decide (j<(q.Xb.length:Int)))=_;by_cases a:j<q.Xb.length
  ·obtain⟨f,hf,_⟩:=QcF g a;rw[Qgz e g b hf];simpa using a
  ·cases h:field? x k j with
   | none=>simpa using a
   | some f=>obtain⟨l,_,_,e1,e2,_,_,c⟩:=QbT h;rw[b] at e1;cases e1;exact (a c).elim
 ·rw[Zc (by simp;omega)]
  cases h:field? x k j with
  | none=>rfl
  | some f=>obtain⟨l,e1,e2,_,_,_,c,_⟩:=QbT h;exact (d ⟨⟨e1,c⟩,e2⟩).elim
def Qiq {x:Qc} {k:Int} (hx:Few x):Qfw x k j=some (upIx x k j):=by
 have d:∀g:Qe,(if (g.Xi !=1)=true then some (-1) else (QcH x g.Of).bind λt62=>if decide (t62>=k)=true then some (-1) else some t62)=some (if g.Xi=1 then QjN x k g else -1):=λg=>by
  by_cases a:g.Xi=1
  ·rw[Zb (by simp[a]),Zc a,Qeq (by have:=hx.1;omega)];show (if decide (Q3 x g.Of>=k)=true then some (-1) else some (Q3 x g.Of))=_;unfold QjN;by_cases h:Q3 x g.Of<k
   ·rw[Zb (by simp;omega),Zc h]
   ·rw[Zc (by simp;omega),Zb h]
  ·rw[Zc (by simp[a]),Zb a]
 unfold Qfw;rw[has_is];unfold upIx
 cases hf:field? x k j with
 | none=>rfl
 | some f=>
  obtain⟨q,h,s,n,i,l,_,p⟩:=QbT hf;simp only[Za,Option.isSome_some,Bool.not_true];rw[Zb (by decide),n];simp only[Za];rw[i];simp only[Za];unfold jn;dsimp only;by_cases c:f.Xi=7\/f.Xi=8
  ·rw[Zc (by simpa using c),Zc c];rw[QdS (by have:=hx.2 q l;omega)];simp only[Za];have o:=Qf7 q.Xb λg=>g.Xj==f.Up;have r:-1<=Qal q f.Up:=o.1;have m:Qal q f.Up<q.Xb.length:=o.2;by_cases hu:0<=Qal q f.Up/\Qal q f.Up<j
   ·obtain⟨g,a,_⟩:=QcF hu.1 m;rw[Zb (by simp;omega),Zc hu.2,Qgz h hu.1 n a,a];exact d g
   ·rw[Zc (by simp;omega)];by_cases b:Qal q f.Up<j
    ·rw[Zc b];have:field? x k (Qal q f.Up)=none:=by
      cases a:field? x k (Qal q f.Up) with
      | none=>rfl
      | some g=>obtain⟨_,_,e,_⟩:=QbT a;exact (hu ⟨e,b⟩).elim
     rw[this]
    ·rw[Zb b]
  ·rw[Zb (by simpa using c),Zb c];exact d f
def QFk {x:Qc} {k:Int} {f:Qe} (hx:Few x) (hf:field? x k j=some f):Qif x k j=some (QfP x k f):=by
 obtain⟨s,t,u,b,d,m,_,p⟩:=QbT hf;unfold Qif;rw[b];simp only[Za];rw[d];simp only[Za];rw[Qeq (by have:=hx.1;omega)];simp only[Za];unfold QfP;by_cases c:f.Xi≠6\/Q3 x f.Of<=k
 ·rw[Zc (by simpa using c),Zc c]
 rw[Zb (by simpa using c),Zb c];have v:k<Q3 x f.Of:=by
  rcases Int.lt_or_le k (Q3 x f.Of) with h | h
  ·exact h
  ·exact (c (.inr h)).elim
 obtain⟨q,o,g⟩:=QcF (l:=x.Xa) (i:=Q3 x f.Of) (by omega) (Qgj x f.Of).2;have hl:=hx.2 q g;rw[o];simp only[Za];refine QdA q.Xb.length (λn=>((n:Int),((range n).filter (Qf8 x (Q3 x f.Of) k f.Xj q.Xb)).map Int.ofNat)) _ rfl (λn a=>?_) (Zb (by simp)) ?_
 ·rw[Zc (by simpa using a),QY a];simp only[Za];rw[Qiq hx];have e:Qf8 x (Q3 x f.Of) k f.Xj q.Xb n=(q.Xb[n].Xi==7&&q.Xb[n].Of==f.Xj&&upIx x (Q3 x f.Of) (n:Int)==k):=by
   unfold Qf8;rw[Zd a]
  have r:=Qtl (Qf8 x (Q3 x f.Of) k f.Xj q.Xb) n;rw[Qrn,e,QD a (by omega)]
  cases h0:(q.Xb[n].Xi==7) with
  | false=>rfl
  | true=>
   simp only[Sim.opt,Bool.true_and,if_true,beq_self_eq_true,Za]
   cases y:(q.Xb[n].Of==f.Xj) with
   | false=>rfl
   | true=>
    simp only[Bool.true_and,if_true,beq_self_eq_true,Za]
    cases z:upIx x (Q3 x f.Of) (n:Int)==k with
    | false=>rfl
    | true=>rw[Zc rfl,Zc rfl,QdX (by rw[length_singleton];omega)];rfl
 ·unfold shl;rw[o]
def Qrv {x:Qc} {k:Int} (h:j<0):field? x k j=none:=by unfold field?;rw[Zb (by omega)]
def Qzc {x:Qc} {k:Int} {f:Qe} (h:field? x k j=some f):∃q∈x.Xa,f∈q.Xb:=by obtain⟨q,_,a,_,hf,hm,_⟩:=QbT h;rw[QeR _ a] at hf;exact⟨q,hm,Zl hf⟩
def Qzd {x:Qc} {k:Int} {q:QA} {f:Qe} (hx:Few x) (h:idx x.Xa k=some q) (hf:field? x k j=some f):
  Qht x k j=some (if (topS x k j f).2=true then ((topS x k j f).1.Xi,(topS x k j f).1) else (-1,QcV)):=by
 obtain⟨u,o,v,b,c,p,s,t⟩:=QbT hf;rw[h] at b;cases b;unfold Qht topS;rw[Qiq hx];simp only[Za];by_cases hu:upIx x k j<0
 ·rw[Zc (by simpa using hu),Zc hu];rfl
 ·rw[Zb (by simpa using hu),Zb hu];have y:=Qon x k j o;obtain⟨r,m,d⟩:=QcF (l:=x.Xa) (i:=upIx x k j) (by omega) (by omega);rw[m,h];simp only[Za];rw[c];simp only[Za];rw[QdS (by have:=hx.2 r d;omega)];simp only[Za];have a:=Qf7 r.Xb λg=>g.Xj==f.Of;have e:Qal r f.Of<r.Xb.length:=a.2;by_cases hi:Qal r f.Of<0
  ·rw[Zc (by simpa using hi),Qrv hi];rfl
  ·rw[Zb (by simpa using hi)];obtain⟨g,n,_⟩:=QcF (l:=r.Xb) (i:=Qal r f.Of) (by omega) e;rw[Qgz (by omega) (by omega) m n,n];rfl
def QFl {x:Qc} {k:Int} {f:Qe} (h:(topS x k j f).2=true):∃q∈x.Xa,(topS x k j f).1∈q.Xb:=by
 unfold topS at h ⊢;split at h
 ·cases h
 ·rename_i hu;rw[Zb hu];split at h
  ·cases h
  ·rename_i q a
   cases hf:field? x (upIx x k j) (Qal q f.Of) with
   | none=>rw[hf] at h;cases h
   | some g=>exact Qzc hf
def Known (x:Qc):Prop:=∀q∈x.Xa,∀g∈q.Xb,0<=g.Xi/\g.Xi<=8
def Qum {x:Qc} (h:Qgc x=0):Known x:=by
 intro q a g b;unfold Qgc at h;split at h
 ·rename_i c;exact (QhK ((Qip ((QjZ c).kind q a)).2.2 g b)).kind
 ·cases h
def Qqh (a:Bool) (c:Int):Qbz [⟨a,c⟩]=if a=true then c else 0:=rfl
def Qma (a b:Bool) (c d:Int):Qbz [⟨a,c⟩,⟨b,d⟩]=if a=true then c else if b=true then d else 0:=rfl
def Qze {x:Qc} {k:Int} {q:QA} {f:Qe} (hx:Few x) (hl:x.Xd.length<=1000) (c:Known x) (d:idx x.Xa k=some q) (hf:field? x k j=some f):Qhu x k j=some (QfQ x q k j f):=by
 obtain⟨Z,L,M,m,a,o,N,O⟩:=QbT hf;rw[d] at m;cases m;have D:=Qzd hx d hf;have E:0<=f.Xi/\f.Xi<=8:=by rw[QeR _ M] at a;exact c q o f (Zl a)
 unfold Qhu;rw[d];simp only[Za];rw[a];simp only[Za];rw[Qiq hx,QdS (by have:=hx.2 q o;omega),QFk hx hf];simp only[Za];unfold jn;dsimp only;unfold QfQ;by_cases t:f.Xi=0
 ·rw[Zc t,Qqh,t];by_cases p:j>0
  ·rw[decide_eq_true p];rfl
  ·rw[decide_eq_false p];rfl
 have P:(f.Xi==0)=false:=by simpa using t
 rw[Zb t,P];simp only[Bool.false_and];rw[Zb (by decide),Zb (by decide)];by_cases u:f.Xi=1
 ·rw[Zc u,Qqh,u];show (if decide (upIx x k j<0)=true then some 12 else some 0)=_;by_cases hu:upIx x k j<0
  ·rw[Zc (by simpa using hu),Zc (by simpa using hu)]
  ·rw[Zb (by simpa using hu),Zb (by simpa using hu)]
 rw[Zb u];by_cases I:f.Xi=2
 ·rw[I];rfl
 by_cases K:f.Xi=3
 ·rw[K];rfl
 have Q:(f.Xi==1)=false:=by simpa using u
 have R:(f.Xi==2)=false:=by simpa using I
 have S:(f.Xi==3)=false:=by simpa using K
 rw[Q,R,S];simp only[Yk,if_false,Za];by_cases v:f.Xi=4
 ·rw[Zc v,Qqh,Zc (by simp[v])];by_cases y:f.Of=[]
  ·rw[Zc (by simp[y]),Zb (by simp[y])]
  ·rw[Zb (by simpa using y)];have F:(f.Of !=[])=true:=by simpa using y
   rw[F,Bool.true_and];by_cases z:Qal q f.Of<0\/Qal q f.Of>=j
   ·have:(decide (Qal q f.Of<0)||decide (Qal q f.Of>=j))=true:=by simpa using z
    rw[this,Bool.true_or];rfl
   ·have e:(decide (Qal q f.Of<0)||decide (Qal q f.Of>=j))=false:=by
     rw[Bool.eq_false_iff];simpa using z
    obtain⟨g,A,_⟩:=QcF (l:=q.Xb) (i:=Qal q f.Of) (by omega) (by omega);rw[e,Bool.false_or,Qgz L (by omega) d A,A];rw[Zb (by decide)];simp only[Za];cases g.Xi !=4<;>rfl
 have T:(f.Xi==4)=false:=by simpa using v
 rw[Zb v,T,Zb (by decide)];by_cases B:f.Xi=5
 ·rw[Zc B,Qqh,Zc (by simp[B]),Qgy x.Xd (λl=>!(l.Xj==f.Of)) (0:Int) (λn c=>?_) (Zb (by simp))]
  ·simp only[Za];have e:(x.Xd.all λl=>!(l.Xj==f.Of))=!(x.Xd.any λl=>l.Xj==f.Of):=by
    rw[not_any_eq_all_not]
   rw[e];cases (x.Xd.any λl=>l.Xj==f.Of)<;>rfl
  ·rw[Zc (decide_eq_true (ZR.2 c)),QY c];simp only[Za];rw[QD c (by omega)];cases x.Xd[n].Xj==f.Of<;>rfl
 have U:(f.Xi==5)=false:=by simpa using B
 rw[Zb B,U,Zb (by decide)];by_cases C:f.Xi=6
 ·rw[Zc C,Qma,Zc (by simp[C])];cases decide ((QfP x k f).1<0)<;>cases ((QfP x k f).2.length:Int) !=1<;>rfl
 have V:(f.Xi==6)=false:=by simpa using C
 rw[Zb C,V,Zb (by decide)];unfold Qi2;rw[D,d];simp only[Za];rw[a];simp only[Za];by_cases hu:upIx x k j<0
 ·rw[Zc (by simpa using hu)];by_cases b:f.Xi=7
  ·rw[Zc b,Qma,Zc (by simpa using hu)];rfl
  ·have H:f.Xi=8:=by omega
   rw[Zb b,Zc H,Qma,Zc (by simpa using hu)];rfl
 rw[Zb (by simpa using hu)];have s:decide (upIx x k j<0)=false:=by simpa using hu
 by_cases b:f.Xi=7
 ·have W:(f.Xi==7)=true:=by simp[b]
  rw[Zc b,Qma,s,W]
  cases ht:(topS x k j f).2 with
  | false=>rfl
  | true=>
   simp only[Yk,if_false,if_true];rw[Qeq (by have:=hx.1;omega)]
   cases h6:((topS x k j f).1.Xi !=6) with
   | true=>rfl
   | false=>simp only[Sim.opt,beq_self_eq_true,if_true,Za];cases Q3 x (topS x k j f).1.Of !=k<;>rfl
 ·have H:f.Xi=8:=by omega
  have X:(f.Xi==7)=false:=by simpa using b
  rw[Zb b,Zc H,Qma,s,X]
  cases ht:(topS x k j f).2 with
  | false=>rfl
  | true=>
   obtain⟨r,z,A⟩:=QFl ht;have Y:=c r z _ A;have hz:(topS x k j f).1.Xi=0\/(topS x k j f).1.Xi=1\/(topS x k j f).1.Xi=2\/(topS x k j f).1.Xi=3\/(topS x k j f).1.Xi=4\/(topS x k j f).1.Xi=5\/(topS x k j f).1.Xi=6\/(topS x k j f).1.Xi=7\/(topS x k j f).1.Xi=8:=by omega
   simp only[Yk,if_false,if_true];unfold Qy7;rcases hz with h | h | h | h | h | h | h | h | h<;>rw[h]<;>rfl
def toR (p:QI):QT:=⟨p.Xi,p.Field,p.Rule,p.Code⟩
def QwE {x:Qc} {k:Int} {q:QA} {n:Str} (d:0<=k) (b:idx x.Xa k=some q) (e:(n==([]:Str))=false):
  (Qdm x k n=true/\Qal q n<0)\/∃g,Qdm x k n=false/\0<=Qal q n/\idx q.Xb (Qal q n)=some g/\Qc3 x k n=((g.Xi !=2)&&(g.Xi !=4)):=by
 have f:decide (k<0)=false:=decide_eq_false (by omega);have a:Qal q n<q.Xb.length:=(Qf7 q.Xb λg=>g.Xj==n).2;unfold Qdm Qc3 Ql9;rw[b,e,f];dsimp only;by_cases hi:Qal q n<0
 ·rw[Qrv hi];exact .inl ⟨rfl,hi⟩
 ·obtain⟨g,c,_⟩:=QcF (l:=q.Xb) (i:=Qal q n) (by omega) a;rw[Qgz d (by omega) b c];exact .inr ⟨g,rfl,by omega,c,by simp⟩
def Qzf {x:Qc} {i:Nat} {r:QL} (hx:Few x) (hl:x.Xc.length<=1000) (hi:i<x.Xc.length) (v:x.Xc[i]?=some r):Qhv x (i:Int)=some (Qoo x i r):=by
 unfold Qhv;rw[Qhd,v];simp only[Za];have h:(x.Xc.take i).length=i:=by rw[ZU];omega
 rw[Qgy (x.Xc.take i) (λs=>!(s.Xj==r.Xj)) (7:Int) (λn d=>?_) (by rw[h];exact Zb (by simp))]
 ·simp only[Za];have e:((x.Xc.take i).all λs=>!(s.Xj==r.Xj))=!((x.Xc.take i).any λs=>s.Xj==r.Xj):=by
   rw[not_any_eq_all_not]
  rw[e];unfold Qoo
  cases t:((x.Xc.take i).any λs=>s.Xj==r.Xj) with
  | true=>rfl
  | false=>
   simp only[Bool.not_false,if_true];rw[Qeq (by have:=hx.1;omega)];simp only[Za];by_cases f:Q3 x r.Xi<0
   ·rw[Zc (by simpa using f),decide_eq_true f];rfl
   ·rw[Zb (by simpa using f),decide_eq_false f];obtain⟨q,u,k⟩:=QcF (l:=x.Xa) (i:=Q3 x r.Xi) (by omega) (Qgj x r.Xi).2;rw[u];unfold jn;dsimp only;have m:∀{body:Int×Bool->Option ((Int×Bool)⊕(Bool⊕Int))},(∀b,body (0,b)=if Qdm x (Q3 x r.Xi) r.A=true then some (.inr (.inr 12)) else some (.inl (1,b||Qc3 x (Q3 x r.Xi) r.A)))->
      (∀b,body (1,b)=if Qdm x (Q3 x r.Xi) r.B=true then some (.inr (.inr 12)) else some (.inl (2,b||Qc3 x (Q3 x r.Xi) r.B)))->(∀b,body (2,b)=some (.inr (.inl b)))->
      Qr body (0,false)=some (if (Qdm x (Q3 x r.Xi) r.A||Qdm x (Q3 x r.Xi) r.B)=true then .inr 12 else .inl (Qc3 x (Q3 x r.Xi) r.A||Qc3 x (Q3 x r.Xi) r.B)):=λh0 y z=>by
     rw[Qdp,h0]
     cases Qdm x (Q3 x r.Xi) r.A with
     | true=>rfl
     | false=>
      rw[Zb (by decide)];dsimp only;rw[Qdp,y]
      cases Qdm x (Q3 x r.Xi) r.B with
      | true=>rfl
      | false=>rw[Zb (by decide)];dsimp only;rw[Qdp,z];simp
    have step:∀(n:Str) (b:Bool) (c:Bool->Option ((Int×Bool)⊕(Bool⊕Int))),(if (n==([]:Str))=true then c b else (Option.some q).bind λt55=>(Option.some n).bind λt59=>(Qbi t55 t59).bind λt61=>if decide (t61<0)=true then some (.inr (.inr 12)) else (Option.some q).bind λt67=>(idx t67.Xb t61).bind λt71=>c (b||((t71.Xi !=2)&&(t71.Xi !=4))))=
      if Qdm x (Q3 x r.Xi) n=true then some (.inr (.inr 12)) else c (b||Qc3 x (Q3 x r.Xi) n):=λn b c=>by
     cases d:(n==([]:Str)) with
     | true=>
      have hm:Qdm x (Q3 x r.Xi) n=false:=by unfold Qdm;rw[d];rfl
      have o:Qc3 x (Q3 x r.Xi) n=false:=by unfold Qc3;rw[d];rfl
      rw[hm,o,Zc rfl,Zb (by decide),Bool.or_false]
     | false=>
      rw[Zb (by decide)];simp only[Za];rw[QdS (by have:=hx.2 q k;omega)];simp only[Za];rcases QwE (by omega) u d with⟨hm,hi⟩ | ⟨g,hm,hi,A,o⟩
      ·rw[hm,Zc (by simpa using hi),Zc rfl]
      ·rw[hm,o,Zb (by simp;omega),Zb (by decide),A];rfl
    rw[m (λb=>(step r.A b λp=>some (.inl (1,p)))) (λb=>(step r.B b λp=>some (.inl (2,p)))) (λb=>rfl)];simp only[Za];cases Qdm x (Q3 x r.Xi) r.A<;>cases Qdm x (Q3 x r.Xi) r.B<;>cases Qc3 x (Q3 x r.Xi) r.A<;>cases Qc3 x (Q3 x r.Xi) r.B<;>cases (r.A==r.B)<;>rfl
 ·have a:n<i:=by omega
  rw[Zc (decide_eq_true (ZR.2 a)),QY (show n<x.Xc.length by omega)];simp only[Za];rw[QD a (by omega),getElem_take];cases x.Xc[n].Xj==r.Xj<;>rfl
def Qjy {k r e:Int} {l:List QT} (h:l.length<=1000000000):QcL l k j r e=some (l++(prob k j r e).map toR):=by
 unfold QcL prob;by_cases a:e=0
 ·rw[Zc (by simp[a]),Zc a,Yv,Yc]
 ·rw[Zb (by simpa using a),Zb a,QdX (by rw[length_singleton];omega)];rfl
def QBD (l:List Qe):Qhs l=some (!(((l.length:Int)==0)||((l.headD QcV).Xi !=0))):=by
 unfold Qhs
 cases l with
 | nil=>rfl
 | cons f l=>
  have e:(((f::l).length:Int)==0)=false:=by simp;omega
  rw[e,show idx (f::l) (0:Int)=some f from rfl,Zb (by decide)];simp[bne]
def Qzg {x:Qc} (h:Qqc x):Qhw x=some ((Qbb x).map toR):=by
 obtain⟨hx,f,t,u⟩:=h;unfold Qhw;rw[Qzb f];simp only[Za];unfold Qbb;by_cases l:Qgc x=0
 ·rw[Zb (by simp[l]),Zc l];have d:=Qum l;have one:∀k j r e,((prob k j r e).map toR).length<=1:=λk j r e=>by rw[Yd];exact QiE k j r e
  have B:∀j,((Qhk x j).map toR).length<=1:=λj=>by rw[Yd];exact Qlp x j
  have H:((Qex x).map toR).length<=1000:=by have:=QcW x.Xd.length (Qhk x) 1 (λj _=>Qlp x j);rw[Yd];unfold Qex;omega
  have z:∀k,k<x.Xa.length->((QgB x k).map toR).length<=1001:=λk b=>by rw[Yd];unfold QgB;rw[Zd b];dsimp only;have:=QoN (x:=x) (i:=k) (hx.2 _ (Zo b));have:=QiE k (-1) (-1) (Qjb x k x.Xa[k]);rw[Zf];omega
  have I:((Qgd x).map toR).length<=1001000:=by have:=QcW x.Xa.length (λk=>(QgB x k).map toR) 1001 z;have:=hx.1;unfold Qgd;rw[map_flatMap];omega
  have C:=hx.1;rw[Qep x.Xd.length (λk=>(Qhk x k).map toR) 1 (λj _=>B j) [] (λk b a c=>?_) (λa=>Zb (by simp))]
  ·rw[show ([]:List QT)++(range x.Xd.length).flatMap (λk=>(Qhk x k).map toR)=(Qex x).map toR by unfold Qex;rw[map_flatMap];rfl];simp only[Za];rw[Qep x.Xa.length (λk=>(QgB x k).map toR) 1001 z ((Qex x).map toR) (λk b a c=>?_) (λa=>Zb (by simp))]
   ·rw[show (Qex x).map toR++(range x.Xa.length).flatMap (λk=>(QgB x k).map toR)=(Qex x).map toR++(Qgd x).map toR by unfold Qgd;rw[map_flatMap]];simp only[Za];rw[Qep x.Xc.length (λk=>(Qko x k).map toR) 1 (λj _=>by rw[Yd];exact Qru x j) ((Qex x).map toR++(Qgd x).map toR) (λk b a c=>?_) (λa=>Zb (by simp))]
    ·simp only[Za];rw[Yz,Yz];unfold Qqb;rw[map_flatMap]
    ·rw[Zf] at c;rw[Zc (decide_eq_true (ZR.2 b))];dsimp only;rw[Qzf hx u b (Zd b)];simp only[Za];rw[Qjy (by omega)];simp only[Za];unfold Qko;rw[QD b (by omega),Zd b]
   ·have v:=QY b;have D:=hx.2 _ (Zo b);rw[Zc (decide_eq_true (ZR.2 b))];dsimp only;rw[v];simp only[Za];rw[Qeq (by omega),QBD];simp only[Za];have E:(if decide (Q3 x x.Xa[k].Xj<(k:Int))=true then (QcL a (k:Int) (-1) (-1) 7).bind λt70=>some t70 else (if (!!(((x.Xa[k].Xb.length:Int)==0)||((x.Xa[k].Xb.headD QcV).Xi !=0)))=true then (QcL a (k:Int) (-1) (-1) 11).bind λt76=>some t76 else some a).bind λo=>some o)=
      some (a++(prob (k:Int) (-1) (-1) (Qjb x k x.Xa[k])).map toR):=by
     unfold Qjb;rw[Qma,Qjy (by omega),Qjy (by omega),Bool.not_not]
     cases decide (Q3 x x.Xa[k].Xj<(k:Int)) with
     | true=>rfl
     | false=>
      cases (((x.Xa[k].Xb.length:Int)==0)||((x.Xa[k].Xb.headD QcV).Xi !=0)) with
      | true=>rfl
      | false=>simp[prob]
    rw[E];simp only[Za];have pl:=one k (-1) (-1) (Qjb x k x.Xa[k]);rw[Qep x.Xa[k].Xb.length (λj=>(QhM x k x.Xa[k] j).map toR) 1 (λj _=>by rw[Yd];exact QmL x k _ j) _ (λj p A g=>?_) (λa=>Zb (by simp))]
    ·simp only[Za];unfold QgB;rw[QD b (by omega),Zd b,ZE,Yz];unfold QkG;rw[map_flatMap]
    ·rw[Zf] at g;rw[Zc (decide_eq_true (ZR.2 p))];dsimp only;rw[QY p];simp only[Za];rw[QdS (by omega)];simp only[Za];have hf:field? x (k:Int) (j:Int)=some x.Xa[k].Xb[j]:=Qgz (by omega) (by omega) v (QY p);rw[Qze hx t d v hf];simp only[Za];rw[Qjy (by omega),Qjy (by omega)];simp only[Za];unfold QhM Qk6;rw[QD p (by omega),Zd p];dsimp only;by_cases s:Qal x.Xa[k] x.Xa[k].Xb[j].Xj<(j:Int)
     ·rw[Zc (by simpa using s),Zc s];rfl
     ·rw[Zb (by simpa using s),Zb s];rfl
  ·rw[Zm] at c;rw[Zc (decide_eq_true (ZR.2 b))];dsimp only;rw[Qjy (by omega)];simp only[Za];have F:(x.Xd.take k).length=k:=by rw[ZU];omega
   have q:∀n,n<k->∀h:n<x.Xd.length,(x.Xd.take k)[n]?=some x.Xd[n]:=λn d h=>by rw[getElem?_take,Zc d,Zd h]
   refine QnJ k (λn=>match x.Xd[n]? with | some m=>m.Xj==x.Xd[k].Xj | none=>false) a (λ_=>a++(prob (-1) (k:Int) (-1) 7).map toR) (λn d hp=>?_) (λn d hp=>?_) (Zb (by simp)) (λhp=>?_) (λn d hp=>?_)
   ·rw[Zd (show n<x.Xd.length by omega)] at hp;dsimp only at hp;rw[Zc (decide_eq_true (ZR.2 d)),QY (show n<x.Xd.length by omega),QY b];simp only[Za];rw[hp,Zb (by decide),QD d (by omega)]
   ·rw[Zd (show n<x.Xd.length by omega)] at hp;dsimp only at hp;rw[Zc (decide_eq_true (ZR.2 d)),QY (show n<x.Xd.length by omega),QY b];simp only[Za];rw[hp,Zc rfl]
   ·have e:((x.Xd.take k).any λm=>m.Xj==x.Xd[k].Xj)=false:=by
     rw[any_eq_false];intro m hm;obtain⟨n,d,rfl⟩:=Ys hm;have y:=hp n (by omega);rw[Zd (show n<x.Xd.length by omega)] at y;dsimp only at y;rw[getElem_take,y];decide
    rw[QD b (by omega)];unfold Qhk QwA;rw[Zd b];dsimp only;rw[e];simp[Qbz,prob]
   ·have e:((x.Xd.take k).any λm=>m.Xj==x.Xd[k].Xj)=true:=by
     rw[Zd (show n<x.Xd.length by omega)] at hp;exact Yl.2 ⟨x.Xd[n],Zl (q n d (by omega)),hp⟩
    rw[QD b (by omega)];unfold Qhk QwA;rw[Zd b];dsimp only;rw[e];rfl
 ·rw[Zc (by simpa using l),Zb l,Qjy (by simp)];unfold prob;rw[Zb l];rfl
