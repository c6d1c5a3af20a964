/- The reference model's line of a field. No condition. -/
import Derived.Test.YtohojolgolinoaaGreatDoorEdO
set_option linter.all false
open List
namespace Go.Proofs.YtohojolgolinoaaGreatDoor
open Go.Sim
variable {lo:Int} {hi:Int} {w:List Str} {j:Int}
def Nr {s:Str} (h:QX s=true):Aa s=s:=by unfold Aa;rw[Zb];rintro rfl;cases h
def rLine0 {n o u:Str} {g:Lz} (b:n.length<=12) (a:-1000000000<=lo/\lo<=1000000000):Bi ⟨n,o,u,0,lo,hi,w,g⟩=some (10::([107,101,121]++toks [.str n,.int lo])):=by unfold Bi Da D1;simp only[Za];rw[show idx ([([107,101,121]:Str),([114,101,102]:Str),([110,117,109]:Str),([112,105,99,107]:Str),([100,97,121]:Str),([115,116,101,112]:Str),([115,117,109]:Str),([115,104,97,114,101]:Str),([99,111,112,121]:Str)]) (0:Int)=some [107,101,121] from rfl];simp only[Za];rw[AI sm,AI sf,AI sf];simp only[Za];rw[Zb dc];simp only[Za];rw[Zb dc];simp only[Za];have c:=Ci (n:=lo) ui;rw[Zc dc,Bx sf a];simp only[Za];rw[Zb dc];simp only[Za];rw[Zb dc];simp[toks,BR]
def rLine1 {n o u:Str} {g:Lz} (c:n.length<=12) (d:(Aa o).length<=12) (a:-1000000000<=lo/\lo<=1000000000) (b:-1000000000<=hi/\hi<=1000000000):Bi ⟨n,o,u,1,lo,hi,w,g⟩=some (10::([114,101,102]++toks [.str n,.str (Aa o),.int lo,.int hi])):=by unfold Bi Da D1;simp only[Za];rw[show idx ([([107,101,121]:Str),([114,101,102]:Str),([110,117,109]:Str),([112,105,99,107]:Str),([100,97,121]:Str),([115,116,101,112]:Str),([115,117,109]:Str),([115,104,97,114,101]:Str),([99,111,112,121]:Str)]) (1:Int)=some [114,101,102] from rfl];simp only[Za];rw[AI sm,AI sf,AI sf];simp only[Za];rw[Zb dc];simp only[Za];rw[Zc dc,AI sf,Fm];simp only[Za];rw[AI sf];simp only[Za];have e:=Ci (n:=lo) ui;rw[Zc dc,Bx sf a];simp only[Za];rw[Zc dc,Bx sf b];simp only[Za];rw[Zb dc];simp[toks,BR]
def rLine2 {n o u:Str} {g:Lz} (c:n.length<=12) (a:-1000000000<=lo/\lo<=1000000000) (b:-1000000000<=hi/\hi<=1000000000):Bi ⟨n,o,u,2,lo,hi,w,g⟩=some (10::([110,117,109]++toks [.str n,.int lo,.int hi])):=by unfold Bi Da D1;simp only[Za];rw[show idx ([([107,101,121]:Str),([114,101,102]:Str),([110,117,109]:Str),([112,105,99,107]:Str),([100,97,121]:Str),([115,116,101,112]:Str),([115,117,109]:Str),([115,104,97,114,101]:Str),([99,111,112,121]:Str)]) (2:Int)=some [110,117,109] from rfl];simp only[Za];rw[AI sm,AI sf,AI sf];simp only[Za];rw[Zb dc];simp only[Za];rw[Zb dc];simp only[Za];have d:=Ci (n:=lo) ui;rw[Zc dc,Bx sf a];simp only[Za];rw[Zc dc,Bx sf b];simp only[Za];rw[Zb dc];simp[toks,BR]
def rLine4 {n o u:Str} {g:Lz} (c:n.length<=12) (d:(Aa o).length<=12) (a:-1000000000<=lo/\lo<=1000000000) (b:-1000000000<=hi/\hi<=1000000000):Bi ⟨n,o,u,4,lo,hi,w,g⟩=some (10::([100,97,121]++toks [.str n,.str (Aa o),.int lo,.int hi])):=by unfold Bi Da D1;simp only[Za];rw[show idx ([([107,101,121]:Str),([114,101,102]:Str),([110,117,109]:Str),([112,105,99,107]:Str),([100,97,121]:Str),([115,116,101,112]:Str),([115,117,109]:Str),([115,104,97,114,101]:Str),([99,111,112,121]:Str)]) (4:Int)=some [100,97,121] from rfl];simp only[Za];rw[AI sm,AI sf,AI sf];simp only[Za];rw[Zb dc];simp only[Za];rw[Zc dc,AI sf,Fm];simp only[Za];rw[AI sf];simp only[Za];have e:=Ci (n:=lo) ui;rw[Zc dc,Bx sf a];simp only[Za];rw[Zc dc,Bx sf b];simp only[Za];rw[Zb dc];simp[toks,BR]
def rLine5 {n o u:Str} {g:Lz} (c:n.length<=12) (d:(Aa o).length<=12) (a:-1000000000<=lo/\lo<=1000000000) (b:-1000000000<=hi/\hi<=1000000000):Bi ⟨n,o,u,5,lo,hi,w,g⟩=some (10::([115,116,101,112]++toks [.str n,.str (Aa o),.int lo,.int hi])):=by unfold Bi Da D1;simp only[Za];rw[show idx ([([107,101,121]:Str),([114,101,102]:Str),([110,117,109]:Str),([112,105,99,107]:Str),([100,97,121]:Str),([115,116,101,112]:Str),([115,117,109]:Str),([115,104,97,114,101]:Str),([99,111,112,121]:Str)]) (5:Int)=some [115,116,101,112] from rfl];simp only[Za];rw[AI sm,AI sf,AI sf];simp only[Za];rw[Zb dc];simp only[Za];rw[Zc dc,AI sf,Fm];simp only[Za];rw[AI sf];simp only[Za];have e:=Ci (n:=lo) ui;rw[Zc dc,Bx sf a];simp only[Za];rw[Zc dc,Bx sf b];simp only[Za];rw[Zb dc];simp[toks,BR]
def rLine6 {n o u:Str} {g:Lz} (b:n.length<=12) (c:(Aa o).length<=12) (a:Aa o=o):Bi ⟨n,o,u,6,lo,hi,w,g⟩=some (10::([115,117,109]++toks [.str n,.str o])):=by unfold Bi Da D1;simp only[Za];rw[show idx ([([107,101,121]:Str),([114,101,102]:Str),([110,117,109]:Str),([112,105,99,107]:Str),([100,97,121]:Str),([115,116,101,112]:Str),([115,117,109]:Str),([115,104,97,114,101]:Str),([99,111,112,121]:Str)]) (6:Int)=some [115,117,109] from rfl];simp only[Za];rw[AI sm,AI sf,AI sf];simp only[Za];rw[Zb dc];simp only[Za];rw[Zc dc,AI sf,Fm];simp only[Za];rw[AI sf];simp only[Za];rw[Zb dc];simp only[Za];rw[Zb dc];simp only[Za];rw[Zb dc];simp[toks,BR,a]
def rLine7 {n o u:Str} {g:Lz} (d:n.length<=12) (hu:u.length<=12) (e:(Aa o).length<=12) (a:Aa o=o) (b:-1000000000<=lo/\lo<=1000000000) (c:-1000000000<=hi/\hi<=1000000000):Bi ⟨n,o,u,7,lo,hi,w,g⟩=some (10::([115,104,97,114,101]++toks [.str n,.str u,.str o,.int lo,.int hi])):=by unfold Bi Da D1;simp only[Za];rw[show idx ([([107,101,121]:Str),([114,101,102]:Str),([110,117,109]:Str),([112,105,99,107]:Str),([100,97,121]:Str),([115,116,101,112]:Str),([115,117,109]:Str),([115,104,97,114,101]:Str),([99,111,112,121]:Str)]) (7:Int)=some [115,104,97,114,101] from rfl];simp only[Za];rw[AI sm,AI sf,AI sf];simp only[Za];rw[Zc dc,AI sf,AI sf];simp only[Za];rw[Zc dc,AI sf,Fm];simp only[Za];rw[AI sf];simp only[Za];have f:=Ci (n:=lo) ui;rw[Zc dc,Bx sf b];simp only[Za];rw[Zc dc,Bx sf c];simp only[Za];rw[Zb dc];simp[toks,BR,a]
def rLine8 {n o u:Str} {g:Lz} (b:n.length<=12) (hu:u.length<=12) (c:(Aa o).length<=12) (a:Aa o=o):Bi ⟨n,o,u,8,lo,hi,w,g⟩=some (10::([99,111,112,121]++toks [.str n,.str u,.str o])):=by unfold Bi Da D1;simp only[Za];rw[show idx ([([107,101,121]:Str),([114,101,102]:Str),([110,117,109]:Str),([112,105,99,107]:Str),([100,97,121]:Str),([115,116,101,112]:Str),([115,117,109]:Str),([115,104,97,114,101]:Str),([99,111,112,121]:Str)]) (8:Int)=some [99,111,112,121] from rfl];simp only[Za];rw[AI sm,AI sf,AI sf];simp only[Za];rw[Zc dc,AI sf,AI sf];simp only[Za];rw[Zc dc,AI sf,Fm];simp only[Za];rw[AI sf];simp only[Za];rw[Zb dc];simp only[Za];rw[Zb dc];simp only[Za];rw[Zb dc];simp[toks,BR,a]
def ID (f:Qe):Str:=FY f++toks (AP f)
def oW (l:List (Str×Int)):toks (l.flatMap λp=>[AnyV.str p.1,AnyV.int p.2])=l.flatMap λp=>(32::p.1)++(32::Lib.itoa p.2):=by
 induction l with
 | nil=>rfl
 | cons a l b=>rw[flatMap_cons,flatMap_cons,<-b];simp[toks,BR]
def rLine3 {n o u:Str} {g:Lz} (v:n.length<=12) (hl:w.length=g.length) (m:w.length<=12) (q:∀s∈w,s.length<=12) (r:∀x∈g,0<=x/\x<=1048576):
  Bi ⟨n,o,u,3,lo,hi,w,g⟩=some (10::([112,105,99,107]++toks ([.str n,.int (w.length:Int)]++(w.zip g).flatMap λp=>[.str p.1,.int p.2]))):=by
 have hz:(w.zip g).length=w.length:=by rw[length_zip];omega
 unfold Bi Da D1;simp only[Za];rw[show idx ([([107,101,121]:Str),([114,101,102]:Str),([110,117,109]:Str),([112,105,99,107]:Str),([100,97,121]:Str),([115,116,101,112]:Str),([115,117,109]:Str),([115,104,97,114,101]:Str),([99,111,112,121]:Str)]) (3:Int)=some [112,105,99,107] from rfl];simp only[Za];rw[AI sm,AI sf,AI sf];simp only[Za];rw[Zb dc];simp only[Za];rw[Zb dc];simp only[Za];rw[Zb dc];simp only[Za];rw[Zb dc];simp only[Za];have y:=Ci (n:=(w.length:Int)) ui;rw[Zc dc,Bx sf om];simp only[Za];have i:∀p∈w.zip g,p.1.length<=12/\0<=p.2/\p.2<=1048576/\(Lib.itoa p.2).length<=20:=λp hp=>by have⟨a,b⟩:=p;have h:=of_mem_zip hp;have l:=r b h.2;exact⟨q a h.1,l.1,l.2,Ci (by unfold I64;dsimp only;omega)⟩
 rw[Dl (w.zip g) (λp=>(32::p.1)++(32::Lib.itoa p.2)) 40 (λp hp=>?_) _ (λk t f d=>?_) (λf=>?_)]
 ·simp only[Za];have e:∀a b:List AnyV,toks (a++b)=toks a++toks b:=λa b=>by unfold toks;rw[ZM]
  rw[e,oW];simp[toks,BR]
 ·have:=i p hp;simp only[Ze,Zj];omega
 ·have c:k<w.length:=by omega
  have hp:=i _ (Zr t);rw[getElem_zip] at hp ⊢;dsimp only at hp ⊢;simp only[Ze,Zj,Zm] at d;rw[Zc (decide_eq_true (ZT.2 c)),AI (by rw[length_singleton];omega),QY c,QY (show k<g.length by omega)];simp only[Za];rw[AI (by rw[Ze,length_singleton];omega)];simp only[Za];rw[Bx (by rw[Ze,Ze,length_singleton];omega) om,QD c om];simp
 ·rw[hz,Zb sm]
def oX {f:Qe} (h:AH f=true):Bi f=some (10::ID f):=by
 unfold AH at h;simp only[Zh] at h;have⟨⟨e,_⟩,hp⟩:=h;have a:=CM e;have⟨n,o,u,k,lo,hi,w,g⟩:=f;have c:∀{s:Str},QX s=true->(Aa s).length<=12:=λ{s} b=>by rw[Nr b];exact CM b
 unfold Av at hp;dsimp only at hp e a;by_cases i:k=0
 ·subst i;rw[Zc rfl] at hp;have:=Aq hp;rw[rLine0 a om];rfl
 rw[Zb i] at hp;by_cases l:k=1
 ·subst l;rw[Zc rfl] at hp;simp only[Zh] at hp;have:=BS hp.2;rw[rLine1 a (c hp.1) om om];rfl
 rw[Zb l] at hp;by_cases m:k=2
 ·subst m;rw[Zc rfl] at hp;have:=BS hp;rw[rLine2 a om om];rfl
 rw[Zb m] at hp;by_cases p:k=3
 ·subst p;rw[Zc rfl] at hp;simp only[DT,Zh,ZD,Yj] at hp;have⟨z,⟨⟨A,hl⟩,_⟩,d⟩:=hp;have B:=(Aq A).2;rw[rLine3 a om om (λs b=>CM (d s b)) (λx hx=>Aq (z x hx))];rfl
 rw[Zb p] at hp;by_cases q:k=4
 ·subst q;rw[Zc rfl] at hp;simp only[Zh] at hp;have:=BS hp.2;have C:(Aa o).length<=12:=by
   by_cases b:o=[]
   ·subst b;decide
   ·exact c (by simpa[b] using hp.1)
  rw[rLine4 a C om om];rfl
 rw[Zb q] at hp;by_cases r:k=5
 ·subst r;rw[Zc rfl] at hp;simp only[Zh] at hp;have:=BS hp.2;rw[rLine5 a (c hp.1) om om];rfl
 rw[Zb r] at hp;by_cases t:k=6
 ·subst t;rw[Zc rfl] at hp;rw[rLine6 a (c hp) (Nr hp)];rfl
 rw[Zb t] at hp;by_cases v:k=7
 ·subst v;rw[Zc rfl] at hp;simp only[Zh] at hp;have:=BS hp.2;rw[rLine7 a (CM hp.1.2) (c hp.1.1) (Nr hp.1.1) om om];rfl
 rw[Zb v] at hp;by_cases y:k=8
 ·subst y;rw[Zc rfl] at hp;simp only[Zh] at hp;rw[rLine8 a (CM hp.2) (c hp.1) (Nr hp.1)];rfl
 rw[Zb y] at hp;cases hp
def FK (k:QA):Str:=(10::([107,105,110,100]++toks [.str k.Xj,.int k.Lo,.int k.Hi]))++k.Xb.flatMap λf=>10::ID f
def Jz (m:AS):Str:=10::([109,111,118,101]++toks [.int m.a0,.int m.a1])
def F5 (l:Qm):Str:=(10::([108,105,102,101]++toks ([.str l.Xj,.int (l.Xe.length:Int)]++l.Xe.map .str)))++l.Xg.flatMap Jz
def IE (r:QL):Str:=10::([114,117,108,101]++toks (Dv r))
def El (x:Qc):Str:=[115,99,104,101,109,97]++(32::Lib.itoa x.Version)
def srcR (x:Qc):Str:=El x++x.Xa.flatMap FK++x.Xd.flatMap F5++x.Xc.flatMap IE
def shift {α:Type} {l:List α} {g h:α->Str} (e:∀a∈l,[10]++g a=h a++[10]):[10]++l.flatMap g=l.flatMap h++[10]:=by
 induction l with
 | nil=>rfl
 | cons a l c=>rw[flatMap_cons,flatMap_cons,<-ZJ,e a Zs,ZJ,c λb hb=>e b (ZE _ hb),ZJ]
def WP (k:QA):[10]++DH k=FK k++[10]:=by have:=shift (l:=k.Xb) (g:=Df) (h:=λf=>10::ID f) λf _=>rfl;unfold DH FK Bp;rw[ZJ _ [10],this];simp
def WR (l:Qm):[10]++DV l=F5 l++[10]:=by have:=shift (l:=l.Xg) (g:=EK) (h:=Jz) λm _=>rfl;unfold DV F5 Bp;rw[ZJ _ [10],this];simp
def oY (x:Qc):srcS x=srcR x++[10]:=by
 have e1:=shift (l:=x.Xa) (g:=DH) (h:=FK) λk _=>WP k;have e2:=shift (l:=x.Xd) (g:=DV) (h:=F5) λk _=>WR k;have a:=shift (l:=x.Xc) (g:=EL) (h:=IE) λk _=>rfl;have e0:Bp [115,99,104,101,109,97] [.int x.Version]=El x++[10]:=by simp[Bp,El,toks,BR]
 unfold srcS srcR;rw[e0,ZJ (El x),e1,<-ZJ,ZJ _ [10],e2,<-ZJ,ZJ _ [10],a];simp
def Jq {a b:Str} (h:[10]++a=b++[10]):a.length=b.length:=by have:=ZU length h;simp only[Ze,Zj,Zm] at this;omega
def oZ {x:Qc} (h:HY x):M4 x=some (srcR x++[10]):=by
 have P:=h.version;have Q:(El x).length<=30:=by have:=Ci (n:=x.Version) ui;unfold El;simp only[Ze,Zj,Zm];omega
 have C:∀k∈x.Xa,(FK k).length<=50000:=λk b=>by rw[<-Jq (WP k)];exact PB (h.kind k b)
 have D:∀k∈x.Xd,(F5 k).length<=20000:=λk b=>by rw[<-Jq (WR k)];exact Lm (h.life k b)
 have rl:∀k∈x.Xc,(IE k).length<=1000:=λk b=>by have e:[10]++EL k=IE k++[10]:=rfl;rw[<-Jq e];exact PC (h.rule k b)
 have R:=DU C;have H:=DU D;have S:=DU rl;have T:=h.kinds;have U:=h.lives;have V:=h.rules;unfold M4;have e0:C5 [115,99,104,101,109,97] x.Version=some (El x):=Bx dc om;rw[e0];simp only[Za];rw[Dl x.Xa FK 50000 C (El x) (λk b c i=>?_) (λc=>Zb sm)]
 ·simp only[Za];rw[Dl x.Xd F5 20000 D (El x++x.Xa.flatMap FK) (λk b c i=>?_) (λc=>Zb sm)]
  ·simp only[Za];rw[Dl x.Xc IE 1000 rl (El x++x.Xa.flatMap FK++x.Xd.flatMap F5) (λk b c i=>?_) (λc=>Zb sm)]
   ·simp only[Za];rw[AI sf];rfl
   ·have E:=h.rule _ (Zr b);simp only[BF,Zh] at E;have⟨⟨⟨⟨⟨r,t⟩,p⟩,u⟩,_⟩,z⟩:=E;have W:=Aq z;have F:=CM r;have X:=CM t;have I:=Lg (GX p);have K:=Lg (GX u);have L:(Aa x.Xc[k].A).length<=100:=I;have M:(Aa x.Xc[k].B).length<=100:=K;simp only[Ze] at i;rw[Zc (decide_eq_true (ZT.2 b))];dsimp only;rw[QY b];simp only[Za];rw[Fm,Fm];simp only[Za];rw[AI (by simp only[Zj,Zm];omega),AI sf,
     AI sf,AI sf,
     AI sf,AI sf,
     AI sf,AI sf]
    simp only[Za];rw[Bx sf om,QD b om];simp[IE,Dv,toks,BR]
  ·have hl:=h.life _ (Zr b);simp only[BT,Zh,ZD,Zk] at hl;have⟨⟨⟨⟨r,t⟩,p⟩,u⟩,z⟩:=hl;have N:=Aq t;have F:=CM r;have O:=Ci (n:=(x.Xd[k].Xe.length:Int)) ui;simp only[Ze] at i;rw[Zc (decide_eq_true (ZT.2 b))];dsimp only;rw[QY b];simp only[Za];rw[AI (by simp only[Zj,Zm];omega),AI sf];simp only[Za];rw[Bx sf om];simp only[Za];rw[Dl x.Xd[k].Xe (λs=>32::s) 20 (λs A=>by have:=CM (p s A);rw[Zj];omega) _ (λq d o a=>?_) (λc=>Zb sm)]
   ·simp only[Za];have Y:=DU (l:=x.Xd[k].Xe) (g:=λs=>32::s) (B:=20) (λs A=>by have:=CM (p s A);rw[Zj];omega);rw[Dl x.Xd[k].Xg Jz 300 (λm hm=>?_) _ (λq d o a=>?_) (λc=>Zb sm)]
    ·simp only[Za];rw[QD b om];have e:(x.Xd[k].Xe.map AnyV.str).flatMap (λv=>32::BR v)=x.Xd[k].Xe.flatMap λs=>32::s:=by
      rw[flatMap_map];rfl
     simp[F5,toks,BR,<-e]
    ·have e:[10]++EK m=Jz m++[10]:=rfl;rw[<-Jq e];exact Ll (TQ om (z m hm))
    ·have hm:=z _ (Zr d);simp only[Bf,Zh] at hm;have Z:=Aq hm.1;have m2:=Aq hm.2;have i1:=Ci (n:=x.Xd[k].Xg[q].a0) ui;simp only[Ze,Zj,Zm] at a;rw[Zc (decide_eq_true (ZT.2 d))];dsimp only;rw[AI (by simp only[Zj,Zm];omega),QY d];simp only[Za];rw[Bx sf om];simp only[Za];rw[Bx sf om,QD d om];simp[Jz,toks,BR]
   ·have A:=CM (p _ (Zr d));simp only[Ze,Zj,Zm] at a;rw[Zc (decide_eq_true (ZT.2 d))];dsimp only;rw[AI (by simp only[Zj,Zm];omega),QY d];simp only[Za];rw[AI sf,QD d om];simp
 ·have y:=h.kind _ (Zr b);simp only[BI,Zh,ZD,Zk] at y;have⟨⟨⟨r,t⟩,p⟩,u⟩:=y;have N:=BS t;have F:=CM r;have O:=Ci (n:=x.Xa[k].Lo) ui;have l2:=Ci (n:=x.Xa[k].Hi) ui;rw[Zc (decide_eq_true (ZT.2 b))];dsimp only;rw[QY b];simp only[Za];rw[AI (by simp only[Zj,Zm];omega),AI sf];simp only[Za];rw[Bx sf om];simp only[Za];rw[Bx sf om];simp only[Za];have fl:∀f∈x.Xa[k].Xb,(10::ID f).length<=4000:=λf hf=>by
   have e:[10]++Df f=(10::ID f)++[10]:=rfl;rw[<-Jq e];exact Lk (EJ (u f hf))
  rw[Dl x.Xa[k].Xb (λf=>10::ID f) 4000 fl _ (λq d o a=>?_) (λc=>Zb sm)]
  ·simp only[Za];rw[QD b om];simp[FK,toks,BR]
  ·have hf:=fl _ (Zr d);simp only[Ze,Zj,Zm] at a;rw[Zc (decide_eq_true (ZT.2 d))];dsimp only;rw[QY d];simp only[Za];rw[oX (u _ (Zr d))];simp only[Za];rw[AI om,QD d om];rfl
def oQ {x:Qc} (h:Fine x):ND x=some (CT x):=by
 have⟨⟨a1,a2⟩,⟨s,r⟩,c⟩:=h;have d:∀(n:Nat) (m:Int),decide ((n:Int)>m)=!decide ((n:Int)<=m):=λn m=>by
  by_cases h:(n:Int)<=m
  ·rw[decide_eq_true h,decide_eq_false om];rfl
  ·rw[decide_eq_false h,decide_eq_true om];rfl
 unfold ND;rw[show C4 x.Version 0 1048576=some (inW x.Version 0 1048576) from rfl];simp only[Za];rw[d,d,d,E8 x.Xa BI 1 (λk a=>?_) (Zb sm),E8 x.Xd BT 1 (λk a=>?_) (Zb sm),E8 x.Xc BF 1 (λk a=>?_) (Zb sm)]
 ·unfold CT
  cases b:CU x with
  | true=>
   have q:=oZ (HZ b);rw[<-oY] at q;simp only[CU,Zh] at b;have⟨⟨⟨⟨⟨⟨e,f⟩,g⟩,i⟩,l⟩,o⟩,p⟩:=b;rw[e,f,g,i,l,o,p,q];simp only[Bool.not_true,Bool.or_self,if_true,Za];rw[Zb dc];by_cases hl:(srcS x).length>8192
   ·rw[Zc so,Zc hl]
   ·rw[Zb so,Zb hl]
  | false=>
   show _=some (1:Int);unfold CU at b
   cases e:inW x.Version 0 1048576<;>cases f:decide ((x.Xa.length:Int)<=6)<;>cases g:decide ((x.Xd.length:Int)<=6)<;>cases i:decide ((x.Xc.length:Int)<=16)<;>
    cases l:x.Xa.all BI<;>cases o:x.Xd.all BT<;>cases p:x.Xc.all BF<;>first | rfl | (rw[e,f,g,i,l,o,p] at b;cases b)
 ·rw[Zc (decide_eq_true (ZT.2 a)),QY a];simp only[Za];rw[dQ];simp only[Za];rw[QD a om];cases BF x.Xc[k]<;>rfl
 ·have hl:=r _ (Zr a);rw[Zc (decide_eq_true (ZT.2 a)),QY a];simp only[Za];rw[dZ hl.1 hl.2];simp only[Za];rw[QD a om];cases BT x.Xd[k]<;>rfl
 ·rw[Zc (decide_eq_true (ZT.2 a)),QY a];simp only[Za];rw[d7 (a2 _ (Zr a))];simp only[Za];rw[QD a om];cases BI x.Xa[k]<;>rfl
def Ha {x:Qc} {n:Str} (hx:x.Xa.length<=1000000):EZ x n=some (Q3 x n):=by
 unfold EZ;rw[Eh x.Xa (λk=>k.Xj==n) (λk a=>?_) ?_]
 ·unfold Q3 AV;cases x.Xa.findIdx? _<;>rfl
 ·rw[Zb sm]
 ·rw[Zc (sa a),QY a,QD a om];rfl
def J9 {q:QA} {n:Str} (hx:q.Xb.length<=1000000):FA q n=some (AD q n):=by
 unfold FA;rw[Eh q.Xb (λk=>k.Xj==n) (λk a=>?_) ?_]
 ·unfold AD AV;cases q.Xb.findIdx? _<;>rfl
 ·rw[Zb sm]
 ·rw[Zc (sa a),QY a,QD a om];rfl
def has_is (x:Qc) (k j:Int):MO x k j=some (field? x k j).isSome:=by
 unfold MO;by_cases hc:(0<=k/\k<x.Xa.length)/\0<=j
 ·have⟨⟨d,g⟩,e⟩:=hc;have⟨q,b,_⟩:=Cj d g;rw[Zb so,b];show some (decide (j<(q.Xb.length:Int)))=_;by_cases a:j<q.Xb.length
  ·have⟨f,hf,_⟩:=Cj e a;rw[E0 d e b hf];simpa using a
  ·cases h:field? x k j with
   | none=>simpa using a
   | some f=>have⟨i,_,_,e1,e2,_,_,c⟩:=Cg h;rw[b] at e1;cases e1;exact (a c).elim
 ·rw[Zc so]
  cases h:field? x k j with
  | none=>rfl
  | some f=>have⟨i,e1,e2,_,_,_,c,_⟩:=Cg h;exact (hc ⟨⟨e1,c⟩,e2⟩).elim
def Ii {x:Qc} {k:Int} (hx:Few x):Fu x k j=some (upIx x k j):=by
 have d:∀g:Qe,(if g.Xi !=1 then some (-1) else (EZ x g.Of).bind λt62=>if decide (t62>=k) then some (-1) else some t62)=some (if g.Xi=1 then DY x k g else -1):=λg=>by
  by_cases a:g.Xi=1
  ·rw[Zb (by simp[a]),Zc a,Ha (by have:=hx.1;omega)];show (if decide (Q3 x g.Of>=k) then some (-1) else some (Q3 x g.Of))=_;unfold DY;by_cases h:Q3 x g.Of<k
   ·rw[Zb so,Zc h]
   ·rw[Zc so,Zb h]
  ·rw[Zc (by simp[a]),Zb a]
 unfold Fu;rw[has_is];unfold upIx
 cases hf:field? x k j with
 | none=>rfl
 | some f=>
  have⟨q,h,s,n,i,l,_,p⟩:=Cg hf;simp only[Za,Option.isSome_some,Bool.not_true];rw[Zb dc,n];simp only[Za];rw[i];simp only[Za];unfold jn;dsimp only;by_cases c:f.Xi=7\/f.Xi=8
  ·rw[Zc (sa c),Zc c];rw[J9 (by have:=hx.2 q l;omega)];simp only[Za];have o:=H5 q.Xb λg=>g.Xj==f.Up;have r:-1<=AD q f.Up:=o.1;have m:AD q f.Up<q.Xb.length:=o.2;by_cases hu:0<=AD q f.Up/\AD q f.Up<j
   ·have⟨g,a,_⟩:=Cj hu.1 m;rw[Zb so,Zc hu.2,E0 h hu.1 n a,a];exact d g
   ·rw[Zc so];by_cases b:AD q f.Up<j
    ·rw[Zc b];have:field? x k (AD q f.Up)=none:=by
      cases a:field? x k (AD q f.Up) with
      | none=>rfl
      | some g=>have⟨_,_,e,_⟩:=Cg a;exact (hu ⟨e,b⟩).elim
     rw[this]
    ·rw[Zb b]
  ·rw[Zb (sa c),Zb c];exact d f
def o0 {x:Qc} {k:Int} {f:Qe} (hx:Few x) (hf:field? x k j=some f):Mm x k j=some (B9 x k f):=by
 have⟨s,t,u,b,d,m,_,p⟩:=Cg hf;unfold Mm;rw[b];simp only[Za];rw[d];simp only[Za];rw[Ha (by have:=hx.1;omega)];simp only[Za];unfold B9;by_cases c:f.Xi≠6\/Q3 x f.Of<=k
 ·rw[Zc (sa c),Zc c]
 rw[Zb (sa c),Zb c];have v:k<Q3 x f.Of:=by
  rcases Int.lt_or_le k (Q3 x f.Of) with h | h
  ·exact h
  ·exact (c (.inr h)).elim
 have⟨q,o,g⟩:=Cj (l:=x.Xa) (i:=Q3 x f.Of) om (FX x f.Of).2;have hl:=hx.2 q g;rw[o];simp only[Za];refine DP q.Xb.length (λn=>((n:Int),((range n).filter (DG x (Q3 x f.Of) k f.Xj q.Xb)).map Int.ofNat)) _ rfl (λn a=>?_) (Zb sm) ?_
 ·rw[Zc (sa a),QY a];simp only[Za];rw[Ii hx];have e:DG x (Q3 x f.Of) k f.Xj q.Xb n=(q.Xb[n].Xi==7&&q.Xb[n].Of==f.Xj&&upIx x (Q3 x f.Of) (n:Int)==k):=by
   unfold DG;rw[Zd a]
  have r:=WF (DG x (Q3 x f.Of) k f.Xj q.Xb) n;rw[WE,e,QD a om]
  cases h0:(q.Xb[n].Xi==7) with
  | false=>rfl
  | true=>
   simp only[Sim.opt,Bool.true_and,if_true,beq_self_eq_true,Za]
   cases y:(q.Xb[n].Of==f.Xj) with
   | false=>rfl
   | true=>
    simp only[Bool.true_and,if_true,beq_self_eq_true,Za]
    cases z:upIx x (Q3 x f.Of) (n:Int)==k with
    | false=>rfl
    | true=>rw[Zc rfl,Zc rfl,CK (by rw[length_singleton];omega)];rfl
 ·unfold shl;rw[o]
def WS {x:Qc} {k:Int} (h:j<0):field? x k j=none:=by unfold field?;rw[Zb om]
def o3 {x:Qc} {k:Int} {f:Qe} (h:field? x k j=some f):∃q∈x.Xa,f∈q.Xb:=by have⟨q,_,a,_,hf,hm,_⟩:=Cg h;rw[Ca _ a] at hf;exact⟨q,hm,Zo hf⟩
def o4 {x:Qc} {k:Int} {q:QA} {f:Qe} (hx:Few x) (h:idx x.Xa k=some q) (hf:field? x k j=some f):
  Mn x k j=some (if (topS x k j f).2=true then ((topS x k j f).1.Xi,(topS x k j f).1) else (-1,Ar)):=by
 have⟨u,o,v,b,c,p,s,t⟩:=Cg hf;rw[h] at b;cases b;unfold Mn topS;rw[Ii hx];simp only[Za];by_cases hu:upIx x k j<0
 ·rw[Zc (sa hu),Zc hu];rfl
 ·rw[Zb (sa hu),Zb hu];have y:=Kn x k j o;have⟨r,m,d⟩:=Cj (l:=x.Xa) (i:=upIx x k j) om om;rw[m,h];simp only[Za];rw[c];simp only[Za];rw[J9 (by have:=hx.2 r d;omega)];simp only[Za];have a:=H5 r.Xb λg=>g.Xj==f.Of;have e:AD r f.Of<r.Xb.length:=a.2;by_cases hi:AD r f.Of<0
  ·rw[Zc (sa hi),WS hi];rfl
  ·rw[Zb (sa hi)];have⟨g,n,_⟩:=Cj (l:=r.Xb) (i:=AD r f.Of) om e;rw[E0 om om m n,n];rfl
def o5 {x:Qc} {k:Int} {f:Qe} (h:(topS x k j f).2=true):∃q∈x.Xa,(topS x k j f).1∈q.Xb:=by
 unfold topS at h ⊢;split at h
 ·cases h
 ·rename_i hu;rw[Zb hu];split at h
  ·cases h
  ·rename_i q a
   cases hf:field? x (upIx x k j) (AD q f.Of) with
   | none=>rw[hf] at h;cases h
   | some g=>exact o3 hf
def Known (x:Qc):Prop:=∀q∈x.Xa,∀g∈q.Xb,0<=g.Xi/\g.Xi<=8
def o6 {x:Qc} (h:CT x=0):Known x:=by
 intro q a g b;unfold CT at h;split at h
 ·rename_i c;exact (EJ ((Cz ((HZ c).kind q a)).2.2 g b)).kind
 ·cases h
def Ns (a:Bool) (c:Int):Ap [⟨a,c⟩]=if a then c else 0:=rfl
def IF (a b:Bool) (c d:Int):Ap [⟨a,c⟩,⟨b,d⟩]=if a then c else if b then d else 0:=rfl
def o7 {x:Qc} {k:Int} {q:QA} {f:Qe} (hx:Few x) (hl:x.Xd.length<=1000) (c:Known x) (d:idx x.Xa k=some q) (hf:field? x k j=some f):M1 x k j=some (Be x q k j f):=by
 have⟨Z,L,M,m,a,o,N,O⟩:=Cg hf;rw[d] at m;cases m;have D:=o4 hx d hf;have E:0<=f.Xi/\f.Xi<=8:=by rw[Ca _ M] at a;exact c q o f (Zo a)
 unfold M1;rw[d];simp only[Za];rw[a];simp only[Za];rw[Ii hx,J9 (by have:=hx.2 q o;omega),o0 hx hf];simp only[Za];unfold jn;dsimp only;unfold Be;by_cases t:f.Xi=0
 ·rw[Zc t,Ns,t];by_cases p:j>0
  ·rw[decide_eq_true p];rfl
  ·rw[decide_eq_false p];rfl
 have P:(f.Xi==0)=false:=by simpa using t
 rw[Zb t,P];simp only[Bool.false_and];rw[Zb dc,Zb dc];by_cases u:f.Xi=1
 ·rw[Zc u,Ns,u];show (if decide (upIx x k j<0) then some 12 else some 0)=_;by_cases hu:upIx x k j<0
  ·rw[Zc (sa hu),Zc (sa hu)]
  ·rw[Zb (sa hu),Zb (sa hu)]
 rw[Zb u];by_cases I:f.Xi=2
 ·rw[I];rfl
 by_cases K:f.Xi=3
 ·rw[K];rfl
 have Q:(f.Xi==1)=false:=by simpa using u
 have R:(f.Xi==2)=false:=by simpa using I
 have S:(f.Xi==3)=false:=by simpa using K
 rw[Q,R,S];simp only[Yo,if_false,Za];by_cases v:f.Xi=4
 ·rw[Zc v,Ns,Zc (by simp[v])];by_cases y:f.Of=[]
  ·rw[Zc (by simp[y]),Zb (by simp[y])]
  ·rw[Zb (sa y)];have F:(f.Of !=[])=true:=by simpa using y
   rw[F,Bool.true_and];by_cases z:AD q f.Of<0\/AD q f.Of>=j
   ·have:(decide (AD q f.Of<0)||decide (AD q f.Of>=j))=true:=by simpa using z
    rw[this,Bool.true_or];rfl
   ·have e:(decide (AD q f.Of<0)||decide (AD q f.Of>=j))=false:=by
     rw[Bool.eq_false_iff];simpa using z
    have⟨g,A,_⟩:=Cj (l:=q.Xb) (i:=AD q f.Of) om om;rw[e,Bool.false_or,E0 L om d A,A];rw[Zb dc];simp only[Za];cases g.Xi !=4<;>rfl
 have T:(f.Xi==4)=false:=by simpa using v
 rw[Zb v,T,Zb dc];by_cases B:f.Xi=5
 ·rw[Zc B,Ns,Zc (by simp[B]),E8 x.Xd (λl=>!(l.Xj==f.Of)) (0:Int) (λn c=>?_) (Zb sm)]
  ·simp only[Za];have e:(x.Xd.all λl=>!(l.Xj==f.Of))=!(x.Xd.any λl=>l.Xj==f.Of):=by
    rw[not_any_eq_all_not]
   rw[e];cases (x.Xd.any λl=>l.Xj==f.Of)<;>rfl
  ·rw[Zc (decide_eq_true (ZT.2 c)),QY c];simp only[Za];rw[QD c om];cases x.Xd[n].Xj==f.Of<;>rfl
 have U:(f.Xi==5)=false:=by simpa using B
 rw[Zb B,U,Zb dc];by_cases C:f.Xi=6
 ·rw[Zc C,IF,Zc (by simp[C])];cases decide ((B9 x k f).1<0)<;>cases ((B9 x k f).2.length:Int) !=1<;>rfl
 have V:(f.Xi==6)=false:=by simpa using C
 rw[Zb C,V,Zb dc];unfold Pi;rw[D,d];simp only[Za];rw[a];simp only[Za];by_cases hu:upIx x k j<0
 ·rw[Zc (sa hu)];by_cases b:f.Xi=7
  ·rw[Zc b,IF,Zc (sa hu)];rfl
  ·have H:f.Xi=8:=by omega
   rw[Zb b,Zc H,IF,Zc (sa hu)];rfl
 rw[Zb (sa hu)];have s:decide (upIx x k j<0)=false:=by simpa using hu
 by_cases b:f.Xi=7
 ·have W:(f.Xi==7)=true:=by simp[b]
  rw[Zc b,IF,s,W]
  cases ht:(topS x k j f).2 with
  | false=>rfl
  | true=>
   simp only[Yo,if_false,if_true];rw[Ha (by have:=hx.1;omega)]
   cases h6:((topS x k j f).1.Xi !=6) with
   | true=>rfl
   | false=>simp only[Sim.opt,beq_self_eq_true,if_true,Za];cases Q3 x (topS x k j f).1.Of !=k<;>rfl
 ·have H:f.Xi=8:=by omega
  have X:(f.Xi==7)=false:=by simpa using b
  rw[Zb b,Zc H,IF,s,X]
  cases ht:(topS x k j f).2 with
  | false=>rfl
  | true=>
   have⟨r,z,A⟩:=o5 ht;have Y:=c r z _ A;have hz:(topS x k j f).1.Xi=0\/(topS x k j f).1.Xi=1\/(topS x k j f).1.Xi=2\/(topS x k j f).1.Xi=3\/(topS x k j f).1.Xi=4\/(topS x k j f).1.Xi=5\/(topS x k j f).1.Xi=6\/(topS x k j f).1.Xi=7\/(topS x k j f).1.Xi=8:=by omega
   simp only[Yo,if_false,if_true];unfold Lr;rcases hz with h | h | h | h | h | h | h | h | h<;>rw[h]<;>rfl
def toR (p:QI):QT:=⟨p.Xi,p.Field,p.Rule,p.Code⟩
def o8 {x:Qc} {k:Int} {q:QA} {n:Str} (d:0<=k) (b:idx x.Xa k=some q) (e:(n==([]:Str))=false):
  (A7 x k n=true/\AD q n<0)\/∃g,A7 x k n=false/\0<=AD q n/\idx q.Xb (AD q n)=some g/\BP x k n=((g.Xi !=2)&&(g.Xi !=4)):=by
 have f:decide (k<0)=false:=decide_eq_false om;have a:AD q n<q.Xb.length:=(H5 q.Xb λg=>g.Xj==n).2;unfold A7 BP ruleAt;rw[b,e,f];dsimp only;by_cases hi:AD q n<0
 ·rw[WS hi];exact .inl ⟨rfl,hi⟩
 ·have⟨g,c,_⟩:=Cj (l:=q.Xb) (i:=AD q n) om a;rw[E0 d om b c];exact .inr ⟨g,rfl,om,c,sm⟩
def o9 {x:Qc} {i:Nat} {r:QL} (hx:Few x) (hl:x.Xc.length<=1000) (hi:i<x.Xc.length) (v:x.Xc[i]?=some r):Mw x (i:Int)=some (E1 x i r):=by
 unfold Mw;rw[BN,v];simp only[Za];have h:(x.Xc.take i).length=i:=by rw[ZY];omega
 rw[E8 (x.Xc.take i) (λs=>!(s.Xj==r.Xj)) (7:Int) (λn d=>?_) (by rw[h];exact Zb sm)]
 ·simp only[Za];have e:((x.Xc.take i).all λs=>!(s.Xj==r.Xj))=!((x.Xc.take i).any λs=>s.Xj==r.Xj):=by
   rw[not_any_eq_all_not]
  rw[e];unfold E1
  cases t:((x.Xc.take i).any λs=>s.Xj==r.Xj) with
  | true=>rfl
  | false=>
   simp only[Bool.not_false,if_true];rw[Ha (by have:=hx.1;omega)];simp only[Za];by_cases f:Q3 x r.Xi<0
   ·rw[Zc (sa f),decide_eq_true f];rfl
   ·rw[Zb (sa f),decide_eq_false f];have⟨q,u,k⟩:=Cj (l:=x.Xa) (i:=Q3 x r.Xi) om (FX x r.Xi).2;rw[u];unfold jn;dsimp only;have m:∀{body:Int×Bool->Option ((Int×Bool)⊕(Bool⊕Int))},(∀b,body (0,b)=if A7 x (Q3 x r.Xi) r.A=true then some (.inr (.inr 12)) else some (.inl (1,b||BP x (Q3 x r.Xi) r.A)))->
      (∀b,body (1,b)=if A7 x (Q3 x r.Xi) r.B=true then some (.inr (.inr 12)) else some (.inl (2,b||BP x (Q3 x r.Xi) r.B)))->(∀b,body (2,b)=some (.inr (.inl b)))->
      Qr body (0,false)=some (if A7 x (Q3 x r.Xi) r.A||A7 x (Q3 x r.Xi) r.B then .inr 12 else .inl (BP x (Q3 x r.Xi) r.A||BP x (Q3 x r.Xi) r.B)):=λh0 y z=>by
     rw[Dz,h0]
     cases A7 x (Q3 x r.Xi) r.A with
     | true=>rfl
     | false=>
      rw[Zb dc];dsimp only;rw[Dz,y]
      cases A7 x (Q3 x r.Xi) r.B with
      | true=>rfl
      | false=>rw[Zb dc];dsimp only;rw[Dz,z];simp
    have step:∀(n:Str) (b:Bool) (c:Bool->Option ((Int×Bool)⊕(Bool⊕Int))),(if n==([]:Str) then c b else (Option.some q).bind λt55=>(Option.some n).bind λt59=>(FA t55 t59).bind λt61=>if decide (t61<0) then some (.inr (.inr 12)) else (Option.some q).bind λt67=>(idx t67.Xb t61).bind λt71=>c (b||((t71.Xi !=2)&&(t71.Xi !=4))))=
      if A7 x (Q3 x r.Xi) n=true then some (.inr (.inr 12)) else c (b||BP x (Q3 x r.Xi) n):=λn b c=>by
     cases d:(n==([]:Str)) with
     | true=>
      have hm:A7 x (Q3 x r.Xi) n=false:=by unfold A7;rw[d];rfl
      have o:BP x (Q3 x r.Xi) n=false:=by unfold BP;rw[d];rfl
      rw[hm,o,Zc rfl,Zb dc,Bool.or_false]
     | false=>
      rw[Zb dc];simp only[Za];rw[J9 (by have:=hx.2 q k;omega)];simp only[Za];rcases o8 om u d with⟨hm,hi⟩ | ⟨g,hm,hi,A,o⟩
      ·rw[hm,Zc (sa hi),Zc rfl]
      ·rw[hm,o,Zb so,Zb dc,A];rfl
    rw[m (λb=>step r.A b λp=>some (.inl (1,p))) (λb=>step r.B b λp=>some (.inl (2,p))) (λb=>rfl)];simp only[Za];cases A7 x (Q3 x r.Xi) r.A<;>cases A7 x (Q3 x r.Xi) r.B<;>cases BP x (Q3 x r.Xi) r.A<;>cases BP x (Q3 x r.Xi) r.B<;>cases (r.A==r.B)<;>rfl
 ·have a:n<i:=by omega
  rw[Zc (decide_eq_true (ZT.2 a)),QY (show n<x.Xc.length by omega)];simp only[Za];rw[QD a om,getElem_take];cases x.Xc[n].Xj==r.Xj<;>rfl
def G1 {k r e:Int} {l:List QT} (h:l.length<=1000000000):Do l k j r e=some (l++(prob k j r e).map toR):=by
 unfold Do prob;by_cases a:e=0
 ·rw[Zc (by simp[a]),Zc a,Yy,Yg]
 ·rw[Zb (sa a),Zb a,CK (by rw[length_singleton];omega)];rfl
def pA (l:List Qe):MG l=some (!(((l.length:Int)==0)||((l.headD Ar).Xi !=0))):=by
 unfold MG
 cases l with
 | nil=>rfl
 | cons f l=>
  have e:(((f::l).length:Int)==0)=false:=by simp;omega
  rw[e,show idx (f::l) (0:Int)=some f from rfl,Zb dc];simp[bne]
def aM {x:Qc} (h:IZ x):NE x=some ((AN x).map toR):=by
 have⟨hx,f,t,u⟩:=h;unfold NE;rw[oQ f];simp only[Za];unfold AN;by_cases l:CT x=0
 ·rw[Zb (by simp[l]),Zc l];have d:=o6 l;have one:∀k j r e,((prob k j r e).map toR).length<=1:=λk j r e=>by rw[Yh];exact GQ k j r e
  have B:∀j,((C2 x j).map toR).length<=1:=λj=>by rw[Yh];exact L3 x j
  have H:((CX x).map toR).length<=1000:=by have:=DR x.Xd.length (C2 x) 1 (λj _=>L3 x j);rw[Yh];unfold CX;omega
  have z:∀k,k<x.Xa.length->((Cf x k).map toR).length<=1001:=λk b=>by rw[Yh];unfold Cf;rw[Zd b];dsimp only;have:=Th (x:=x) (i:=k) (hx.2 _ (Zr b));have:=GQ k (-1) (-1) (kindE x k x.Xa[k]);rw[Ze];omega
  have I:((DF x).map toR).length<=1001000:=by have:=DR x.Xa.length (λk=>(Cf x k).map toR) 1001 z;have:=hx.1;unfold DF;rw[map_flatMap];omega
  have C:=hx.1;rw[EG x.Xd.length (λk=>(C2 x k).map toR) 1 (λj _=>B j) [] (λk b a c=>?_) (λa=>Zb sm)]
  ·rw[show ([]:List QT)++(range x.Xd.length).flatMap (λk=>(C2 x k).map toR)=(CX x).map toR by unfold CX;rw[map_flatMap];rfl];simp only[Za];rw[EG x.Xa.length (λk=>(Cf x k).map toR) 1001 z ((CX x).map toR) (λk b a c=>?_) (λa=>Zb sm)]
   ·rw[show (CX x).map toR++(range x.Xa.length).flatMap (λk=>(Cf x k).map toR)=(CX x).map toR++(DF x).map toR by unfold DF;rw[map_flatMap]];simp only[Za];rw[EG x.Xc.length (λk=>(EH x k).map toR) 1 (λj _=>by rw[Yh];exact Tg x j) ((CX x).map toR++(DF x).map toR) (λk b a c=>?_) (λa=>Zb sm)]
    ·simp only[Za];rw[Yu,Yu];unfold IQ;rw[map_flatMap]
    ·rw[Ze] at c;rw[Zc (decide_eq_true (ZT.2 b))];dsimp only;rw[o9 hx u b (Zd b)];simp only[Za];rw[G1 om];simp only[Za];unfold EH;rw[QD b om,Zd b]
   ·have v:=QY b;have D:=hx.2 _ (Zr b);rw[Zc (decide_eq_true (ZT.2 b))];dsimp only;rw[v];simp only[Za];rw[Ha om,pA];simp only[Za];have E:(if decide (Q3 x x.Xa[k].Xj<(k:Int)) then (Do a (k:Int) (-1) (-1) 7).bind λt70=>some t70 else (if !!(((x.Xa[k].Xb.length:Int)==0)||((x.Xa[k].Xb.headD Ar).Xi !=0)) then (Do a (k:Int) (-1) (-1) 11).bind λt76=>some t76 else some a).bind λo=>some o)=
      some (a++(prob (k:Int) (-1) (-1) (kindE x k x.Xa[k])).map toR):=by
     unfold kindE;rw[IF,G1 om,G1 om,Bool.not_not]
     cases decide (Q3 x x.Xa[k].Xj<(k:Int)) with
     | true=>rfl
     | false=>
      cases (((x.Xa[k].Xb.length:Int)==0)||((x.Xa[k].Xb.headD Ar).Xi !=0)) with
      | true=>rfl
      | false=>simp[prob]
    rw[E];simp only[Za];have pl:=one k (-1) (-1) (kindE x k x.Xa[k]);rw[EG x.Xa[k].Xb.length (λj=>(De x k x.Xa[k] j).map toR) 1 (λj _=>by rw[Yh];exact PK x k _ j) _ (λj p A g=>?_) (λa=>Zb sm)]
    ·simp only[Za];unfold Cf;rw[QD b om,Zd b,ZJ,Yu];unfold GG;rw[map_flatMap]
    ·rw[Ze] at g;rw[Zc (decide_eq_true (ZT.2 p))];dsimp only;rw[QY p];simp only[Za];rw[J9 om];simp only[Za];have hf:field? x (k:Int) (j:Int)=some x.Xa[k].Xb[j]:=E0 om om v (QY p);rw[o7 hx t d v hf];simp only[Za];rw[G1 om,G1 om];simp only[Za];unfold De FW;rw[QD p om,Zd p];dsimp only;by_cases s:AD x.Xa[k] x.Xa[k].Xb[j].Xj<(j:Int)
     ·rw[Zc (sa s),Zc s];rfl
     ·rw[Zb (sa s),Zb s];rfl
  ·rw[Zm] at c;rw[Zc (decide_eq_true (ZT.2 b))];dsimp only;rw[G1 om];simp only[Za];have F:(x.Xd.take k).length=k:=by rw[ZY];omega
   have q:∀n,n<k->∀h:n<x.Xd.length,(x.Xd.take k)[n]?=some x.Xd[n]:=λn d h=>by rw[getElem?_take,Zc d,Zd h]
   refine SV k (λn=>match x.Xd[n]? with | some m=>m.Xj==x.Xd[k].Xj | none=>false) a (λ_=>a++(prob (-1) (k:Int) (-1) 7).map toR) (λn d hp=>?_) (λn d hp=>?_) (Zb sm) (λhp=>?_) (λn d hp=>?_)
   ·rw[Zd (show n<x.Xd.length by omega)] at hp;dsimp only at hp;rw[Zc (decide_eq_true (ZT.2 d)),QY (show n<x.Xd.length by omega),QY b];simp only[Za];rw[hp,Zb dc,QD d om]
   ·rw[Zd (show n<x.Xd.length by omega)] at hp;dsimp only at hp;rw[Zc (decide_eq_true (ZT.2 d)),QY (show n<x.Xd.length by omega),QY b];simp only[Za];rw[hp,Zc rfl]
   ·have e:((x.Xd.take k).any λm=>m.Xj==x.Xd[k].Xj)=false:=by
     rw[any_eq_false];intro m hm;obtain⟨n,d,rfl⟩:=Yv hm;have y:=hp n om;rw[Zd (show n<x.Xd.length by omega)] at y;dsimp only at y;rw[getElem_take,y];decide
    rw[QD b om];unfold C2 L2;rw[Zd b];dsimp only;rw[e];simp[Ap,prob]
   ·have e:((x.Xd.take k).any λm=>m.Xj==x.Xd[k].Xj)=true:=by
     rw[Zd (show n<x.Xd.length by omega)] at hp;exact Yp.2 ⟨x.Xd[n],Zo (q n d om),hp⟩
    rw[QD b om];unfold C2 L2;rw[Zd b];dsimp only;rw[e];rfl
 ·rw[Zc (sa l),Zb l,G1 sm];unfold prob;rw[Zb l];rfl
