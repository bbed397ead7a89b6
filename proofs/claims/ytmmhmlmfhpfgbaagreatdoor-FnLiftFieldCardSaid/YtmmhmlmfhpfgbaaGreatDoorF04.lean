/- Texts joined. Conditions: as each theorem names them. -/
import Derived.Test.YtmmhmlmfhpfgbaaGreatDoorF03
set_option maxRecDepth 100000
set_option maxHeartbeats 32000000
set_option linter.unusedVariables false
set_option linter.unusedSimpArgs false
namespace Go.Proofs.YtmmhmlmfhpfgbaaGreatDoor
open Go.RowKit Go.Proofs.Tryz
def Bm(s d:List UInt8):Option (List Ty × Kd):=
 match B9 s with
 |none=>none
 |some S=>match Cs d with
  |none=>none
  |some k=>if B6 S k then some (S,k)else none
theorem Sl{s d:List UInt8}{S:List Ty}{k:Kd}(h:Bm s d=some (S,k)):B9 s=some S/\Cs d=some k/\B6 S k:=by
 unfold Bm at h;cases h1:B9 s with
 |none=>rw[h1]at h;cases h
 |some T=>cases h2:Cs d with
  |none=>rw[h1,h2]at h;cases h
  |some q=>
   rw[h1,h2]at h;simp only at h;split at h
   ·rename_i hr;simp only[aj,aE]at h;obtain⟨rfl,rfl⟩:=h;exact⟨rfl,rfl,hr⟩
   cases h
theorem Dd{s d:List UInt8}{S:List Ty}{k:Kd}(h:Bm s d=some (S,k)):G7 S/\s.length<=400/\scB S=s/\Ck k/\Ax k=d/\B6 S k:=by
 obtain⟨h1,h2,h3⟩:=Sl h;obtain⟨a1,a2,a3⟩:=Jy.1 h1;obtain⟨b1,b2⟩:=Eg.1 h2;exact⟨a1,a2,a3,b1,b2,h3⟩
section
attribute [local go_sem] Qoe Qnf Qmu Qk2 ByteArray.mk_append_mk
theorem Zj(s:List UInt8)(f k:Nat)(hf:f<=k)(hk:k<s.length):(s.drop f).take (k+1 - f)=(s.drop f).take (k - f)++[s[k]]:=by
 have h1:k - f<(s.drop f).length:=aM;rw[show k+1 - f=(k - f)+1 by omega,Cb _ _ h1];simp[show f+(k - f)=k by omega]
theorem Qek(s:List UInt8)(f k:Nat)(hf:f<=k)(hk:k<s.length):s.drop f=(s.drop f).take (k - f)++s[k]::s.drop (k+1):=by
 have e1:(s.drop f).drop (k - f)=s[k]::s.drop (k+1):=by
  rw[List.drop_drop,show f+(k - f)=k by omega];exact List.drop_eq_getElem_cons hk
 rw[<-e1,List.take_append_drop]
theorem Cw(s:List UInt8)(c:UInt8)(m:Int)(hm:m=(c.toNat:Int))(w:World)(hs:s.length<=4000000):
  Calls prog 149 #[s,.int .u8 m] w fun e w'=>
   ∃v,e=.returned v/\w'.ownsRow w 9 1 v (Al c s).length (By (Al c s))/\Below w w w':=by
 have Hm:=Aa hm;have Hlen:=Aa (Jn c s);clear hm;go_enter func149,ntmps149;go_wp2_with fail
 go_loopw [5,6,7] (fun v y i wr=>∃(ps:List (List UInt8)) (f k:Nat),i=.int .i64 k/\k<=s.length/\y=.int .i64 f/\f<=k/\ps.length<=k/\Hid (Al c s=ps++Al c (s.drop f))/\Hid (c∉(s.drop f).take (k - f)) /\
   Hid (wr.ownsRow w 9 1 v ps.length (By ps))/\Hid (Below w w wr)) (fun _ _ i _=>s.length - (intOf i).toNat)
 case atStart=>exact⟨[],0,0,rfl,ag _,rfl,An _,by simp,rfl,by simp[Hid],World.ownsRow_lit (base:=w.heap.size) (e:=9) (size:=1) w #[] 0 (An _) (ag _) rfl,(Ao _ _).alloc (An _) _⟩
 case round=>
  obtain⟨ps,f,k,rfl,hk,rfl,hf,hps,hsp,hno,hown,hb⟩:=hrel;by_cases hlt:k<s.length
  ·have hc:=(s[k]).toNat_lt;by_cases he:s[k]=c
   ·have t1:(((s[k]).toNat:Int) == m)=true:=by rw[Hm.o];exact Bj he
    have Hsp:=Aa (show Al c s=(ps++[(s.drop f).take (k - f)])++Al c (s.drop (k+1))by
     rw[hsp.o,Qek s f k hf hlt,he,Ml c _ _ hno.o];simp only[List.append_assoc,List.singleton_append];have e2:=Qek s f k hf hlt;rw[he]at e2;rw[<-e2])
    have Hz:=Aa hb.o.size;clear he;have k1:(0:Int)<=(f:Int):=aH;have k2:(f:Int)<=(k:Int):=aH;have k3:(k:Int)<=(s.length:Int):=aH;go_wp2_with (at_builtin;refine Nm _ rfl _ _ 57 rfl w 9 a6 16 underlying57 Po rfl wr _ rfl rfl _ _ _ rfl rfl hown.o aU aH Hz.o ?_;intro v' w' hown' hb';have Ho:=Aa (show w'.ownsRow w 9 1 v' (ps++[(s.drop f).take (k - f)]).length (By (ps++[(s.drop f).take (k - f)]))by rw[Jp,ah];exact hown');have Hb:=Aa (hb.o.trans hb');clear hown' hb')
    go_roundw
    case rel=>exact⟨ps++[(s.drop f).take (k - f)],k+1,k+1,by go_num,by omega,by go_num,An _,by rw[ah];simp;omega,Hsp.o,by simp[Hid],Ho.o,Hb.o⟩
    case measure=>simp[intOf];omega
   have t1:(((s[k]).toNat:Int) == m)=false:=by rw[Hm.o];exact Ap he
   have Hno:=Aa (show c∉(s.drop f).take (k+1 - f)by
    rw[Zj s f k hf hlt];simp only[af,aq,not_or];exact⟨hno.o,fun h=>he h.symm⟩)
   clear he;go_wp2_with fail;go_roundw
   case rel=>exact⟨ps,f,k+1,by go_num,by omega,rfl,by omega,by omega,hsp.o,Hno.o,hown.o,hb.o⟩
   case measure=>simp[intOf];omega
  ·obtain rfl:k=s.length:=aH
   have Hsp:=Aa (show Al c s=ps++[s.drop f]by
    have h:=hno.o;rw[au aK]at h;rw[hsp.o,Jc c _ h])
   have Hz:=Aa hb.o.size;have k1:(0:Int)<=(f:Int):=aH;have k2:(f:Int)<=(s.length:Int):=aH;go_wp2_with (at_builtin;refine Nm _ rfl _ _ 57 rfl w 9 a6 16 underlying57 Po rfl wr _ rfl rfl _ _ _ rfl rfl hown.o aU aH Hz.o ?_;intro v' w' hown' hb';have Ho:=Aa (show w'.ownsRow w 9 1 v' (ps++[s.drop f]).length (By (ps++[s.drop f]))by rw[Jp,ah];exact hown');have Hb:=Aa (hb.o.trans hb');clear hown' hb')
   go_ret;refine⟨_,rfl,?_,Hb.o⟩;rw[Hsp.o];exact Ho.o
theorem Qae{b s:List UInt8}(h1:b≠[110])(h2:b≠[116])(h3:b≠[102]):Cg b s=false:=by
 unfold Cg;rw[if_neg h1,if_neg h2,if_neg h3]
theorem Qmv(s:List UInt8):Cg [116] s=(Gr s && !(s == [39,39])):=by
 show (decide (2<s.length) && decide (s.head?=some 39) && decide (s.getLast?=some 39) && Dt (s.drop 1).dropLast)=((decide (2<=s.length) && decide (s.head?=some 39) && decide (s.getLast?=some 39) && Dt (s.drop 1).dropLast) && !(s == [39,39]));rcases aG 2 s.length with h|h
 ·have e1:decide (2<s.length)=true:=aR;have e2:decide (2<=s.length)=true:=aM;have e3:(s == [39,39])=false:=by
   rw[beq_eq_false_iff_ne];rintro rfl;simp at h
  rw[e1,e2,e3];simp
 have e1:decide (2<s.length)=false:=aM;rw[e1];match s,h with
 |[],_=>rfl
 |[_],_=>rfl
 |[a,b],_=>
  by_cases ha:a=39
  ·by_cases hb:b=39
   ·subst ha;subst hb;rfl
   simp[hb]
  simp[ha]
theorem Xl(b s:List UInt8)(w:World)(hs:s.length<=4000000):
  Calls prog 229 #[b,s] w fun e w'=>e=.returned (.bool (Cg b s))/\Below w w w':=by
 by_cases h1:b=[110]
 ·subst h1;have Hp:=Aa (fun W=>D1 s 999999 W hs aH);have hf:Cg [110] s=(match Cx s with|some n=>decide (0<n)|none=>false):=rfl;have hv:(Ef s 999999 && (s != [48]))=Cg [110] s:=by
   rw[hf];cases hd:Cx s with
   |none=>rw[N7 hd];rfl
   |some n=>
    obtain⟨h9,e⟩:=Cl.1 hd;rw[Pb hd];have e1:decide (n<=999999)=true:=by simpa using h9
    rw[e1,Bool.true_and];by_cases h0:n=0
    ·subst h0;rw[e,E9 aH];decide
    have hne:s≠[48]:=by
     intro h;rw[e]at h;have:Ba n=Ba 0:=by rw[h,E9 (n:=0) aH];decide
     exact h0 (Qks this)
    have e2:(s != [48])=true:=by simpa using hne
    rw[e2];simp;omega
  have Hv:=Aa hv;clear hf hv;go_enter func229,ntmps229;go_wp2_with fail;refine(Hp.o _).mono ?_;rintro e w' ⟨n,hn,rfl,_,hb⟩;have Hb:=Aa hb;clear hb;rcases Bool.eq_false_or_eq_true (Ef s 999999)with ho|ho
  ·have Ho:=Aa ho;rw[ho];clear ho;go_wp2_with fail;exact jS
  have Ho:=Aa ho;rw[ho];clear ho;go_wp2_with fail;exact jS
 by_cases h2:b=[116]
 ·subst h2;have Hp:=Aa (fun W=>Zh s W hs);have Hv:=Aa (Qmv s);clear h1;go_enter func229,ntmps229;go_wp2_with fail;refine(Hp.o _).mono ?_;rintro e w' ⟨rfl,rfl⟩;rcases Bool.eq_false_or_eq_true (Gr s)with ho|ho
  ·have Ho:=Aa ho;rw[ho];clear ho;rcases Bool.eq_false_or_eq_true (s == [39,39])with hq|hq
   ·have Hq:=Aa hq;have hq2:(s != [39,39])=false:=by simp[bne,hq]
    go_wp2_with fail;exact jT
   have Hq:=Aa hq;have hq2:(s != [39,39])=true:=by simp[bne,hq]
   go_wp2_with fail;exact jT
  have Ho:=Aa ho;rw[ho];clear ho;go_wp2_with fail;go_ret;exact⟨Em (Cz (by rw[Hv.o,Ho.o];rfl)),Ao _ _⟩
 by_cases h3:b=[102]
 ·subst h3;have Hv:=Aa (show Cg [102] s=(s == [121,101,115])by show decide (s=[121,101,115])=_;by_cases h:s=[121,101,115]<;>simp[h]);clear h1 h2;go_enter func229,ntmps229;go_wp2_with fail;go_ret;exact⟨Em (Cz Hv.o.symm),Ao _ _⟩
 have Hv:=Aa (Qae (s:=s) h1 h2 h3);have q1:(b == [110])=false:=eX;have q2:(b == [116])=false:=eY;have q3:(b == [102])=false:=by simpa using h3
 clear h1 h2 h3;go_enter func229,ntmps229;go_wp2_with fail;go_ret;exact⟨Em (Cz Hv.o.symm),Ao _ _⟩
theorem Xf{α:Type}{g:α->List Value}{k:Nat}(hk:∀x,(g x).length=k):∀(l:List α) (i j:Nat),(hi:i<l.length)->j<k->(l.flatMap g)[i*k+j]?=(g l[i])[j]?
 |[],i,j,hi,_=>by simp at hi
 |x::l,0,j,_,hj=>by
  simp only[Nat.zero_mul,am,List.flatMap_cons,List.getElem_cons_zero];rw[List.getElem?_append_left (by rw[hk];exact hj)]
 |x::l,i+1,j,hi,hj=>by
  have ih:=Xf hk l i j eZ hj;simp only[List.flatMap_cons,List.getElem_cons_succ];rw[List.getElem?_append_right (by rw[hk,Nat.add_mul];omega),hk];rw[show (i+1)*k+j - k=i*k+j by rw[Nat.add_mul];omega];exact ih
theorem Xj{α:Type}{g:α->List Value}{k:Nat}(hk:∀x,(g x).length=k):∀l:List α,(l.flatMap g).length=l.length*k
 |[]=>aK
 |x::l=>by
  rw[List.flatMap_cons,ah,hk,Xj hk l,List.length_cons,Nat.add_mul];omega
theorem B0.elem{w:World}{A:Option Addr}{α:Type}{g:α->List Value}{k:Nat}{l:List α}(hk:∀x,(g x).length=k)(hk0:0<k)(h:B0 w A (l.length*k) (l.flatMap g)){i:Nat}(hi:i<l.length):
  ∃b off,A=some ⟨b,off,none⟩/\b<w.heap.size/\∀j u,(g l[i])[j]?=some u->w.cell? ⟨b,off+(i*k+j),none⟩=some u:=by
 have hpos:0<l.length*k:=Nat.mul_pos aH hk0;obtain⟨b,off,e,hlt,hc⟩:=h.2.2 hpos;refine⟨b,off,e,hlt,fun j u hu=>hc _ u ?_⟩;have hj:j<k:=by
  have:=(List.getElem?_eq_some_iff.1 hu).1;rwa [hk]at this
 rw[Xf hk l i j hi hj];exact hu
def Ky(f:Fd):List Value:=[(f.tag:Int),f.name,.string ⟨(Ax f.kind).toArray⟩,f.given]
def sfV(f:Fd):Value:=.agg #[(f.tag:Int),f.name,.string ⟨(Ax f.kind).toArray⟩,f.given]
def sf0:Value:=.agg #[.int .i64 0,a6,a6,a6]
theorem Ql1(f:Fd):(Ky f).length=4:=rfl
def Dq(w:World)(v:Value)(fs:List Fd):Prop:=∃A c,v=.slice A fs.length c/\fs.length<=1000/\B0 w A (fs.length*4) (fs.flatMap Ky)
theorem Dq.below{w w':World}{v:Value}{fs:List Fd}(h:Dq w v fs)(hb:Below w w w'):Dq w' v fs:=by
 exact jU
theorem Dq.at_{w:World}{A:Option Addr}{fs:List Fd}(hr:B0 w A (fs.length*4) (fs.flatMap Ky)){i:Nat}(hi:i<fs.length):
  ∃b off,A=some ⟨b,off,none⟩/\b<w.heap.size/\w.cell? ⟨b,off+i*4,none⟩=some (.int .i64 (fs[i].tag:Int))/\w.cell? ⟨b,off+i*4+1,none⟩=some (.string ⟨fs[i].name.toArray⟩) /\
   w.cell? ⟨b,off+i*4+2,none⟩=some (.string ⟨(Ax fs[i].kind).toArray⟩)/\w.cell? ⟨b,off+i*4+3,none⟩=some (.string ⟨fs[i].given.toArray⟩):=by
 obtain⟨b,off,e,hlt,hc⟩:=hr.elem Ql1 aJ hi;refine⟨b,off,e,hlt,?_,?_,?_,?_⟩
 ·exact jx
 ·exact jf
 ·exact jq
 have:=hc 3 _ rfl;simpa [Nat.add_assoc]using this
def Kx(t:Ty)(fv:Value):Value:=.agg #[.int .u8 (t.sort.toNat:Int),t.name,fv]
def P6:Value:=.agg #[.int .u8 0,a6,.slice none 0 0]
def stc(x:Ty × Value):List Value:=[.int .u8 (x.1.sort.toNat:Int),x.1.name,x.2]
theorem Qld(x:Ty × Value):(stc x).length=3:=rfl
def Gb(w:World)(v:Value)(xs:List (Ty × Value)):Prop:=∃A c,v=.slice A xs.length c/\xs.length<=1000/\B0 w A (xs.length*3) (xs.flatMap stc)/\∀x∈xs,Dq w x.2 x.1.fields
theorem Gb.below{w w':World}{v:Value}{xs:List (Ty × Value)}(h:Gb w v xs)(hb:Below w w w'):Gb w' v xs:=by
 obtain⟨A,c,e,hl,hr,hf⟩:=h;exact⟨A,c,e,hl,hr.below hb,fun x hx=>(hf x hx).below hb⟩
def Ad(xs:List (Ty × Value)):List Ty:=xs.map (·.1)
def Dy(xs:List (Ty × Value))(n:List UInt8):Option (Ty × Value):=xs.find? fun x=>decide (x.1.name=n)
theorem G6(xs:List (Ty × Value))(n:List UInt8):Bk (Ad xs) n=(Dy xs n).map (·.1):=by
 unfold Bk Ad Dy;rw[List.find?_map];rfl
theorem Cp{xs:List (Ty × Value)}{n:List UInt8}{x:Ty × Value}(h:Dy xs n=some x):x∈xs/\x.1.name=n/\Bk (Ad xs) n=some x.1:=by
 refine⟨List.mem_of_find?_eq_some h,?_,by rw[G6,h];rfl⟩;have:=List.find?_some h;simpa using this
theorem Qgc{xs:List (Ty × Value)}{n:List UInt8}(h:Dy xs n=none):Bk (Ad xs) n=none:=by rw[G6,h];rfl
def Jq(xs:List (Ty × Value))(k:Kd):Option (Ty × Value):=if k.signs=[]/\k.base=[64]then Dy xs k.name else none
theorem Gb.at_{w:World}{A:Option Addr}{xs:List (Ty × Value)}(hr:B0 w A (xs.length*3) (xs.flatMap stc)){i:Nat}(hi:i<xs.length):
  ∃b off,A=some ⟨b,off,none⟩/\b<w.heap.size/\w.cell? ⟨b,off+i*3,none⟩=some (.int .u8 (xs[i].1.sort.toNat:Int))/\w.cell? ⟨b,off+i*3+1,none⟩=some (.string ⟨xs[i].1.name.toArray⟩) /\
   w.cell? ⟨b,off+i*3+2,none⟩=some xs[i].2:=by
 obtain⟨b,off,e,hlt,hc⟩:=hr.elem Qld aJ hi;refine⟨b,off,e,hlt,?_,?_,?_⟩
 ·exact jx
 ·exact jf
 have:=hc 2 _ rfl;simpa [Nat.add_assoc]using this
def Au(fs:List Fd)(n:Nat):Option Fd:=fs.find? fun f=>decide (f.tag=n)
theorem Ri{α:Type}{p:α->Bool}{l:List α}{k:Nat}(hk:k<l.length)(h:∀x∈l.take k,p x=false):l.find? p=if p l[k]=true then some l[k]else(l.drop (k+1)).find? p:=by
 have e:l=l.take k++l[k]::l.drop (k+1):=by rw[<-List.drop_eq_getElem_cons hk,List.take_append_drop]
 conv=>lhs;rw[e]
 rw[List.find?_append];have h1:(l.take k).find? p=none:=List.find?_eq_none.2 (fun x hx=>by simp[h x hx]);rw[h1,Option.none_or,List.find?_cons];cases p l[k]<;>rfl
theorem Nq{α:Type}{p:α->Bool}{l:List α}(h:∀x∈l,p x=false):l.find? p=none:=List.find?_eq_none.2 (fun x hx=>by simp[h x hx])
def C7(o:Option Fd)(w:World)(e:Ending)(w':World):Prop:=
 (match o with
  |some f=>e=.returned (.tuple #[sfV f,.bool true])
  |none=>∃(x:Int) (a b c:ByteArray),e=.returned (.tuple #[.agg #[.int .i64 x,.string a,.string b,.string c],.bool false]))/\Below w w w'
theorem C7.no{w w':World}{e:Ending}{o:Option Fd}(ho:o=none){x:Int}{a b c:ByteArray}(he:e=.returned (.tuple #[.agg #[.int .i64 x,.string a,.string b,.string c],.bool false]))(hb:Below w w w'):C7 o w e w':=by
 rw[ho];exact⟨⟨x,a,b,c,he⟩,hb⟩
theorem C7.yes{w w':World}{e:Ending}{o:Option Fd}{f:Fd}(ho:o=some f)(he:e=.returned (.tuple #[sfV f,.bool true]))(hb:Below w w w'):C7 o w e w':=by
 rw[ho];exact⟨he,hb⟩
theorem Pt{w:World}{base:Nat}{v:Value}{a b:List UInt8}(h:w.ownsRow base 9 1 v [a,b].length (By [a,b])):
  ∃g c,v=.slice (some ⟨g,0,none⟩) 2 c/\base<=g/\g<w.heap.size/\w.cell? ⟨g,0,none⟩=a/\w.cell? ⟨g,1,none⟩=b:=by
 rcases h.2 with⟨_,h0⟩|⟨g,cap,cur,rfl,hb,hh,_⟩
 ·simp at h0
 have hc:=fun j u hu=>h.cells (g:=g) rfl j u hu;have e1:∀j,(⟨g,0,none⟩:Addr).add j=⟨g,j,none⟩:=fun j=>bD;refine⟨g,cap,rfl,hb,(h.lt g rfl).2,?_,?_⟩
 ·have:=hc 0 _ rfl;rwa [e1]at this
 have:=hc 1 _ rfl;rwa [e1]at this
theorem Jb{w:World}{base:Nat}{v:Value}{a b d:List UInt8}(h:w.ownsRow base 9 1 v [a,b,d].length (By [a,b,d])):
  ∃g c,v=.slice (some ⟨g,0,none⟩) 3 c/\base<=g/\g<w.heap.size/\w.cell? ⟨g,0,none⟩=a/\w.cell? ⟨g,1,none⟩=b/\w.cell? ⟨g,2,none⟩=d:=by
 rcases h.2 with⟨_,h0⟩|⟨g,cap,cur,rfl,hb,hh,_⟩
 ·simp at h0
 have hc:=fun j u hu=>h.cells (g:=g) rfl j u hu;have e1:∀j,(⟨g,0,none⟩:Addr).add j=⟨g,j,none⟩:=fun j=>bD;refine⟨g,cap,rfl,hb,(h.lt g rfl).2,?_,?_,?_⟩
 ·have:=hc 0 _ rfl;rwa [e1]at this
 ·have:=hc 1 _ rfl;rwa [e1]at this
 have:=hc 2 _ rfl;rwa [e1]at this
theorem Vg(st:UInt8)(s:List UInt8)(w:World)(hs:s.length<=1000)(hp:(Al 58 s).length≠(if st=69 then 2 else 3)):
  Calls prog 203 #[s,.int .u8 (st.toNat:Int)] w (C7 (Ce st s) w):=by
 have hno:Ce st s=none:=by
  unfold Ce;by_cases h:st=69
  ·rw[if_pos h]at hp ⊢;have:Me (Al 58 s)=none:=by
    cases hh:Me (Al 58 s)with
    |none=>rfl
    |some x=>rw[(J5 (n:=x.1) (b:=x.2)).1 hh |>.1]at hp;simp at hp
   rw[this]
  rw[if_neg h]at hp ⊢;have:M6 (Al 58 s)=none:=by
   cases hh:M6 (Al 58 s)with
   |none=>rfl
   |some x=>rw[(H5 (n:=x.1) (b:=x.2.1) (c:=x.2.2)).1 hh |>.1]at hp;simp at hp
  rw[this]
 have Hno:=Aa hno;have Hl:=Aa (Jn 58 s);have hst:=st.toNat_lt;clear hno;have Hcut:=Aa (fun W=>Cw s 58 58 rfl W aH);generalize Al 58 s=ps at hp Hl Hcut;by_cases h69:st=69
 ·rw[if_pos h69]at hp;have t1:((st.toNat:Int) != 69)=false:=by have:=Bj h69;simpa using this
  have t2:((st.toNat:Int) == 69)=true:=Bj h69;have t3:((ps.length:Int) != 2)=true:=eR;clear h69 hp;go_enter func203,ntmps203;go_wp2_with fail;refine(Hcut.o _).mono ?_;rintro e w1 ⟨v,rfl,ho,hb⟩;obtain⟨A,c,rfl,_⟩:=B0.own ho;obtain⟨hc,hfz,hz⟩:=Cj hb;have Hb:=Aa (((Ao w.heap.size w).alloc (An _) _).trans (hb.mono aK));clear hb ho;go_wp2_with fail;all_goals
   refine aF (v:=.tuple #[sf0,.bool false]) (by simp[results,results203,go_sem,sf0,hc]) rfl ?_;exact jV
 rw[if_neg h69]at hp;have t1:((st.toNat:Int) != 69)=true:=by have:=Ap h69;simpa using this
 have t2:((st.toNat:Int) == 69)=false:=Ap h69;have t3:((ps.length:Int) != 3)=true:=eR;clear h69 hp;go_enter func203,ntmps203;go_wp2_with fail;refine(Hcut.o _).mono ?_;rintro e w1 ⟨v,rfl,ho,hb⟩;obtain⟨A,c,rfl,_⟩:=B0.own ho;obtain⟨hc,hfz,hz⟩:=Cj hb;have Hb:=Aa (((Ao w.heap.size w).alloc (An _) _).trans (hb.mono aK));clear hb ho;go_wp2_with fail;all_goals
  refine aF (v:=.tuple #[sf0,.bool false]) (by simp[results,results203,go_sem,sf0,hc]) rfl ?_;exact jV
theorem Xa(a b:List UInt8):Ef a 200=false\/(Ef a 200=true/\Cx a=some 0)\/(∃n,Ef a 200=true/\Cx a=some n/\1<=n/\n<=200/\Be b=false)\/(∃n,Ef a 200=true/\Cx a=some n/\1<=n/\n<=200/\Be b=true):=by
 cases hd:Cx a with
 |none=>exact .inl (N7 hd)
 |some n=>
  rw[Pb hd];by_cases h:n<=200
  ·have e:decide (n<=200)=true:=aR;rw[e];by_cases h0:n=0
   ·subst h0;exact .inr (.inl ⟨rfl,rfl⟩)
   rcases Bool.eq_false_or_eq_true (Be b)with hb|hb
   ·exact .inr (.inr (.inr ⟨n,rfl,rfl,by omega,h,hb⟩))
   exact .inr (.inr (.inl ⟨n,rfl,rfl,by omega,h,hb⟩))
  left;simpa using h
theorem Zw{a b:List UInt8}(h:Ef a 200=false\/Cx a=some 0\/Be b=false):Me [a,b]=none:=by
 cases hh:Me [a,b]with
 |none=>rfl
 |some x=>
  obtain⟨n,c⟩:=x;obtain⟨e,h1,h2,h3⟩:=J5.1 hh;simp at e;obtain⟨rfl,rfl⟩:=e;have hd:Cx (Ba n)=some n:=Cl.2 ⟨by omega,rfl⟩;rcases h with h|h|h
  ·rw[Pb hd]at h;simp at h;omega
  ·rw[hd]at h;injection h with h;omega
  rw[h3]at h;cases h
theorem Zl{a b c:List UInt8}(h:Ef a 200=false\/Cx a=some 0\/Be b=false):M6 [a,b,c]=none:=by
 cases hh:M6 [a,b,c]with
 |none=>rfl
 |some x=>
  obtain⟨n,d,f⟩:=x;obtain⟨e,h1,h2,h3⟩:=H5.1 hh;simp at e;obtain⟨rfl,rfl,rfl⟩:=e;have hd:Cx (Ba n)=some n:=Cl.2 ⟨by omega,rfl⟩;rcases h with h|h|h
  ·rw[Pb hd]at h;simp at h;omega
  ·rw[hd]at h;injection h with h;omega
  rw[h3]at h;cases h
theorem Qiw{a b:List UInt8}{n:Nat}(hd:Cx a=some n)(h1:1<=n)(h2:n<=200)(hb:Be b=true):Me [a,b]=some (n,b):=J5.2 ⟨by rw[(Cl.1 hd).2],h1,h2,hb⟩
theorem Mj{a b c:List UInt8}{n:Nat}(hd:Cx a=some n)(h1:1<=n)(h2:n<=200)(hb:Be b=true):M6 [a,b,c]=some (n,b,c):=H5.2 ⟨by rw[(Cl.1 hd).2],h1,h2,hb⟩
theorem Qjz(s a b:List UInt8)(w:World)(hs:s.length<=1000)(hp:Al 58 s=[a,b])(ho:Ef a 200=false):
  Calls prog 203 #[s,.int .u8 69] w (C7 (Ce 69 s) w):=by
 have hal:=Aq 58 s a bz;have hbl:=Aq 58 s b bz;have hF:Ce 69 s=(match Me [a,b]with|some (n,b)=>some ⟨n,b,Kd.nil,[]⟩|none=>none):=cJ;have Hcut:=Aa (fun W=>Cw s 58 58 rfl W aH);rw[hp]at Hcut;have Hnum:=Aa (fun W=>D1 a 200 W aH aH);have Hname:=Aa (fun W=>Cv b W aH);clear hp;rw[Zw (.inl ho)]at hF;have HF:=Aa hF;have Ho:=Aa ho;clear hF ho;go_enter func203,ntmps203;go_wp2_with fail;refine(Hcut.o _).mono ?_;rintro e w1 ⟨v,rfl,ho,hb⟩;obtain⟨g,c,rfl,hg1,hg2,c0,c1⟩:=Pt ho;simp at hg1;obtain⟨hc,hfz,hz⟩:=Cj hb;have Hb:=Aa (((Ao w.heap.size w).alloc (An _) _).trans (hb.mono aK));have hzz:=hz w.heap.size aK;clear hb ho;go_wp2_with fail;refine(Hnum.o _).mono ?_;rintro e w2 ⟨n,hn,rfl,hdn,hb2⟩;rw[Ho.o];obtain⟨hc2,hfz2,hz2⟩:=Cj hb2;have Hb2:=Aa (Hb.o.trans (hb2.mono Hb.o.size));have hsz:=Hb2.o.size;have hz3:=hz2 _ hzz;clear hb2;go_wp2_with fail;refine aF (v:=.tuple #[.agg #[.int .i64 n,b,a6,a6],.bool false]) (by simp[results,results203,go_sem,hc,hc2,hzz,hz3]) rfl ?_;exact jW
theorem Qjb(s a b:List UInt8)(w:World)(hs:s.length<=1000)(hp:Al 58 s=[a,b])(ho:Ef a 200=true)(hd:Cx a=some 0):
  Calls prog 203 #[s,.int .u8 69] w (C7 (Ce 69 s) w):=by
 have hal:=Aq 58 s a bz;have hbl:=Aq 58 s b bz;have hF:Ce 69 s=(match Me [a,b]with|some (n,b)=>some ⟨n,b,Kd.nil,[]⟩|none=>none):=cJ;have Hcut:=Aa (fun W=>Cw s 58 58 rfl W aH);rw[hp]at Hcut;have Hnum:=Aa (fun W=>D1 a 200 W aH aH);have Hname:=Aa (fun W=>Cv b W aH);clear hp;rw[Zw (.inr (.inl hd))]at hF;have HF:=Aa hF;have Ho:=Aa ho;have Hd:=Aa hd;clear hF ho hd;go_enter func203,ntmps203;go_wp2_with fail;refine(Hcut.o _).mono ?_;rintro e w1 ⟨v,rfl,ho,hb⟩;obtain⟨g,c,rfl,hg1,hg2,c0,c1⟩:=Pt ho;simp at hg1;obtain⟨hc,hfz,hz⟩:=Cj hb;have Hb:=Aa (((Ao w.heap.size w).alloc (An _) _).trans (hb.mono aK));have hzz:=hz w.heap.size aK;clear hb ho;go_wp2_with fail;refine(Hnum.o _).mono ?_;rintro e w2 ⟨n,hn,rfl,hdn,hb2⟩;rw[Ho.o];obtain⟨hc2,hfz2,hz2⟩:=Cj hb2;have Hb2:=Aa (Hb.o.trans (hb2.mono Hb.o.size));have hsz:=Hb2.o.size;have hz3:=hz2 _ hzz;clear hb2;obtain rfl:=hdn 0 Hd.o;clear hdn;go_wp2_with fail;refine aF (v:=.tuple #[.agg #[.int .i64 0,b,a6,a6],.bool false]) (by simp[results,results203,go_sem,hc,hc2,hzz,hz3]) rfl ?_;exact jW
theorem Qjk(s a b:List UInt8)(w:World)(hs:s.length<=1000)(hp:Al 58 s=[a,b])(n0:Nat)(ho:Ef a 200=true)(hd:Cx a=some n0)(h1:1<=n0)(h2:n0<=200)(hnm:Be b=false):
  Calls prog 203 #[s,.int .u8 69] w (C7 (Ce 69 s) w):=by
 have hal:=Aq 58 s a bz;have hbl:=Aq 58 s b bz;have hF:Ce 69 s=(match Me [a,b]with|some (n,b)=>some ⟨n,b,Kd.nil,[]⟩|none=>none):=cJ;have Hcut:=Aa (fun W=>Cw s 58 58 rfl W aH);rw[hp]at Hcut;have Hnum:=Aa (fun W=>D1 a 200 W aH aH);have Hname:=Aa (fun W=>Cv b W aH);clear hp;rw[Zw (.inr (.inr hnm))]at hF;have HF:=Aa hF;have Ho:=Aa ho;have Hd:=Aa hd;have Hnm:=Aa hnm;clear hF ho hd hnm;go_enter func203,ntmps203;go_wp2_with fail;refine(Hcut.o _).mono ?_;rintro e w1 ⟨v,rfl,ho,hb⟩;obtain⟨g,c,rfl,hg1,hg2,c0,c1⟩:=Pt ho;simp at hg1;obtain⟨hc,hfz,hz⟩:=Cj hb;have Hb:=Aa (((Ao w.heap.size w).alloc (An _) _).trans (hb.mono aK));have hzz:=hz w.heap.size aK;clear hb ho;go_wp2_with fail;refine(Hnum.o _).mono ?_;rintro e w2 ⟨n,hn,rfl,hdn,hb2⟩;rw[Ho.o];obtain⟨hc2,hfz2,hz2⟩:=Cj hb2;have Hb2:=Aa (Hb.o.trans (hb2.mono Hb.o.size));have hsz:=Hb2.o.size;have hz3:=hz2 _ hzz;clear hb2;obtain rfl:=hdn n0 Hd.o;clear hdn;go_wp2_with fail;refine(Hname.o _).mono ?_;rintro e w3 ⟨rfl,rfl⟩;rw[Hnm.o];go_wp2_with fail;refine aF (v:=.tuple #[.agg #[.int .i64 n0,b,a6,a6],.bool false]) (by simp[results,results203,go_sem,hc,hc2,hzz,hz3]) rfl ?_;exact jW
theorem Qj0(s a b:List UInt8)(w:World)(hs:s.length<=1000)(hp:Al 58 s=[a,b])(n0:Nat)(ho:Ef a 200=true)(hd:Cx a=some n0)(h1:1<=n0)(h2:n0<=200)(hnm:Be b=true):
  Calls prog 203 #[s,.int .u8 69] w (C7 (Ce 69 s) w):=by
 have hal:=Aq 58 s a bz;have hbl:=Aq 58 s b bz;have hF:Ce 69 s=(match Me [a,b]with|some (n,b)=>some ⟨n,b,Kd.nil,[]⟩|none=>none):=cJ;have Hcut:=Aa (fun W=>Cw s 58 58 rfl W aH);rw[hp]at Hcut;have Hnum:=Aa (fun W=>D1 a 200 W aH aH);have Hname:=Aa (fun W=>Cv b W aH);clear hp;rw[Qiw hd h1 h2 hnm]at hF;have HF:=Aa hF;have Ho:=Aa ho;have Hd:=Aa hd;have Hnm:=Aa hnm;clear hF ho hd hnm;go_enter func203,ntmps203;go_wp2_with fail;refine(Hcut.o _).mono ?_;rintro e w1 ⟨v,rfl,ho,hb⟩;obtain⟨g,c,rfl,hg1,hg2,c0,c1⟩:=Pt ho;simp at hg1;obtain⟨hc,hfz,hz⟩:=Cj hb;have Hb:=Aa (((Ao w.heap.size w).alloc (An _) _).trans (hb.mono aK));have hzz:=hz w.heap.size aK;clear hb ho;go_wp2_with fail;refine(Hnum.o _).mono ?_;rintro e w2 ⟨n,hn,rfl,hdn,hb2⟩;rw[Ho.o];obtain⟨hc2,hfz2,hz2⟩:=Cj hb2;have Hb2:=Aa (Hb.o.trans (hb2.mono Hb.o.size));have hsz:=Hb2.o.size;have hz3:=hz2 _ hzz;clear hb2;obtain rfl:=hdn n0 Hd.o;clear hdn;go_wp2_with fail;refine(Hname.o _).mono ?_;rintro e w3 ⟨rfl,rfl⟩;rw[Hnm.o];go_wp2_with fail;refine aF (v:=.tuple #[sfV ⟨n0,b,Kd.nil,[]⟩,.bool true]) (by simp[results,results203,go_sem,sfV,Kd.nil,Ax,Bu,hc,hc2,hzz,hz3]) rfl ?_;exact C7.yes HF.o rfl aS
theorem Xu(s a b:List UInt8)(w:World)(hs:s.length<=1000)(hp:Al 58 s=[a,b]):
  Calls prog 203 #[s,.int .u8 69] w (C7 (Ce 69 s) w):=by
 rcases Xa a b with ho|⟨ho,hd⟩|⟨n0,ho,hd,h1,h2,hnm⟩|⟨n0,ho,hd,h1,h2,hnm⟩
 ·exact Qjz s a b w hs hp ho
 ·exact Qjb s a b w hs hp ho hd
 ·exact Qjk s a b w hs hp n0 ho hd h1 h2 hnm
 exact Qj0 s a b w hs hp n0 ho hd h1 h2 hnm
end
end Go.Proofs.YtmmhmlmfhpfgbaaGreatDoor
