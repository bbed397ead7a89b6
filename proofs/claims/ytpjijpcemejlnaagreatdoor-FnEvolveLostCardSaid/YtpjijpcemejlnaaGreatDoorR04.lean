/- Texts joined. Conditions: as each theorem names them. -/
import Derived.Test.YtpjijpcemejlnaaGreatDoorR03
set_option maxRecDepth 100000
set_option maxHeartbeats 32000000
set_option linter.unusedVariables false
set_option linter.unusedSimpArgs false
namespace Go.Proofs.YtpjijpcemejlnaaGreatDoor
open Go.RowKit Go.Proofs.Tryz
section
attribute [local go_sem] Qm0 Ql8 Qlz Qj6 ByteArray.mk_append_mk
theorem Zx(s:List UInt8)(f k:Nat)(hf:f<=k)(hk:k<s.length):(s.drop f).take (k+1 - f)=(s.drop f).take (k - f)++[s[k]]:=by
 have h1:k - f<(s.drop f).length:=aO;rw[show k+1 - f=(k - f)+1 by omega,Ch _ _ h1];simp[show f+(k - f)=k by omega]
theorem Qcw(s:List UInt8)(f k:Nat)(hf:f<=k)(hk:k<s.length):s.drop f=(s.drop f).take (k - f)++s[k]::s.drop (k+1):=by
 have e1:(s.drop f).drop (k - f)=s[k]::s.drop (k+1):=by
  rw[List.drop_drop,show f+(k - f)=k by omega];exact List.drop_eq_getElem_cons hk
 rw[<-e1,List.take_append_drop]
theorem Cu(s:List UInt8)(c:UInt8)(m:Int)(hm:m=(c.toNat:Int))(w:World)(hs:s.length<=4000000):
  Calls prog 80 #[s,.int .u8 m] w fun e w'=>
   ∃v,e=.returned v/\w'.ownsRow w 9 1 v (Ak c s).length (B6 (Ak c s))/\Below w w w':=by
 have Hm:=Aa hm;have Hlen:=Aa (Js c s);clear hm;go_enter func80,ntmps80;go_wp2_with fail
 go_loopw [5,6,7] (fun v y i wr=>∃(ps:List (List UInt8)) (f k:Nat),i=.int .i64 k/\k<=s.length/\y=.int .i64 f/\f<=k/\ps.length<=k/\Hid (Ak c s=ps++Ak c (s.drop f))/\Hid (c∉(s.drop f).take (k - f)) /\
   Hid (wr.ownsRow w 9 1 v ps.length (B6 ps))/\Hid (Below w w wr)) (fun _ _ i _=>s.length - (intOf i).toNat)
 case atStart=>exact⟨[],0,0,rfl,ah _,rfl,Ao _,by simp,rfl,by simp[Hid],World.ownsRow_lit (base:=w.heap.size) (e:=9) (size:=1) w #[] 0 (Ao _) (ah _) rfl,(Am _ _).alloc (Ao _) _⟩
 case round=>
  obtain⟨ps,f,k,rfl,hk,rfl,hf,hps,hsp,hno,hown,hb⟩:=hrel;by_cases hlt:k<s.length
  ·have hc:=(s[k]).toNat_lt;by_cases he:s[k]=c
   ·have t1:(((s[k]).toNat:Int) == m)=true:=by rw[Hm.o];exact Bl he
    have Hsp:=Aa (show Ak c s=(ps++[(s.drop f).take (k - f)])++Ak c (s.drop (k+1))by
     rw[hsp.o,Qcw s f k hf hlt,he,Mx c _ _ hno.o];simp only[List.append_assoc,List.singleton_append];have e2:=Qcw s f k hf hlt;rw[he]at e2;rw[<-e2])
    have Hz:=Aa hb.o.size;clear he;have k1:(0:Int)<=(f:Int):=aI;have k2:(f:Int)<=(k:Int):=aI;have k3:(k:Int)<=(s.length:Int):=aI;go_wp2_with (at_builtin;refine Qp _ rfl _ _ 31 rfl w 9 aa 16 underlying31 Pr rfl wr _ rfl rfl _ _ _ rfl rfl hown.o aY aI Hz.o ?_;intro v' w' hown' hb';have Ho:=Aa (show w'.ownsRow w 9 1 v' (ps++[(s.drop f).take (k - f)]).length (B6 (ps++[(s.drop f).take (k - f)]))by rw[Jt,ai];exact hown');have Hb:=Aa (hb.o.trans hb');clear hown' hb')
    go_roundw
    case rel=>exact⟨ps++[(s.drop f).take (k - f)],k+1,k+1,by go_num,by omega,by go_num,Ao _,by rw[ai];simp;omega,Hsp.o,by simp[Hid],Ho.o,Hb.o⟩
    case measure=>simp[intOf];omega
   have t1:(((s[k]).toNat:Int) == m)=false:=by rw[Hm.o];exact Ap he
   have Hno:=Aa (show c∉(s.drop f).take (k+1 - f)by
    rw[Zx s f k hf hlt];simp only[ag,ar,not_or];exact⟨hno.o,fun h=>he h.symm⟩)
   clear he;go_wp2_with fail;go_roundw
   case rel=>exact⟨ps,f,k+1,by go_num,by omega,rfl,by omega,by omega,hsp.o,Hno.o,hown.o,hb.o⟩
   case measure=>simp[intOf];omega
  ·obtain rfl:k=s.length:=aI
   have Hsp:=Aa (show Ak c s=ps++[s.drop f]by
    have h:=hno.o;rw[av aN]at h;rw[hsp.o,G9 c _ h])
   have Hz:=Aa hb.o.size;have k1:(0:Int)<=(f:Int):=aI;have k2:(f:Int)<=(s.length:Int):=aI;go_wp2_with (at_builtin;refine Qp _ rfl _ _ 31 rfl w 9 aa 16 underlying31 Pr rfl wr _ rfl rfl _ _ _ rfl rfl hown.o aY aI Hz.o ?_;intro v' w' hown' hb';have Ho:=Aa (show w'.ownsRow w 9 1 v' (ps++[s.drop f]).length (B6 (ps++[s.drop f]))by rw[Jt,ai];exact hown');have Hb:=Aa (hb.o.trans hb');clear hown' hb')
   go_ret;refine⟨_,rfl,?_,Hb.o⟩;rw[Hsp.o];exact Ho.o
theorem Qai{b s:List UInt8}(h1:b≠[110])(h2:b≠[116])(h3:b≠[102]):Cc b s=false:=by
 unfold Cc;rw[if_neg h1,if_neg h2,if_neg h3]
theorem Qls(s:List UInt8):Cc [116] s=(Gl s && !(s == [39,39])):=by
 show (decide (2<s.length) && decide (s.head?=some 39) && decide (s.getLast?=some 39) && Dl (s.drop 1).dropLast)=((decide (2<=s.length) && decide (s.head?=some 39) && decide (s.getLast?=some 39) && Dl (s.drop 1).dropLast) && !(s == [39,39]));rcases aH 2 s.length with h|h
 ·have e1:decide (2<s.length)=true:=aQ;have e2:decide (2<=s.length)=true:=aO;have e3:(s == [39,39])=false:=by
   rw[beq_eq_false_iff_ne];rintro rfl;simp at h
  rw[e1,e2,e3];simp
 have e1:decide (2<s.length)=false:=aO;rw[e1];match s,h with
 |[],_=>rfl
 |[_],_=>rfl
 |[a,b],_=>
  by_cases ha:a=39
  ·by_cases hb:b=39
   ·subst ha;subst hb;rfl
   simp[hb]
  simp[ha]
theorem V9(b s:List UInt8)(w:World)(hs:s.length<=4000000):
  Calls prog 189 #[b,s] w fun e w'=>e=.returned (.bool (Cc b s))/\Below w w w':=by
 by_cases h1:b=[110]
 ·subst h1;have Hp:=Aa (fun W=>Dx s 999999 W hs aI);have hf:Cc [110] s=(match Cw s with|some n=>decide (0<n)|none=>false):=rfl;have hv:(D9 s 999999 && (s != [48]))=Cc [110] s:=by
   rw[hf];cases hd:Cw s with
   |none=>rw[N5 hd];rfl
   |some n=>
    obtain⟨h9,e⟩:=Cj.1 hd;rw[Nv hd];have e1:decide (n<=999999)=true:=by simpa using h9
    rw[e1,Bool.true_and];by_cases h0:n=0
    ·subst h0;rw[e,Ey aI];decide
    have hne:s≠[48]:=by
     intro h;rw[e]at h;have:Bb n=Bb 0:=by rw[h,Ey (n:=0) aI];decide
     exact h0 (Qit this)
    have e2:(s != [48])=true:=by simpa using hne
    rw[e2];simp;omega
  have Hv:=Aa hv;clear hf hv;go_enter func189,ntmps189;go_wp2_with fail;refine(Hp.o _).mono ?_;rintro e w' ⟨n,hn,rfl,_,hb⟩;have Hb:=Aa hb;clear hb;rcases Bool.eq_false_or_eq_true (D9 s 999999)with ho|ho
  ·have Ho:=Aa ho;rw[ho];clear ho;go_wp2_with fail;exact kW
  have Ho:=Aa ho;rw[ho];clear ho;go_wp2_with fail;exact kW
 by_cases h2:b=[116]
 ·subst h2;have Hp:=Aa (fun W=>Ze s W hs);have Hv:=Aa (Qls s);clear h1;go_enter func189,ntmps189;go_wp2_with fail;refine(Hp.o _).mono ?_;rintro e w' ⟨rfl,rfl⟩;rcases Bool.eq_false_or_eq_true (Gl s)with ho|ho
  ·have Ho:=Aa ho;rw[ho];clear ho;rcases Bool.eq_false_or_eq_true (s == [39,39])with hq|hq
   ·have Hq:=Aa hq;have hq2:(s != [39,39])=false:=by simp[bne,hq]
    go_wp2_with fail;exact kX
   have Hq:=Aa hq;have hq2:(s != [39,39])=true:=by simp[bne,hq]
   go_wp2_with fail;exact kX
  have Ho:=Aa ho;rw[ho];clear ho;go_wp2_with fail;go_ret;exact⟨Ej (C0 (by rw[Hv.o,Ho.o];rfl)),Am _ _⟩
 by_cases h3:b=[102]
 ·subst h3;have Hv:=Aa (show Cc [102] s=(s == [121,101,115])by show decide (s=[121,101,115])=_;by_cases h:s=[121,101,115]<;>simp[h]);clear h1 h2;go_enter func189,ntmps189;go_wp2_with fail;go_ret;exact⟨Ej (C0 Hv.o.symm),Am _ _⟩
 have Hv:=Aa (Qai (s:=s) h1 h2 h3);have q1:(b == [110])=false:=fj;have q2:(b == [116])=false:=fk;have q3:(b == [102])=false:=by simpa using h3
 clear h1 h2 h3;go_enter func189,ntmps189;go_wp2_with fail;go_ret;exact⟨Ej (C0 Hv.o.symm),Am _ _⟩
theorem Vy{α:Type}{g:α->List Value}{k:Nat}(hk:∀x,(g x).length=k):∀(l:List α) (i j:Nat),(hi:i<l.length)->j<k->(l.flatMap g)[i*k+j]?=(g l[i])[j]?
 |[],i,j,hi,_=>by simp at hi
 |x::l,0,j,_,hj=>by
  simp only[Nat.zero_mul,ao,List.flatMap_cons,List.getElem_cons_zero];rw[List.getElem?_append_left (by rw[hk];exact hj)]
 |x::l,i+1,j,hi,hj=>by
  have ih:=Vy hk l i j ey hj;simp only[List.flatMap_cons,List.getElem_cons_succ];rw[List.getElem?_append_right (by rw[hk,Nat.add_mul];omega),hk];rw[show (i+1)*k+j - k=i*k+j by rw[Nat.add_mul];omega];exact ih
theorem V7{α:Type}{g:α->List Value}{k:Nat}(hk:∀x,(g x).length=k):∀l:List α,(l.flatMap g).length=l.length*k
 |[]=>aN
 |x::l=>by
  rw[List.flatMap_cons,ai,hk,V7 hk l,List.length_cons,Nat.add_mul];omega
theorem Bx.elem{w:World}{A:Option Addr}{α:Type}{g:α->List Value}{k:Nat}{l:List α}(hk:∀x,(g x).length=k)(hk0:0<k)(h:Bx w A (l.length*k) (l.flatMap g)){i:Nat}(hi:i<l.length):
  ∃b off,A=some ⟨b,off,none⟩/\b<w.heap.size/\∀j u,(g l[i])[j]?=some u->w.cell? ⟨b,off+(i*k+j),none⟩=some u:=by
 have hpos:0<l.length*k:=Nat.mul_pos aI hk0;obtain⟨b,off,e,hlt,hc⟩:=h.2.2 hpos;refine⟨b,off,e,hlt,fun j u hu=>hc _ u ?_⟩;have hj:j<k:=by
  have:=(List.getElem?_eq_some_iff.1 hu).1;rwa [hk]at this
 rw[Vy hk l i j hi hj];exact hu
def Ky(f:Fd):List Value:=[(f.tag:Int),f.name,.string ⟨(Bc f.kind).toArray⟩,f.given]
def sfV(f:Fd):Value:=.agg #[(f.tag:Int),f.name,.string ⟨(Bc f.kind).toArray⟩,f.given]
def sf0:Value:=.agg #[.int .i64 0,aa,aa,aa]
theorem Qki(f:Fd):(Ky f).length=4:=rfl
def Dj(w:World)(v:Value)(fs:List Fd):Prop:=∃A c,v=.slice A fs.length c/\fs.length<=1000/\Bx w A (fs.length*4) (fs.flatMap Ky)
theorem Dj.below{w w':World}{v:Value}{fs:List Fd}(h:Dj w v fs)(hb:Below w w w'):Dj w' v fs:=by
 exact kY
theorem Dj.at_{w:World}{A:Option Addr}{fs:List Fd}(hr:Bx w A (fs.length*4) (fs.flatMap Ky)){i:Nat}(hi:i<fs.length):
  ∃b off,A=some ⟨b,off,none⟩/\b<w.heap.size/\w.cell? ⟨b,off+i*4,none⟩=some (.int .i64 (fs[i].tag:Int))/\w.cell? ⟨b,off+i*4+1,none⟩=some (.string ⟨fs[i].name.toArray⟩) /\
   w.cell? ⟨b,off+i*4+2,none⟩=some (.string ⟨(Bc fs[i].kind).toArray⟩)/\w.cell? ⟨b,off+i*4+3,none⟩=some (.string ⟨fs[i].given.toArray⟩):=by
 obtain⟨b,off,e,hlt,hc⟩:=hr.elem Qki aL hi;refine⟨b,off,e,hlt,?_,?_,?_,?_⟩
 ·exact kx
 ·exact jS
 ·exact k8
 have:=hc 3 _ rfl;simpa [Nat.add_assoc]using this
def Kt(t:Ty)(fv:Value):Value:=.agg #[.int .u8 (t.sort.toNat:Int),t.name,fv]
def Pu:Value:=.agg #[.int .u8 0,aa,.slice none 0 0]
def stc(x:Ty × Value):List Value:=[.int .u8 (x.1.sort.toNat:Int),x.1.name,x.2]
theorem Qk5(x:Ty × Value):(stc x).length=3:=rfl
def Fu(w:World)(v:Value)(xs:List (Ty × Value)):Prop:=∃A c,v=.slice A xs.length c/\xs.length<=1000/\Bx w A (xs.length*3) (xs.flatMap stc)/\∀x∈xs,Dj w x.2 x.1.fields
theorem Fu.below{w w':World}{v:Value}{xs:List (Ty × Value)}(h:Fu w v xs)(hb:Below w w w'):Fu w' v xs:=by
 obtain⟨A,c,e,hl,hr,hf⟩:=h;exact⟨A,c,e,hl,hr.below hb,fun x hx=>(hf x hx).below hb⟩
def Ae(xs:List (Ty × Value)):List Ty:=xs.map (·.1)
def Ds(xs:List (Ty × Value))(n:List UInt8):Option (Ty × Value):=xs.find? fun x=>decide (x.1.name=n)
theorem Gt(xs:List (Ty × Value))(n:List UInt8):Bp (Ae xs) n=(Ds xs n).map (·.1):=by
 unfold Bp Ae Ds;rw[List.find?_map];rfl
theorem Cp{xs:List (Ty × Value)}{n:List UInt8}{x:Ty × Value}(h:Ds xs n=some x):x∈xs/\x.1.name=n/\Bp (Ae xs) n=some x.1:=by
 refine⟨List.mem_of_find?_eq_some h,?_,by rw[Gt,h];rfl⟩;have:=List.find?_some h;simpa using this
theorem Qey{xs:List (Ty × Value)}{n:List UInt8}(h:Ds xs n=none):Bp (Ae xs) n=none:=by rw[Gt,h];rfl
def Jw(xs:List (Ty × Value))(k:Kd):Option (Ty × Value):=if k.signs=[]/\k.base=[64]then Ds xs k.name else none
theorem Fu.at_{w:World}{A:Option Addr}{xs:List (Ty × Value)}(hr:Bx w A (xs.length*3) (xs.flatMap stc)){i:Nat}(hi:i<xs.length):
  ∃b off,A=some ⟨b,off,none⟩/\b<w.heap.size/\w.cell? ⟨b,off+i*3,none⟩=some (.int .u8 (xs[i].1.sort.toNat:Int))/\w.cell? ⟨b,off+i*3+1,none⟩=some (.string ⟨xs[i].1.name.toArray⟩) /\
   w.cell? ⟨b,off+i*3+2,none⟩=some xs[i].2:=by
 obtain⟨b,off,e,hlt,hc⟩:=hr.elem Qk5 aL hi;refine⟨b,off,e,hlt,?_,?_,?_⟩
 ·exact kx
 ·exact jS
 have:=hc 2 _ rfl;simpa [Nat.add_assoc]using this
def Au(fs:List Fd)(n:Nat):Option Fd:=fs.find? fun f=>decide (f.tag=n)
theorem Va{α:Type}{p:α->Bool}{l:List α}{k:Nat}(hk:k<l.length)(h:∀x∈l.take k,p x=false):l.find? p=if p l[k]=true then some l[k]else(l.drop (k+1)).find? p:=by
 have e:l=l.take k++l[k]::l.drop (k+1):=by rw[<-List.drop_eq_getElem_cons hk,List.take_append_drop]
 conv=>lhs;rw[e]
 rw[List.find?_append];have h1:(l.take k).find? p=none:=List.find?_eq_none.2 (fun x hx=>by simp[h x hx]);rw[h1,Option.none_or,List.find?_cons];cases p l[k]<;>rfl
theorem Np{α:Type}{p:α->Bool}{l:List α}(h:∀x∈l,p x=false):l.find? p=none:=List.find?_eq_none.2 (fun x hx=>by simp[h x hx])
def C7(o:Option Fd)(w:World)(e:Ending)(w':World):Prop:=
 (match o with
  |some f=>e=.returned (.tuple #[sfV f,.bool true])
  |none=>∃(x:Int) (a b c:ByteArray),e=.returned (.tuple #[.agg #[.int .i64 x,.string a,.string b,.string c],.bool false]))/\Below w w w'
theorem C7.no{w w':World}{e:Ending}{o:Option Fd}(ho:o=none){x:Int}{a b c:ByteArray}(he:e=.returned (.tuple #[.agg #[.int .i64 x,.string a,.string b,.string c],.bool false]))(hb:Below w w w'):C7 o w e w':=by
 rw[ho];exact⟨⟨x,a,b,c,he⟩,hb⟩
theorem C7.yes{w w':World}{e:Ending}{o:Option Fd}{f:Fd}(ho:o=some f)(he:e=.returned (.tuple #[sfV f,.bool true]))(hb:Below w w w'):C7 o w e w':=by
 rw[ho];exact⟨he,hb⟩
theorem Pn{w:World}{base:Nat}{v:Value}{a b:List UInt8}(h:w.ownsRow base 9 1 v [a,b].length (B6 [a,b])):
  ∃g c,v=.slice (some ⟨g,0,none⟩) 2 c/\base<=g/\g<w.heap.size/\w.cell? ⟨g,0,none⟩=a/\w.cell? ⟨g,1,none⟩=b:=by
 rcases h.2 with⟨_,h0⟩|⟨g,cap,cur,rfl,hb,hh,_⟩
 ·simp at h0
 have hc:=fun j u hu=>h.cells (g:=g) rfl j u hu;have e1:∀j,(⟨g,0,none⟩:Addr).add j=⟨g,j,none⟩:=fun j=>bI;refine⟨g,cap,rfl,hb,(h.lt g rfl).2,?_,?_⟩
 ·have:=hc 0 _ rfl;rwa [e1]at this
 have:=hc 1 _ rfl;rwa [e1]at this
theorem H5{w:World}{base:Nat}{v:Value}{a b d:List UInt8}(h:w.ownsRow base 9 1 v [a,b,d].length (B6 [a,b,d])):
  ∃g c,v=.slice (some ⟨g,0,none⟩) 3 c/\base<=g/\g<w.heap.size/\w.cell? ⟨g,0,none⟩=a/\w.cell? ⟨g,1,none⟩=b/\w.cell? ⟨g,2,none⟩=d:=by
 rcases h.2 with⟨_,h0⟩|⟨g,cap,cur,rfl,hb,hh,_⟩
 ·simp at h0
 have hc:=fun j u hu=>h.cells (g:=g) rfl j u hu;have e1:∀j,(⟨g,0,none⟩:Addr).add j=⟨g,j,none⟩:=fun j=>bI;refine⟨g,cap,rfl,hb,(h.lt g rfl).2,?_,?_,?_⟩
 ·have:=hc 0 _ rfl;rwa [e1]at this
 ·have:=hc 1 _ rfl;rwa [e1]at this
 have:=hc 2 _ rfl;rwa [e1]at this
theorem Vj(st:UInt8)(s:List UInt8)(w:World)(hs:s.length<=1000)(hp:(Ak 58 s).length≠(if st=69 then 2 else 3)):
  Calls prog 152 #[s,.int .u8 (st.toNat:Int)] w (C7 (Ca st s) w):=by
 have hno:Ca st s=none:=by
  unfold Ca;by_cases h:st=69
  ·rw[if_pos h]at hp ⊢;have:Ma (Ak 58 s)=none:=by
    cases hh:Ma (Ak 58 s)with
    |none=>rfl
    |some x=>rw[(Kf (n:=x.1) (b:=x.2)).1 hh |>.1]at hp;simp at hp
   rw[this]
  rw[if_neg h]at hp ⊢;have:M7 (Ak 58 s)=none:=by
   cases hh:M7 (Ak 58 s)with
   |none=>rfl
   |some x=>rw[(G8 (n:=x.1) (b:=x.2.1) (c:=x.2.2)).1 hh |>.1]at hp;simp at hp
  rw[this]
 have Hno:=Aa hno;have Hl:=Aa (Js 58 s);have hst:=st.toNat_lt;clear hno;have Hcut:=Aa (fun W=>Cu s 58 58 rfl W aI);generalize Ak 58 s=ps at hp Hl Hcut;by_cases h69:st=69
 ·rw[if_pos h69]at hp;have t1:((st.toNat:Int) != 69)=false:=by have:=Bl h69;simpa using this
  have t2:((st.toNat:Int) == 69)=true:=Bl h69;have t3:((ps.length:Int) != 2)=true:=fc;clear h69 hp;go_enter func152,ntmps152;go_wp2_with fail;refine(Hcut.o _).mono ?_;rintro e w1 ⟨v,rfl,ho,hb⟩;obtain⟨A,c,rfl,_⟩:=Bx.own ho;obtain⟨hc,hfz,hz⟩:=Ci hb;have Hb:=Aa (((Am w.heap.size w).alloc (Ao _) _).trans (hb.mono aN));clear hb ho;go_wp2_with fail;all_goals
   refine aG (v:=.tuple #[sf0,.bool false]) (by simp[results,results152,go_sem,sf0,hc]) rfl ?_;exact kZ
 rw[if_neg h69]at hp;have t1:((st.toNat:Int) != 69)=true:=by have:=Ap h69;simpa using this
 have t2:((st.toNat:Int) == 69)=false:=Ap h69;have t3:((ps.length:Int) != 3)=true:=fc;clear h69 hp;go_enter func152,ntmps152;go_wp2_with fail;refine(Hcut.o _).mono ?_;rintro e w1 ⟨v,rfl,ho,hb⟩;obtain⟨A,c,rfl,_⟩:=Bx.own ho;obtain⟨hc,hfz,hz⟩:=Ci hb;have Hb:=Aa (((Am w.heap.size w).alloc (Ao _) _).trans (hb.mono aN));clear hb ho;go_wp2_with fail;all_goals
  refine aG (v:=.tuple #[sf0,.bool false]) (by simp[results,results152,go_sem,sf0,hc]) rfl ?_;exact kZ
theorem Vu(a b:List UInt8):D9 a 200=false\/(D9 a 200=true/\Cw a=some 0)\/(∃n,D9 a 200=true/\Cw a=some n/\1<=n/\n<=200/\Be b=false)\/(∃n,D9 a 200=true/\Cw a=some n/\1<=n/\n<=200/\Be b=true):=by
 cases hd:Cw a with
 |none=>exact .inl (N5 hd)
 |some n=>
  rw[Nv hd];by_cases h:n<=200
  ·have e:decide (n<=200)=true:=aQ;rw[e];by_cases h0:n=0
   ·subst h0;exact .inr (.inl ⟨rfl,rfl⟩)
   rcases Bool.eq_false_or_eq_true (Be b)with hb|hb
   ·exact .inr (.inr (.inr ⟨n,rfl,rfl,by omega,h,hb⟩))
   exact .inr (.inr (.inl ⟨n,rfl,rfl,by omega,h,hb⟩))
  left;simpa using h
theorem Zp{a b:List UInt8}(h:D9 a 200=false\/Cw a=some 0\/Be b=false):Ma [a,b]=none:=by
 cases hh:Ma [a,b]with
 |none=>rfl
 |some x=>
  obtain⟨n,c⟩:=x;obtain⟨e,h1,h2,h3⟩:=Kf.1 hh;simp at e;obtain⟨rfl,rfl⟩:=e;have hd:Cw (Bb n)=some n:=Cj.2 ⟨by omega,rfl⟩;rcases h with h|h|h
  ·rw[Nv hd]at h;simp at h;omega
  ·rw[hd]at h;injection h with h;omega
  rw[h3]at h;cases h
theorem Zt{a b c:List UInt8}(h:D9 a 200=false\/Cw a=some 0\/Be b=false):M7 [a,b,c]=none:=by
 cases hh:M7 [a,b,c]with
 |none=>rfl
 |some x=>
  obtain⟨n,d,f⟩:=x;obtain⟨e,h1,h2,h3⟩:=G8.1 hh;simp at e;obtain⟨rfl,rfl,rfl⟩:=e;have hd:Cw (Bb n)=some n:=Cj.2 ⟨by omega,rfl⟩;rcases h with h|h|h
  ·rw[Nv hd]at h;simp at h;omega
  ·rw[hd]at h;injection h with h;omega
  rw[h3]at h;cases h
theorem Qgo{a b:List UInt8}{n:Nat}(hd:Cw a=some n)(h1:1<=n)(h2:n<=200)(hb:Be b=true):Ma [a,b]=some (n,b):=Kf.2 ⟨by rw[(Cj.1 hd).2],h1,h2,hb⟩
theorem Mk{a b c:List UInt8}{n:Nat}(hd:Cw a=some n)(h1:1<=n)(h2:n<=200)(hb:Be b=true):M7 [a,b,c]=some (n,b,c):=G8.2 ⟨by rw[(Cj.1 hd).2],h1,h2,hb⟩
theorem Qi7(s a b:List UInt8)(w:World)(hs:s.length<=1000)(hp:Ak 58 s=[a,b])(ho:D9 a 200=false):
  Calls prog 152 #[s,.int .u8 69] w (C7 (Ca 69 s) w):=by
 have hal:=Ar 58 s a bF;have hbl:=Ar 58 s b bF;have hF:Ca 69 s=(match Ma [a,b]with|some (n,b)=>some ⟨n,b,Kd.nil,[]⟩|none=>none):=cR;have Hcut:=Aa (fun W=>Cu s 58 58 rfl W aI);rw[hp]at Hcut;have Hnum:=Aa (fun W=>Dx a 200 W aI aI);have Hname:=Aa (fun W=>Ct b W aI);clear hp;rw[Zp (.inl ho)]at hF;have HF:=Aa hF;have Ho:=Aa ho;clear hF ho;go_enter func152,ntmps152;go_wp2_with fail;refine(Hcut.o _).mono ?_;rintro e w1 ⟨v,rfl,ho,hb⟩;obtain⟨g,c,rfl,hg1,hg2,c0,c1⟩:=Pn ho;simp at hg1;obtain⟨hc,hfz,hz⟩:=Ci hb;have Hb:=Aa (((Am w.heap.size w).alloc (Ao _) _).trans (hb.mono aN));have hzz:=hz w.heap.size aN;clear hb ho;go_wp2_with fail;refine(Hnum.o _).mono ?_;rintro e w2 ⟨n,hn,rfl,hdn,hb2⟩;rw[Ho.o];obtain⟨hc2,hfz2,hz2⟩:=Ci hb2;have Hb2:=Aa (Hb.o.trans (hb2.mono Hb.o.size));have hsz:=Hb2.o.size;have hz3:=hz2 _ hzz;clear hb2;go_wp2_with fail;refine aG (v:=.tuple #[.agg #[.int .i64 n,b,aa,aa],.bool false]) (by simp[results,results152,go_sem,hc,hc2,hzz,hz3]) rfl ?_;exact lf
theorem Qie(s a b:List UInt8)(w:World)(hs:s.length<=1000)(hp:Ak 58 s=[a,b])(ho:D9 a 200=true)(hd:Cw a=some 0):
  Calls prog 152 #[s,.int .u8 69] w (C7 (Ca 69 s) w):=by
 have hal:=Ar 58 s a bF;have hbl:=Ar 58 s b bF;have hF:Ca 69 s=(match Ma [a,b]with|some (n,b)=>some ⟨n,b,Kd.nil,[]⟩|none=>none):=cR;have Hcut:=Aa (fun W=>Cu s 58 58 rfl W aI);rw[hp]at Hcut;have Hnum:=Aa (fun W=>Dx a 200 W aI aI);have Hname:=Aa (fun W=>Ct b W aI);clear hp;rw[Zp (.inr (.inl hd))]at hF;have HF:=Aa hF;have Ho:=Aa ho;have Hd:=Aa hd;clear hF ho hd;go_enter func152,ntmps152;go_wp2_with fail;refine(Hcut.o _).mono ?_;rintro e w1 ⟨v,rfl,ho,hb⟩;obtain⟨g,c,rfl,hg1,hg2,c0,c1⟩:=Pn ho;simp at hg1;obtain⟨hc,hfz,hz⟩:=Ci hb;have Hb:=Aa (((Am w.heap.size w).alloc (Ao _) _).trans (hb.mono aN));have hzz:=hz w.heap.size aN;clear hb ho;go_wp2_with fail;refine(Hnum.o _).mono ?_;rintro e w2 ⟨n,hn,rfl,hdn,hb2⟩;rw[Ho.o];obtain⟨hc2,hfz2,hz2⟩:=Ci hb2;have Hb2:=Aa (Hb.o.trans (hb2.mono Hb.o.size));have hsz:=Hb2.o.size;have hz3:=hz2 _ hzz;clear hb2;obtain rfl:=hdn 0 Hd.o;clear hdn;go_wp2_with fail;refine aG (v:=.tuple #[.agg #[.int .i64 0,b,aa,aa],.bool false]) (by simp[results,results152,go_sem,hc,hc2,hzz,hz3]) rfl ?_;exact lf
theorem Qis(s a b:List UInt8)(w:World)(hs:s.length<=1000)(hp:Ak 58 s=[a,b])(n0:Nat)(ho:D9 a 200=true)(hd:Cw a=some n0)(h1:1<=n0)(h2:n0<=200)(hnm:Be b=false):
  Calls prog 152 #[s,.int .u8 69] w (C7 (Ca 69 s) w):=by
 have hal:=Ar 58 s a bF;have hbl:=Ar 58 s b bF;have hF:Ca 69 s=(match Ma [a,b]with|some (n,b)=>some ⟨n,b,Kd.nil,[]⟩|none=>none):=cR;have Hcut:=Aa (fun W=>Cu s 58 58 rfl W aI);rw[hp]at Hcut;have Hnum:=Aa (fun W=>Dx a 200 W aI aI);have Hname:=Aa (fun W=>Ct b W aI);clear hp;rw[Zp (.inr (.inr hnm))]at hF;have HF:=Aa hF;have Ho:=Aa ho;have Hd:=Aa hd;have Hnm:=Aa hnm;clear hF ho hd hnm;go_enter func152,ntmps152;go_wp2_with fail;refine(Hcut.o _).mono ?_;rintro e w1 ⟨v,rfl,ho,hb⟩;obtain⟨g,c,rfl,hg1,hg2,c0,c1⟩:=Pn ho;simp at hg1;obtain⟨hc,hfz,hz⟩:=Ci hb;have Hb:=Aa (((Am w.heap.size w).alloc (Ao _) _).trans (hb.mono aN));have hzz:=hz w.heap.size aN;clear hb ho;go_wp2_with fail;refine(Hnum.o _).mono ?_;rintro e w2 ⟨n,hn,rfl,hdn,hb2⟩;rw[Ho.o];obtain⟨hc2,hfz2,hz2⟩:=Ci hb2;have Hb2:=Aa (Hb.o.trans (hb2.mono Hb.o.size));have hsz:=Hb2.o.size;have hz3:=hz2 _ hzz;clear hb2;obtain rfl:=hdn n0 Hd.o;clear hdn;go_wp2_with fail;refine(Hname.o _).mono ?_;rintro e w3 ⟨rfl,rfl⟩;rw[Hnm.o];go_wp2_with fail;refine aG (v:=.tuple #[.agg #[.int .i64 n0,b,aa,aa],.bool false]) (by simp[results,results152,go_sem,hc,hc2,hzz,hz3]) rfl ?_;exact lf
theorem Qjc(s a b:List UInt8)(w:World)(hs:s.length<=1000)(hp:Ak 58 s=[a,b])(n0:Nat)(ho:D9 a 200=true)(hd:Cw a=some n0)(h1:1<=n0)(h2:n0<=200)(hnm:Be b=true):
  Calls prog 152 #[s,.int .u8 69] w (C7 (Ca 69 s) w):=by
 have hal:=Ar 58 s a bF;have hbl:=Ar 58 s b bF;have hF:Ca 69 s=(match Ma [a,b]with|some (n,b)=>some ⟨n,b,Kd.nil,[]⟩|none=>none):=cR;have Hcut:=Aa (fun W=>Cu s 58 58 rfl W aI);rw[hp]at Hcut;have Hnum:=Aa (fun W=>Dx a 200 W aI aI);have Hname:=Aa (fun W=>Ct b W aI);clear hp;rw[Qgo hd h1 h2 hnm]at hF;have HF:=Aa hF;have Ho:=Aa ho;have Hd:=Aa hd;have Hnm:=Aa hnm;clear hF ho hd hnm;go_enter func152,ntmps152;go_wp2_with fail;refine(Hcut.o _).mono ?_;rintro e w1 ⟨v,rfl,ho,hb⟩;obtain⟨g,c,rfl,hg1,hg2,c0,c1⟩:=Pn ho;simp at hg1;obtain⟨hc,hfz,hz⟩:=Ci hb;have Hb:=Aa (((Am w.heap.size w).alloc (Ao _) _).trans (hb.mono aN));have hzz:=hz w.heap.size aN;clear hb ho;go_wp2_with fail;refine(Hnum.o _).mono ?_;rintro e w2 ⟨n,hn,rfl,hdn,hb2⟩;rw[Ho.o];obtain⟨hc2,hfz2,hz2⟩:=Ci hb2;have Hb2:=Aa (Hb.o.trans (hb2.mono Hb.o.size));have hsz:=Hb2.o.size;have hz3:=hz2 _ hzz;clear hb2;obtain rfl:=hdn n0 Hd.o;clear hdn;go_wp2_with fail;refine(Hname.o _).mono ?_;rintro e w3 ⟨rfl,rfl⟩;rw[Hnm.o];go_wp2_with fail;refine aG (v:=.tuple #[sfV ⟨n0,b,Kd.nil,[]⟩,.bool true]) (by simp[results,results152,go_sem,sfV,Kd.nil,Bc,Bv,hc,hc2,hzz,hz3]) rfl ?_;exact C7.yes HF.o rfl aV
theorem Xg(s a b:List UInt8)(w:World)(hs:s.length<=1000)(hp:Ak 58 s=[a,b]):
  Calls prog 152 #[s,.int .u8 69] w (C7 (Ca 69 s) w):=by
 rcases Vu a b with ho|⟨ho,hd⟩|⟨n0,ho,hd,h1,h2,hnm⟩|⟨n0,ho,hd,h1,h2,hnm⟩
 ·exact Qi7 s a b w hs hp ho
 ·exact Qie s a b w hs hp ho hd
 ·exact Qis s a b w hs hp n0 ho hd h1 h2 hnm
 exact Qjc s a b w hs hp n0 ho hd h1 h2 hnm
theorem Qf6{w:World}{base:Nat}{v:Value}{a:List UInt8}(h:w.ownsRow base 9 1 v [a].length (B6 [a])):
  ∃g c,v=.slice (some ⟨g,0,none⟩) 1 c/\base<=g/\g<w.heap.size/\w.cell? ⟨g,0,none⟩=a:=by
 rcases h.2 with⟨_,h0⟩|⟨g,cap,cur,rfl,hb,hh,_⟩
 ·simp at h0
 have hc:=fun j u hu=>h.cells (g:=g) rfl j u hu;have e1:∀j,(⟨g,0,none⟩:Addr).add j=⟨g,j,none⟩:=fun j=>bI;refine⟨g,cap,rfl,hb,(h.lt g rfl).2,?_⟩;have:=hc 0 _ rfl;rwa [e1]at this
def Ei(st:UInt8)(a b d:List UInt8):Option Fd:=
 match M7 [a,b,d]with
 |some (n,b,c)=>(match Ak 61 c with
  |[k]=>(match Cx k with|some k=>some ⟨n,b,k,[]⟩|none=>none)
  |[k,v]=>if st=82/\Cc k v=true then some ⟨n,b,⟨[],k,[]⟩,v⟩else none
  |_=>none)
 |none=>none
theorem Ek{st:UInt8}{s a b d:List UInt8}(hst:st≠69)(hp:Ak 58 s=[a,b,d]):Ca st s=Ei st a b d:=by
 unfold Ca Ei;rw[if_neg hst,hp];cases M7 [a,b,d]with
 |none=>rfl
 |some x=>
  obtain⟨n,b',c⟩:=x;simp only;match Ak 61 c with
  |[]=>rfl
  |[k]=>simp only;cases Cx k<;>rfl
  |[k,v]=>rfl
  |_::_::_::_=>rfl
theorem Tw{st:UInt8}{a b d:List UInt8}(h:M7 [a,b,d]=none):Ei st a b d=none:=by unfold Ei;rw[h]
theorem Qav{st:UInt8}{a b d k:List UInt8}{n:Nat}(h:M7 [a,b,d]=some (n,b,d))(hq:Ak 61 d=[k]):Ei st a b d=(Cx k).map fun k=>⟨n,b,k,[]⟩:=by
 unfold Ei;rw[h];simp only;rw[hq];simp only;cases Cx k<;>rfl
theorem Tn{st:UInt8}{a b d k v:List UInt8}{n:Nat}(h:M7 [a,b,d]=some (n,b,d))(hq:Ak 61 d=[k,v]):Ei st a b d=if st=82/\Cc k v=true then some ⟨n,b,⟨[],k,[]⟩,v⟩else none:=by
 unfold Ei;rw[h];simp only;rw[hq]
theorem Qff{st:UInt8}{a b d k v x:List UInt8}{l:List (List UInt8)}{n:Nat}(h:M7 [a,b,d]=some (n,b,d))(hq:Ak 61 d=k::v::x::l):Ei st a b d=none:=by
 unfold Ei;rw[h];simp only;rw[hq]
theorem Qjv(st:UInt8)(hst:st≠69)(s a b d:List UInt8)(w:World)(hs:s.length<=1000)(hp:Ak 58 s=[a,b,d])(ho:D9 a 200=false):
  Calls prog 152 #[s,.int .u8 (st.toNat:Int)] w (C7 (Ca st s) w):=by
 have hal:=Ar 58 s a bF;have hbl:=Ar 58 s b bF;have hdl:=Ar 58 s d bF;have hF:Ca st s=Ei st a b d:=Ek hst hp;have Hcut:=Aa (fun W=>Cu s 58 58 rfl W aI);rw[hp]at Hcut;have Hnum:=Aa (fun W=>Dx a 200 W aI aI);have Hname:=Aa (fun W=>Ct b W aI);have hsl:=st.toNat_lt;have t1:((st.toNat:Int) != 69)=true:=cN;have t2:((st.toNat:Int) == 69)=false:=Ap hst;clear hp hst;rw[Tw (Zt (.inl ho))]at hF;have HF:=Aa hF;have Ho:=Aa ho;clear hF ho;go_enter func152,ntmps152;go_wp2_with fail;refine(Hcut.o _).mono ?_;rintro e w1 ⟨v,rfl,ho,hb⟩;obtain⟨g,c,rfl,hg1,hg2,c0,c1,c2⟩:=H5 ho;simp at hg1;obtain⟨hc,hfz,hz⟩:=Ci hb;have Hb:=Aa (((Am w.heap.size w).alloc (Ao _) _).trans (hb.mono aN));have hzz:=hz w.heap.size aN;clear hb ho;go_wp2_with fail;refine(Hnum.o _).mono ?_;rintro e w2 ⟨n,hn,rfl,hdn,hb2⟩;rw[Ho.o];obtain⟨hc2,hfz2,hz2⟩:=Ci hb2;have Hb2:=Aa (Hb.o.trans (hb2.mono Hb.o.size));have hsz:=Hb2.o.size;have hz3:=hz2 _ hzz;clear hb2;go_wp2_with fail;refine aG (v:=.tuple #[.agg #[.int .i64 n,b,aa,aa],.bool false]) (by simp[results,results152,go_sem,hc,hc2,hzz,hz3]) rfl ?_;exact lf
theorem Qia(st:UInt8)(hst:st≠69)(s a b d:List UInt8)(w:World)(hs:s.length<=1000)(hp:Ak 58 s=[a,b,d])(ho:D9 a 200=true)(hd:Cw a=some 0):
  Calls prog 152 #[s,.int .u8 (st.toNat:Int)] w (C7 (Ca st s) w):=by
 have hal:=Ar 58 s a bF;have hbl:=Ar 58 s b bF;have hdl:=Ar 58 s d bF;have hF:Ca st s=Ei st a b d:=Ek hst hp;have Hcut:=Aa (fun W=>Cu s 58 58 rfl W aI);rw[hp]at Hcut;have Hnum:=Aa (fun W=>Dx a 200 W aI aI);have Hname:=Aa (fun W=>Ct b W aI);have hsl:=st.toNat_lt;have t1:((st.toNat:Int) != 69)=true:=cN;have t2:((st.toNat:Int) == 69)=false:=Ap hst;clear hp hst;rw[Tw (Zt (.inr (.inl hd)))]at hF;have HF:=Aa hF;have Ho:=Aa ho;have Hd:=Aa hd;clear hF ho hd;go_enter func152,ntmps152;go_wp2_with fail;refine(Hcut.o _).mono ?_;rintro e w1 ⟨v,rfl,ho,hb⟩;obtain⟨g,c,rfl,hg1,hg2,c0,c1,c2⟩:=H5 ho;simp at hg1;obtain⟨hc,hfz,hz⟩:=Ci hb;have Hb:=Aa (((Am w.heap.size w).alloc (Ao _) _).trans (hb.mono aN));have hzz:=hz w.heap.size aN;clear hb ho;go_wp2_with fail;refine(Hnum.o _).mono ?_;rintro e w2 ⟨n,hn,rfl,hdn,hb2⟩;rw[Ho.o];obtain⟨hc2,hfz2,hz2⟩:=Ci hb2;have Hb2:=Aa (Hb.o.trans (hb2.mono Hb.o.size));have hsz:=Hb2.o.size;have hz3:=hz2 _ hzz;clear hb2;obtain rfl:=hdn 0 Hd.o;clear hdn;go_wp2_with fail;refine aG (v:=.tuple #[.agg #[.int .i64 0,b,aa,aa],.bool false]) (by simp[results,results152,go_sem,hc,hc2,hzz,hz3]) rfl ?_;exact lf
theorem Qih(st:UInt8)(hst:st≠69)(s a b d:List UInt8)(w:World)(hs:s.length<=1000)(hp:Ak 58 s=[a,b,d])(n0:Nat)(ho:D9 a 200=true)(hd:Cw a=some n0)(h1:1<=n0)(h2:n0<=200)(hnm:Be b=false):
  Calls prog 152 #[s,.int .u8 (st.toNat:Int)] w (C7 (Ca st s) w):=by
 have hal:=Ar 58 s a bF;have hbl:=Ar 58 s b bF;have hdl:=Ar 58 s d bF;have hF:Ca st s=Ei st a b d:=Ek hst hp;have Hcut:=Aa (fun W=>Cu s 58 58 rfl W aI);rw[hp]at Hcut;have Hnum:=Aa (fun W=>Dx a 200 W aI aI);have Hname:=Aa (fun W=>Ct b W aI);have hsl:=st.toNat_lt;have t1:((st.toNat:Int) != 69)=true:=cN;have t2:((st.toNat:Int) == 69)=false:=Ap hst;clear hp hst;rw[Tw (Zt (.inr (.inr hnm)))]at hF;have HF:=Aa hF;have Ho:=Aa ho;have Hd:=Aa hd;have Hnm:=Aa hnm;clear hF ho hd hnm;go_enter func152,ntmps152;go_wp2_with fail;refine(Hcut.o _).mono ?_;rintro e w1 ⟨v,rfl,ho,hb⟩;obtain⟨g,c,rfl,hg1,hg2,c0,c1,c2⟩:=H5 ho;simp at hg1;obtain⟨hc,hfz,hz⟩:=Ci hb;have Hb:=Aa (((Am w.heap.size w).alloc (Ao _) _).trans (hb.mono aN));have hzz:=hz w.heap.size aN;clear hb ho;go_wp2_with fail;refine(Hnum.o _).mono ?_;rintro e w2 ⟨n,hn,rfl,hdn,hb2⟩;rw[Ho.o];obtain⟨hc2,hfz2,hz2⟩:=Ci hb2;have Hb2:=Aa (Hb.o.trans (hb2.mono Hb.o.size));have hsz:=Hb2.o.size;have hz3:=hz2 _ hzz;clear hb2;obtain rfl:=hdn n0 Hd.o;clear hdn;go_wp2_with fail;refine(Hname.o _).mono ?_;rintro e w3 ⟨rfl,rfl⟩;rw[Hnm.o];go_wp2_with fail;refine aG (v:=.tuple #[.agg #[.int .i64 n0,b,aa,aa],.bool false]) (by simp[results,results152,go_sem,hc,hc2,hzz,hz3]) rfl ?_;exact lf
end
end Go.Proofs.YtpjijpcemejlnaaGreatDoor
