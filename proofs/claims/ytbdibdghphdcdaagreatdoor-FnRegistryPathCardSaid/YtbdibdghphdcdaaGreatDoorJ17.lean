/- Texts joined. Conditions: as each theorem names them. -/
import Derived.Maps.AppendAt
import Derived.Test.YtbdibdghphdcdaaGreatDoorJ16
set_option maxRecDepth 100000
set_option maxHeartbeats 32000000
set_option linter.unusedVariables false
set_option linter.unusedSimpArgs false
namespace Go.Proofs.YtbdibdghphdcdaaGreatDoor
open Go.RowKit Go.Proofs.Tryz
section
attribute [local go_sem] Qo7 Qok Qoa Ql9 ByteArray.mk_append_mk
theorem Du(b:Nat):∀(vs:List Value) (o:Nat) (w:World),w.grownBy (w.setCells b o vs) (some b)
 |[],_,w=>World.grownBy.refl _ _
 |v::r,o,w=>(Jj w ⟨b,o,none⟩ v).trans (Du b r (o+1) _)
def Qj(o:Option (List Ty × Kd))(w:World)(e:Ending)(w':World):Prop:=
 (match o with
  |some x=>∃p xs,Ag xs=x.1/\e=.returned (.tuple #[p,Et x.2,.bool true])/\Qq w.heap.size w' p xs
  |none=>∃(p:Option Addr) (a b c:ByteArray),e=.returned (.tuple #[.pointer p,.agg #[.string a,.string b,.string c],.bool false]))/\Below w w w'
theorem Qj.no{w w':World}{e:Ending}{o:Option (List Ty × Kd)}(ho:o=none){p:Option Addr}{a b c:ByteArray}(he:e=.returned (.tuple #[.pointer p,.agg #[.string a,.string b,.string c],.bool false]))(hb:Below w w w'):Qj o w e w':=by
 rw[ho];exact⟨⟨p,a,b,c,he⟩,hb⟩
theorem Sl(s d:List UInt8)(w:World)(hs:s.length<=4000000)(hd:d.length<=4000000):
  Calls prog 34 #[s,d] w (Qj (At s d) w):=by
 have Hrs:=Aa (fun W=>Z8 s W hs);have Hrk:=Aa (fun W=>Vf d W hd);have HF:=@Aa (At s d=(match Cl s with|none=>none|some S=>match Dd d with|none=>none|some k=>if Cc S k then some (S,k)else none)) rfl;have Hkok:=Aa (fun k (h:Dd d=some k)=>(Fr.1 h).1);generalize Cl s=oS at HF Hrs;generalize Dd d=oK at HF Hrk Hkok;go_enter func34,ntmps34;go_wp2_with fail;refine(Hrs.o _).mono ?_;rintro e w1 ⟨hcase,hb1⟩;have hz1:w.heap.size<w1.heap.size:=eR;have HT1:=@Aa (w1.there w 0 3) (Aj (Bu w [a6,a6,a6] 50) aK hb1);have Hb1:=@Aa (Below w w w1) (((Ap _ _).alloc (An _) _).trans (hb1.mono aK));clear hb1;cases oS with
 |none=>
  obtain⟨p,rfl⟩:=hcase;go_wp2_with ((with_reducible refine Ad (op:=⟨none,.store 50 _ _,_,_,_,none⟩) rfl 50 _ _ rfl w 0 [a6,a6,a6] ?_ ?_ ?_ ?_ ?_ ?_);rfl;rfl;(exact HT1.o);kernel_rfl;(simp[Value.oneCell']);intro w9 HS9)
  have HZ:=@Aa (w9.rangeAt w 0 [a6,a6,a6]) (by rw[HS9.o];exact aa _ _ _ _ HT1.o);refine aF (v:=.tuple #[.pointer none,.agg ([a6,a6,a6]:List Value).toArray,.bool false]) ?_ rfl ?_
  ·exact H4 results34 _ _ w.heap.size [a6,a6,a6] _ _ _ rfl rfl rfl HZ.o underlying50 rfl aL
  exact Qj.no HF.o rfl (by rw[HS9.o];exact Ai _ (An _) _ _ _ Hb1.o)
 |some S=>
  obtain⟨p,xs,hxs,rfl,hsl⟩:=hcase;subst hxs;have Hsl:=@Aa (Qq (w.heap.size+1) w1 p xs) (by simpa using hsl);obtain⟨pb,_,_,_,hp,_⟩:=hsl;subst hp;go_wp2_with fail;refine(Hrk.o _).mono ?_;rintro e w2 ⟨hcase,hb2⟩;cases oK with
  |none=>
   obtain⟨a1,a2,a3,rfl⟩:=hcase;have hz4:w2.heap.size<(w2.alloc (.cells #[.string a1,.string a2,.string a3] 50)).heap.size:=aK;have hz2:w.heap.size<w2.heap.size:=by have:=hb2.size;omega
   have HT4:=@Aa ((w2.alloc (.cells #[.string a1,.string a2,.string a3] 50)).there w 0 3) (ar (Aj HT1.o hz1 hb2) _);have HX4:=@Aa ((w2.alloc (.cells #[.string a1,.string a2,.string a3] 50)).rangeAt w2 0 [.string a1,.string a2,.string a3]) (Bk w2 [.string a1,.string a2,.string a3] _);have Hsl4:=@Aa (Qq (w.heap.size+1) (w2.alloc (.cells #[.string a1,.string a2,.string a3] 50)) pb xs) ((Hsl.o.below hb2).below ((Ap _ _).alloc (An _) _));have Hb4:=@Aa (Below w w (w2.alloc (.cells #[.string a1,.string a2,.string a3] 50))) ((Hb1.o.trans (hb2.mono Hb1.o.size)).alloc aH _);clear hb2;go_wp2_with fail;refine Bq [23,24,25,26,27,28,29,30,4,999,6] aL aL aL (fun u=>by dsimp only[Bv,Bs,List.set,am,Nat.reduceAdd])
    (fun i v W=>match i with|0=>v=pb|1=>v=.agg ([.string a1,.string a2,.string a3]:List Value).toArray|2=>v=.bool false|3=>v=.bool false|7=>v=.bool false|8=>v=pb|10=>v=.bool false|_=>True) (fun L U W=>Below w w W/\w2.heap.size<W.heap.size/\W.there w 0 3/\W.rangeAt w2 0 [.string a1,.string a2,.string a3]/\Qq (w.heap.size+1) W pb xs/\(L 9=true->W.rangeAt w 0 [.string a1,.string a2,.string a3])) (fun _ _=>True) (fun _ _ _ _ _ h=>h) ⟨Hb4.o.drew,by simp,by simpa using HT4.o,by simpa using HX4.o,Hsl4.o.below ((Ap _ _).drew),by simp⟩ ?_ ?_
   ·repeat (first|exact Ak.nil|(refine Ak.cons ?_ ?_;rotate_left))
    all_goals
     rintro L U W hL hpre hR hun hdep K hK;have HR:=Aa hR;obtain⟨_,_,_,hxr,_,_⟩:=hR;have c0:W.cell? (w2,0)=some (.string a1):=by simpa using Ab hxr 0 rfl
     have c1:W.cell? (w2,1)=some (.string a2):=by simpa using Ab hxr 1 rfl
     have c2:W.cell? (w2,2)=some (.string a3):=by simpa using Ab hxr 2 rfl
     clear hun hdep hxr;first|(simp[Region.binds]at hpre;done)|simp[Region.binds]at hpre|clear hpre
    iterate 9 exact iA
    ·obtain⟨r1,r2,r3,r4,r5,r6⟩:=HR.o;rw[if_pos cx];refine wp_store_mid 50 _ _ rfl w 0 ([.string a1,.string a2,.string a3]:List Value).toArray rfl hpre.1.2 r3 aL bh ?_;exact li
    ·exact iA
   rintro L U W hL hφ ⟨r1,r2,r3,r4,r5,r6⟩;have e8:U 8=pb:=hφ 8 aJ;have e10:U 10=.bool false:=hφ 10 aJ;have hr0:=r6 (hL 9 aJ);simp only[e8,e10];have R1:=Aa r1;have R5:=Aa r5;have R0:=Aa hr0;clear hL hφ r1 r2 r3 r4 r5 r6 hr0;go_wp2_with fail;refine aF (v:=.tuple #[pb,.agg ([.string a1,.string a2,.string a3]:List Value).toArray,.bool false]) ?_ rfl ?_
   ·exact H4 results34 _ _ w.heap.size [.string a1,.string a2,.string a3] _ _ _ rfl rfl rfl R0.o underlying50 rfl aL
   exact Qj.no HF.o rfl R1.o
  |some k=>
   have hcase':e=.returned (.tuple #[.agg #[k.signs,k.base,k.name],.bool true]):=hcase;subst hcase';clear hcase;have hkn:k.name.length<=100:=ad (Kr (Hkok.o k rfl)) aJ;have hz4:w2.heap.size<(w2.alloc (.cells #[k.signs,k.base,k.name] 50)).heap.size:=aK;have hz2:w.heap.size<w2.heap.size:=by have:=hb2.size;omega
   have HT4:=@Aa ((w2.alloc (.cells #[k.signs,k.base,k.name] 50)).there w 0 3) (ar (Aj HT1.o hz1 hb2) _);have HX4:=@Aa ((w2.alloc (.cells #[k.signs,k.base,k.name] 50)).rangeAt w2 0 [k.signs,k.base,k.name]) (Bk w2 [k.signs,k.base,k.name] _);have Hsl4:=@Aa (Qq (w.heap.size+1) (w2.alloc (.cells #[k.signs,k.base,k.name] 50)) pb xs) ((Hsl.o.below hb2).below ((Ap _ _).alloc (An _) _));have Hb4:=@Aa (Below w w (w2.alloc (.cells #[k.signs,k.base,k.name] 50))) ((Hb1.o.trans (hb2.mono Hb1.o.size)).alloc aH _);clear hb2;go_wp2_with fail;have HF3:=@Aa (At s d=if Cc (Ag xs) k then some (Ag xs,k)else none) HF.o;refine Bq [23,24,25,26,27,28,29,30,4,999,6] aL aL aL (fun u=>by dsimp only[Bv,Bs,List.set,am,Nat.reduceAdd])
    (fun i v W=>match i with|0=>v=pb|1=>v=.agg ([k.signs,k.base,k.name]:List Value).toArray|2=>v=.bool true|3=>v=.bool true|4=>v=pb|5=>v=.agg ([k.signs,k.base,k.name]:List Value).toArray|6=>v=.bool (decide (Cc (Ag xs) k))|7=>v=.bool (decide (Cc (Ag xs) k))|8=>v=pb|10=>v=.bool (decide (Cc (Ag xs) k))|_=>True) (fun L U W=>Below w w W/\w2.heap.size<W.heap.size/\W.there w 0 3/\W.rangeAt w2 0 [k.signs,k.base,k.name]/\Qq (w.heap.size+1) W pb xs/\(L 9=true->W.rangeAt w 0 [k.signs,k.base,k.name])) (fun _ _=>True) (fun _ _ _ _ _ h=>h) ⟨Hb4.o.drew,by simp,by simpa using HT4.o,by simpa using HX4.o,Hsl4.o.below ((Ap _ _).drew),by simp⟩ ?_ ?_
   ·repeat (first|exact Ak.nil|(refine Ak.cons ?_ ?_;rotate_left))
    all_goals
     rintro L U W hL hpre hR hun hdep K hK;have HR:=Aa hR;obtain⟨_,_,_,hxr,_,_⟩:=hR;have c0:W.cell? (w2,0)=k.signs:=by simpa using Ab hxr 0 rfl
     have c1:W.cell? (w2,1)=k.base:=by simpa using Ab hxr 1 rfl
     have c2:W.cell? (w2,2)=k.name:=by simpa using Ab hxr 2 rfl
     clear hun hdep hxr;first|(simp[Region.binds]at hpre;done)|simp[Region.binds]at hpre|clear hpre
    iterate 6 exact iA
    ·go_simp;obtain⟨r1,r2,r3,r4,r5,r6⟩:=HR.o;refine(Qfe _ xs k W r5.isc.map hkn).mono ?_;rintro e w5 ⟨rfl,hb5⟩;exact hK (.bool (decide (Cc (Ag xs) k))) _ _ rfl Ac ⟨r1.trans (hb5.mono r1.size),ac r2 hb5.size,Aj r3 (show w.heap.size<W.heap.size by omega) hb5,Ah r4 r2 hb5,r5.below hb5,fun h=>Ah (r6 h) (show w.heap.size<W.heap.size by omega) hb5⟩ aI
    ·exact iA
    ·exact iA
    ·obtain⟨r1,r2,r3,r4,r5,r6⟩:=HR.o;rw[if_pos cx];refine wp_store_mid 50 _ _ rfl w 0 ([k.signs,k.base,k.name]:List Value).toArray rfl hpre.1.2 r3 aL bh ?_;exact li
    ·exact iA
   rintro L U W hL hφ ⟨r1,r2,r3,r4,r5,r6⟩;have e8:U 8=pb:=hφ 8 aJ;have e10:U 10=.bool (decide (Cc (Ag xs) k)):=hφ 10 aJ;have hr0:=r6 (hL 9 aJ);simp only[e8,e10];have R1:=Aa r1;have R5:=Aa r5;have R0:=Aa hr0;clear hL hφ r1 r2 r3 r4 r5 r6 hr0;go_wp2_with fail;refine aF (v:=.tuple #[pb,.agg ([k.signs,k.base,k.name]:List Value).toArray,.bool (decide (Cc (Ag xs) k))]) ?_ rfl ?_
   ·exact H4 results34 _ _ w.heap.size [k.signs,k.base,k.name] _ _ _ rfl rfl rfl R0.o underlying50 rfl aL
   by_cases hr:Cc (Ag xs) k
   ·rw[aD hr];unfold Qj;rw[HF3.o,if_pos hr]
    exact⟨⟨_,xs,rfl,rfl,by
     obtain⟨b,A,c,mb,q0,q1,q2,q3,q4,q5,q6,q7,l1,l2,l3,l4⟩:=R5.o;exact⟨b,A,c,mb,q0,q1,q2,q3,q4,q5,q6,q7,by omega,by omega,fun g o h1 h2=>by have:=l3 g o h1 h2;omega,fun x hx=>⟨by have:=(l4 x hx).1;omega,fun k h1 h2=>by have:=(l4 x hx).2 k h1 h2;omega⟩⟩⟩,R1.o⟩
   rw[aC hr];exact Qj.no (HF3.o.trans (if_neg hr)) rfl R1.o
def Kl(B:Nat)(w:World)(v:Value):Option Fd->Prop
 |none=>v=.pointer none
 |some f=>∃b o,v=.pointer (some ⟨b,o,none⟩)/\b<B/\w.rangeAt b o (Vp f)
theorem Kl.below{B:Nat}{w w':World}{v:Value}{o:Option Fd}(h:Kl B w v o)(hb:Below B w w'):Kl B w' v o:=by
 cases o with
 |none=>exact h
 |some f=>obtain⟨b,o,e,h1,h2⟩:=h;exact⟨b,o,e,h1,Ah h2 h1 hb⟩
def Qmy(B:Nat)(o:Option Fd)(w:World)(e:Ending)(w':World):Prop:=∃v,e=.returned v/\Kl B w v o/\w=w'
theorem Qi(w0:World)(x:PT)(hx:So w0 x)(n:Nat)(w:World)(hb:Below w0 w0 w)(hn:n<=1000000000):
  Calls prog 59 #[x.blk,.int .i64 n] w (Qmy w0.heap.size (Av x.ty.fields n) w):=by
 obtain⟨z0,_,_,_,z3,_,A,c,hfv,hl,hr⟩:=hx;rw[hfv]at z3;have c2:w.cell? (x.blk,2)=some (.slice A x.ty.fields.length c):=(hb.cell (p:=⟨x.blk,2,none⟩) z0).trans z3;have Hr:=Aa hr;have Hb:=Aa hb;clear hr hfv z3 hb;go_enter func59,ntmps59;go_wp2_with fail;go_loop [11] (fun i=>∃k:Nat,i=.int .i64 k/\k<=x.ty.fields.length/\Hid (∀f∈x.ty.fields.take k,decide (f.tag=n)=false)) (fun i=>x.ty.fields.length - (intOf i).toNat)
 case atStart=>exact⟨0,rfl,ag _,by intro f hf;simp at hf⟩
 case round=>
  obtain⟨k,rfl,hk,hin⟩:=hrel;by_cases hlt:k<x.ty.fields.length
  ·obtain⟨b,off,rfl,hbl,hrg⟩:=Sp.range Hr.o hlt;have hrw:=Ah hrg hbl Hb.o;have Hts:=Aa (Cn x.ty.fields k hlt);have Hft:=Aa (Vu (p:=fun f=>decide (f.tag=n)) hlt hin.o);generalize x.ty.fields[k]=f at hrg hrw Hts Hft;have c0:w.cell? ⟨b,off+k*6,none⟩=(f.tag:Int):=by simpa using Ab hrw 0 rfl
   have Hrw:=Aa hrw;clear hrw hrg;have k1:(0:Int)<=(k:Int):=aH;have k2:(k:Int)<(x.ty.fields.length:Int):=aH;by_cases he:f.tag=n
   ·have t1:((f.tag:Int) == (n:Int))=true:=by simp[he]
    have Hfin:=Aa (show Av x.ty.fields n=some f by unfold Av;rw[Hft.o,if_pos dm]);clear he;go_wp2_with fail;go_ret;exact⟨_,rfl,by rw[Hfin.o];exact⟨b,off+k*6,rfl,hbl,Hrw.o⟩,rfl⟩
   have t1:((f.tag:Int) == (n:Int))=false:=cw
   have Hin:=Aa (show ∀g∈x.ty.fields.take (k+1),decide (g.tag=n)=false by
    intro g hg;rw[Hts.o]at hg;rcases af.1 hg with hg|hg
    ·exact hin.o g hg
    simp at hg;subst hg;simpa using he)
   clear he;go_wp2_with fail;go_round
   case rel=>exact⟨k+1,by go_num,by omega,Hin.o⟩
   case measure=>simp[intOf];omega
  ·have Hfin:=@Aa (Av x.ty.fields n=none) (Pf (fun f hf=>hin.o f dZ));go_wp2_with fail;go_ret;exact⟨_,rfl,by rw[Hfin.o];rfl,rfl⟩
theorem Qc9(p:Value)(c:UInt8)(t:List UInt8)(b nm:ByteArray)(w:World)(hc:c=91\/c=63)(hl:t.length<=1000):
  Calls prog 90 #[p,.agg #[.string ⟨(c::t).toArray⟩,.string b,.string nm]] w (Ja (Qh4 c) w):=by
 rcases hc with rfl|rfl
 ·go_enter func90,ntmps90;go_wp2_with fail;refine(Nn 91 t hl _ _ _).mono ?_;rintro e w1 ⟨rfl,hb1⟩;go_wp2_with fail;exact lj
 go_enter func90,ntmps90;go_wp2_with fail;refine(Nn 63 t hl _ _ _).mono ?_;rintro e w1 ⟨rfl,hb1⟩;go_wp2_with fail;exact lj
theorem Zu(p:Value)(b:List UInt8)(nm:ByteArray)(w:World)(hb:b=[110]\/b=[116]\/b=[102]):
  Calls prog 90 #[p,.agg #[a6,b,.string nm]] w (Ja (Zc b) w):=by
 rcases hb with rfl|rfl|rfl<;>
 ·go_enter func90,ntmps90;go_wp2_with fail;refine(Kj _ _ _).mono ?_;rintro e w1 ⟨rfl,hb1⟩;obtain⟨hc1,_,_⟩:=Cj hb1;have y1:=hc1 w 1 aK;simp at y1;clear hc1;have Hb1:=Aa (((Ap w.heap.size w).alloc (An _) _).trans (hb1.mono aK));clear hb1;go_wp2_with fail;exact lk
def kcs(k:Kd):List Value:=[k.signs,k.base,k.name]
def J8(v:Vl)(sl:Value):List Value:=[.int .u8 (v.what.toNat:Int),v.text,(v.tag:Int),sl]
def Ni(w:World)(b:Nat)(p:Value)(k:Kd)(t:List UInt8)(bad:Bool)(W:World):Prop:=
 D9 w b p t bad W/\W.rangeAt w 0 (kcs k)/\W.there (w.heap.size+1) 0 4/\w.heap.size+1<W.heap.size
theorem Ni.init{w:World}{b:Nat}{p:Value}{k:Kd}{t:List UInt8}{bad:Bool}(h:Jn w b p t bad){T U:TypeId}:Ni w b p k t bad ((w.alloc (.cells #[k.signs,k.base,k.name] T)).alloc (.cells #[.int .u8 0,a6,.int .i64 0,.slice none 0 0] U)):=by
 have h1:Below w w ((w.alloc (.cells #[k.signs,k.base,k.name] T)).alloc (.cells #[.int .u8 0,a6,.int .i64 0,.slice none 0 0] U)):=((Ap _ _).alloc (An _) _).alloc aK _;refine⟨⟨h.grow h1,Cm h1 _⟩,?_,?_,by simp⟩
 ·have:=Ah (Bk w (kcs k) T) (show w.heap.size<(w.alloc (.cells (kcs k).toArray T)).heap.size by simp) ((Ap _ _).alloc (An _) (.cells #[.int .u8 0,a6,.int .i64 0,.slice none 0 0] U));exact this
 have:=Bu (w.alloc (.cells #[k.signs,k.base,k.name] T)) [.int .u8 0,a6,.int .i64 0,.slice none 0 0] U;simpa using this
theorem Ni.post{w W W':World}{b:Nat}{p:Value}{k:Kd}{t:List UInt8}{bad:Bool}(h:Ni w b p k t bad W)(hb:Below W W W'):Ni w b p k t bad W':=
 ⟨h.1.post hb,Ah h.2.1 (by have:=h.2.2.2;omega) hb,Aj h.2.2.1 h.2.2.2 hb,ac h.2.2.2 hb.size⟩
theorem Ni.step{w W W':World}{b:Nat}{p:Value}{k:Kd}{t t':List UInt8}{bad bad':Bool}(h:Ni w b p k t bad W)(hb:b<w.heap.size)(hs:D9 W b p t' bad' W'):Ni w b p k t' bad' W':=
 ⟨h.1.trans hs,Cz h.2.1 hs.2 aM,Ey h.2.2.1 hs.2 h.2.2.2 aM,ac h.2.2.2 hs.2.size⟩
theorem Ni.fin{w W w9:World}{b N:Nat}{p:Value}{k:Kd}{t t':List UInt8}{bad':Bool}{v:Vl}{sl:Value}{r:Option (Vl × List UInt8)}(F:Ni w b p k t' bad' W)(hb:b<w.heap.size)(HS:w9=W.setCells (w.heap.size+1) 0 (J8 v sl))
  (hv:Eh (fun c=>w.heap.size+2<=c) W sl v.kids) (hr:bad'=r.isNone) (hx:∀x,r=some x->v=x.1/\t'=x.2) (hB:Bd v) (hl:t'.length<=t.length) (hn:(Bc v).length+t'.length<=t.length+8*N):
  Nc w b p t N r (.returned (.agg (J8 v sl).toArray)) w9/\w9.rangeAt (w.heap.size+1) 0 (J8 v sl):=by
 subst HS hr;exact⟨⟨v,sl,t',rfl,(hv.set (B:=w.heap.size+1) aH _).mono fun c hc _=>by omega,F.1.set aH aH _,hx,hB,hl,hn⟩,aa _ _ _ _ F.2.2.1⟩
theorem Qag(b N:Nat)(p:Value)(t:List UInt8)(k:Kd)(w:World)(h:Jn w b p t true):
  Calls prog 55 #[b,Et k] w (Nc w b p t N none):=by
 have HS:=Aa h;obtain⟨h0,h1,h2,h3,h4⟩:=h;have hbn:¬(b=w.heap.size):=aH;have hbn2:¬(b=w.heap.size+1):=aH;unfold Et;clear h1 h2 h3;go_enter func55,ntmps55;go_wp2_with fail;have F:=(Ni.init (k:=k) HS.o (T:=50) (U:=44)).1;refine aF (v:=.agg (J8 Fm (.slice none 0 0)).toArray) ?_ rfl ⟨Fm,.slice none 0 0,t,rfl,Eh.nil _ _,F,aK,Gb aJ aJ,An _,by simp[Fm,Bc,Ed,Jg]⟩;refine Bj results55 _ _ (w.heap.size+1) _ _ rfl ?_ underlying44 rfl aL;have:=Bk (w.alloc (.cells #[k.signs,k.base,k.name] 50)) [.int .u8 0,a6,.int .i64 0,.slice none 0 0] 44;simpa [J8,Fm,Vl.what,Vl.text,Vl.tag]using this
theorem Qdx(t:List UInt8):Tf t=if Jq 999999 t then some (Kb t,t.dropWhile Bn)else none:=by
 unfold Tf Jq Kb;cases h:Dc (t.takeWhile Bn)with
 |none=>simp
 |some n=>simp[(Co.1 h).1]
theorem Qda(t:List UInt8):Kb t<=999999:=by
 unfold Kb;cases h:Dc (t.takeWhile Bn)with
 |none=>simp
 |some n=>exact(Co.1 h).1
theorem Qc5(p:UInt8->Bool)(t:List UInt8):(t.dropWhile p).length<=t.length:=(Tv p t).2
theorem Qka(b N:Nat)(p:Value)(t:List UInt8)(k:Kd)(w:World)(h:Jn w b p t false)(hl:t.length<=900)(hs:k.signs=[])(hb:k.base=[110])(q:Option (Vl × List UInt8))(hq:q=match Tf t with|some (n,r)=>some (.mk 110 (Bb n) 0 [],r)|none=>none):
  Calls prog 55 #[b,Et k] w (Nc w b p t (N+1) q):=by
 have HQ:=Aa hq;have HS:=Aa h;have hb0:=h.1;have hbn:¬(b=w.heap.size):=aH;have hbn2:¬(b=w.heap.size+1):=aH;have c2:=h.2.2.2.2;clear hq;obtain⟨sg,bs,nm⟩:=k;simp only at hs hb;have HN:=Aa (Qdx t);have hnn:=Qda t;have Hn:=Aa (fun W (h:Jn W b p t false)=>Ru b 999999 p t false W h aH aJ);have Hd:=Aa (fun W=>Rt (Kb t) (Kb t) W (An _) aH);have hdl:=Dk 5 (Kb t) eH;have hdr:=Qc5 Bn t;generalize Kb t=n at *;generalize Jq 999999 t=ok at *;generalize t.dropWhile Bn=r at *;subst hs hb;unfold Et;simp only;clear h;go_enter func55,ntmps55;go_wp2_with fail;refine(Kj _ _ _).mono ?_;rintro e w2 ⟨rfl,hb2⟩;have F2:=Aa ((Ni.init (k:=⟨[],[110],nm⟩) HS.o).post hb2);clear hb2 c2;have k0:=Ab F2.o.2.1 0 rfl;have k1:=Ab F2.o.2.1 1 rfl;have k2:=Ab F2.o.2.1 2 rfl;simp only[am]at k0 k1 k2;have s2:=F2.o.1.1.2.2.2.2;go_wp2_with fail;refine(Hn.o _ F2.o.1.1).mono ?_;rintro e w3 ⟨rfl,hs3⟩;have F3:=Aa (F2.o.step hb0 hs3);clear hs3 k0 k1 k2 s2;go_wp2_with fail;refine(Hd.o _).mono ?_;rintro e w4 ⟨rfl,hb4⟩;have F4:=Aa (F3.o.post hb4);clear hb4;go_wp2_with ((with_reducible refine Ad (op:=⟨none,.store 44 _ _,_,_,_,none⟩) rfl 44 _ _ rfl (w.heap.size+1) 0 [.int .u8 110,.string ⟨(Bb n).toArray⟩,.int .i64 0,.slice none 0 0] ?_ ?_ ?_ ?_ ?_ ?_);rfl;rfl;(exact F4.o.2.2.1);kernel_rfl;(simp[Value.oneCell']);intro w9 HS9)
 have HQ:=HQ.o;rw[HN.o]at HQ;have Z:=Ni.fin (t:=t) (N:=N+1) (v:=.mk 110 (Bb n) 0 []) (sl:=.slice none 0 0) (r:=q) F4.o hb0 HS9.o (Eh.nil _ _) (by rw[HQ];cases ok<;>rfl)
  (by rw[HQ];cases ok<;>simp) (Gb aJ aH) hdr gp
 exact aF (v:=.agg (J8 (.mk 110 (Bb n) 0 []) (.slice none 0 0)).toArray) (Bj results55 _ _ (w.heap.size+1) _ _ rfl Z.2 underlying44 rfl aL) rfl Z.1
theorem Ql7(b N:Nat)(p:Value)(t:List UInt8)(k:Kd)(w:World)(h:Jn w b p t false)(hl:t.length<=900)(hs:k.signs=[])(hb:k.base=[116])(q:Option (Vl × List UInt8))(hq:q=match Pi t with|some (x,r)=>some (.mk 116 x 0 [],r)|none=>none):
  Calls prog 55 #[b,Et k] w (Nc w b p t (N+1) q):=by
 have HQ:=Aa hq;have HS:=Aa h;have hb0:=h.1;have hbn:¬(b=w.heap.size):=aH;have hbn2:¬(b=w.heap.size+1):=aH;have c2:=h.2.2.2.2;clear hq;obtain⟨sg,bs,nm⟩:=k;simp only at hs hb;have Hn:=Aa (fun W (h:Jn W b p t false)=>Qhh b p t false W h aH);subst hs hb;unfold Et;simp only;clear h;go_enter func55,ntmps55;go_wp2_with fail;refine(Kj _ _ _).mono ?_;rintro e w2 ⟨rfl,hb2⟩;have F2:=Aa ((Ni.init (k:=⟨[],[116],nm⟩) HS.o).post hb2);clear hb2 c2;have k0:=Ab F2.o.2.1 0 rfl;have k1:=Ab F2.o.2.1 1 rfl;have k2:=Ab F2.o.2.1 2 rfl;simp only[am]at k0 k1 k2;have s2:=F2.o.1.1.2.2.2.2;go_wp2_with fail;refine(Hn.o _ F2.o.1.1).mono ?_;rintro e w3 ⟨x,r,bad,rfl,hs3,hx,hxl⟩;have F3:=Aa (F2.o.step hb0 hs3);have Hx:=Aa hx;clear hs3 hx k0 k1 k2 s2;go_wp2_with ((with_reducible refine Ad (op:=⟨none,.store 44 _ _,_,_,_,none⟩) rfl 44 _ _ rfl (w.heap.size+1) 0 [.int .u8 116,x,.int .i64 0,.slice none 0 0] ?_ ?_ ?_ ?_ ?_ ?_);rfl;rfl;(exact F3.o.2.2.1);kernel_rfl;(simp[Value.oneCell']);intro w9 HS9)
 have HQ:=HQ.o;rw[show Pi t=if bad then none else some (x,r)from Hx.o]at HQ;have Z:=Ni.fin (t:=t) (N:=N+1) (v:=.mk 116 x 0 []) (sl:=.slice none 0 0) (r:=q) F3.o hb0 HS9.o (Eh.nil _ _) (by rw[HQ];cases bad<;>rfl)
  (by rw[HQ];cases bad<;>simp) (Gb aJ aH) aH gp
 exact aF (v:=.agg (J8 (.mk 116 x 0 []) (.slice none 0 0)).toArray) (Bj results55 _ _ (w.heap.size+1) _ _ rfl Z.2 underlying44 rfl aL) rfl Z.1
theorem Qlp(b N:Nat)(p:Value)(t:List UInt8)(k:Kd)(w:World)(h:Jn w b p t false)(hl:t.length<=900)(hs:k.signs=[])(hb:k.base=[102])(q:Option (Vl × List UInt8))(hq:q=match Rw t with|some (x,r)=>some (.mk 102 (if x then Fa else Nq) 0 [],r)|none=>none):
  Calls prog 55 #[b,Et k] w (Nc w b p t (N+1) q):=by
 have HQ:=Aa hq;have HS:=Aa h;have hb0:=h.1;have hbn:¬(b=w.heap.size):=aH;have hbn2:¬(b=w.heap.size+1):=aH;have c2:=h.2.2.2.2;clear hq;obtain⟨sg,bs,nm⟩:=k;simp only at hs hb;have HFL:=@Aa (Rw t=(match Bl Fa t false with|some r=>some (true,r)|none=>match Bl Nq t false with|some r=>some (false,r)|none=>none)) rfl;have Hy:=Aa (fun W (h:Jn W b p t false)=>Kp b p t Fa false W h aH);have Hw:=Aa (fun W (h:Jn W b p t false)=>D2 b p t Nq false W h aH);have Hl1:=Aa (fun r (h:Bl Fa t false=some r)=>(G0 (p:=Fa)).1 h);have Hl2:=Aa (fun r (h:Bl Nq t false=some r)=>(G0 (p:=Nq)).1 h);subst hs hb;unfold Et;simp only;clear h;rcases hy:Bl Fa t false with _|r
 ·rw[hy]at Hy HFL;unfold Fa at Hy;unfold Nq at Hw
  have HL:=Aa (show ((Bl Nq t false).getD t).length<=t.length from by
   cases h:Bl Nq t false with
   |none=>exact An _
   |some r=>rw[Hl2.o r h];simp)
  clear hy;go_enter func55,ntmps55;go_wp2_with fail;refine(Kj _ _ _).mono ?_;rintro e w2 ⟨rfl,hb2⟩;have F2:=Aa ((Ni.init (k:=⟨[],[102],nm⟩) HS.o).post hb2);clear hb2 c2;have k0:=Ab F2.o.2.1 0 rfl;have k1:=Ab F2.o.2.1 1 rfl;have k2:=Ab F2.o.2.1 2 rfl;simp only[am]at k0 k1 k2;have s2:=F2.o.1.1.2.2.2.2;go_wp2_with fail;refine(Hy.o _ F2.o.1.1).mono ?_;rintro e w3 ⟨rfl,hs3⟩;simp only[Option.getD_none]at hs3;have F3:=Aa (F2.o.step hb0 hs3);clear hs3 k0 k1 k2 s2;go_wp2_with fail;refine(Hw.o _ F3.o.1.1).mono ?_;rintro e w4 ⟨rfl,hs4⟩;have F4:=Aa (F3.o.step hb0 hs4);clear hs4;go_wp2_with ((with_reducible refine Ad (op:=⟨none,.store 44 _ _,_,_,_,none⟩) rfl 44 _ _ rfl (w.heap.size+1) 0 [.int .u8 102,.string ⟨#[110,111]⟩,.int .i64 0,.slice none 0 0] ?_ ?_ ?_ ?_ ?_ ?_);rfl;rfl;(exact F4.o.2.2.1);kernel_rfl;(simp[Value.oneCell']);intro w9 HS9)
  have HQ:=HQ.o;rw[HFL.o]at HQ;have hl2:=HL.o;have Z:=Ni.fin (t:=t) (N:=N+1) (v:=.mk 102 Nq 0 []) (sl:=.slice none 0 0) (r:=q) F4.o hb0 HS9.o (Eh.nil _ _) (by rw[HQ];unfold Nq;cases Bl [110,111] t false<;>rfl)
   (by rw[HQ];unfold Nq;cases Bl [110,111] t false<;>simp) (Gb aJ aJ) hl2 (by unfold Nq at hl2 ⊢;simp[Bc,Ed,Jg];omega)
  exact aF (v:=.agg (J8 (.mk 102 Nq 0 []) (.slice none 0 0)).toArray) (Bj results55 _ _ (w.heap.size+1) _ _ rfl Z.2 underlying44 rfl aL) rfl Z.1
 rw[hy]at Hy HFL;unfold Fa at Hy;have hlr:=Hl1.o r hy;have hlr2:t.length=3+r.length:=by rw[hlr];simp[Fa];omega
 clear hy hlr;go_enter func55,ntmps55;go_wp2_with fail;refine(Kj _ _ _).mono ?_;rintro e w2 ⟨rfl,hb2⟩;have F2:=Aa ((Ni.init (k:=⟨[],[102],nm⟩) HS.o).post hb2);clear hb2 c2;have k0:=Ab F2.o.2.1 0 rfl;have k1:=Ab F2.o.2.1 1 rfl;have k2:=Ab F2.o.2.1 2 rfl;simp only[am]at k0 k1 k2;have s2:=F2.o.1.1.2.2.2.2;go_wp2_with fail;refine(Hy.o _ F2.o.1.1).mono ?_;rintro e w3 ⟨rfl,hs3⟩;simp only[Option.getD_some]at hs3;have F3:=Aa (F2.o.step hb0 hs3);clear hs3 k0 k1 k2 s2;go_wp2_with ((with_reducible refine Ad (op:=⟨none,.store 44 _ _,_,_,_,none⟩) rfl 44 _ _ rfl (w.heap.size+1) 0 [.int .u8 102,.string ⟨#[121,101,115]⟩,.int .i64 0,.slice none 0 0] ?_ ?_ ?_ ?_ ?_ ?_);rfl;rfl;(exact F3.o.2.2.1);kernel_rfl;(simp[Value.oneCell']);intro w9 HS9)
 have HQ:=HQ.o;rw[HFL.o]at HQ;have Z:=Ni.fin (t:=t) (N:=N+1) (v:=.mk 102 Fa 0 []) (sl:=.slice none 0 0) (r:=q) F3.o hb0 HS9.o (Eh.nil _ _) (by rw[HQ];rfl)
  (by rw[HQ];simp) (Gb aJ aJ) aH (by unfold Fa;simp[Bc,Ed,Jg];omega)
 exact aF (v:=.agg (J8 (.mk 102 Fa 0 []) (.slice none 0 0)).toArray) (Bj results55 _ _ (w.heap.size+1) _ _ rfl Z.2 underlying44 rfl aL) rfl Z.1
def IvC(w0:World)(b:Nat)(p:Value)(S:List Ty)(N:Nat)(k:Kd):Prop:=
 ∀(t:List UInt8) (bad:Bool) (w:World),Below w0 w0 w->Jn w b p t bad->t.length<=900->(bad=false->t.length<N) ->
  Calls prog 55 #[b,Et k] w (Nc w b p t N (if bad then none else Ar S 1000 N k t))
theorem Eh.one{P Q:Nat->Prop}{w:World}{v:Vl}{sl:Value}{T:TypeId}(h:Eh P w sl v.kids)(hQ:∀b,P b->b<w.heap.size->Q b)(hn:Q w.heap.size):
  Eh Q (w.alloc (.cells #[.int .u8 (v.what.toNat:Int),v.text,(v.tag:Int),sl] T)) (.slice (w,0) 1 1) [v]:=by
 have hb:Below w w (w.alloc (.cells #[.int .u8 (v.what.toNat:Int),v.text,(v.tag:Int),sl] T)):=(Ap _ _).alloc (An _) _;refine .mk (w,0) 1 [(v,sl)] rfl rfl aK ⟨rfl,(show 4<=maxLen by decide),fun _=>⟨w.heap.size,0,rfl,by simp,fun j u hj=>?_⟩⟩ (fun g o _ e=>by injection e with e;injection e with e;subst e;exact hn) (fun x hx=>?_)
 ·rw[World.cell?_alloc_new];simpa [Kt]using hj
 rw[aq]at hx;subst hx;exact(h.mono hQ).after hb
theorem Fo(c:UInt8)(t:List UInt8)(bad:Bool):((Bl [c] t bad).getD t).length<=t.length:=gM
theorem Mc{c:UInt8}{t r:List UInt8}{bad:Bool}(h:Bl [c] t bad=some r):r.length+1=t.length:=by
 rw[Cv]at h;cases bad with
 |true=>cases h
 |false=>rw[if_neg aJ,Cy]at h;subst h;rfl
theorem Qgv(w0:World)(b N:Nat)(p:Value)(S:List Ty)(t:List UInt8)(k:Kd)(w:World)(hw:Below w0 w0 w)(hb:w0.heap.size<=b)(h:Jn w b p t false)(hl:t.length<=900)(hN:t.length<=N)(hN2:N<=2000)(sg:List UInt8)(hs:k.signs=63::sg)(hsl:sg.length<=100)
  (H:IvC w0 b p S N k.part) (q:Option (Vl × List UInt8)) (hq:q=Qeh (Ar S 1000 N k.part) t):
  Calls prog 55 #[b,Et k] w (Nc w b p t (N+1) q):=by
 have HQ:=Aa hq;have HH:=Aa H;have HP:=Aa (fun W=>Vy k W 63 sg hs aH);have HS:=Aa h;have HW:=Aa hw;have hb0:=h.1;have hbn:¬(b=w.heap.size):=aH;have hbn2:¬(b=w.heap.size+1):=aH;have c2:=h.2.2.2.2;have hm:=Fo 43 t false;have Hlt:=Aa (fun r (h:Bl [43] t false=some r)=>Mc h);have Hlt2:=Aa (fun r (h:Bl [45] t false=some r)=>Mc h);have Htk:=Aa (fun W (h:Jn W b p t false)=>Kp b p t [45] false W h aH);have Hwt:=Aa (fun W (h:Jn W b p t false)=>D2 b p t [43] false W h aH)
 have HQ2:=Aa (show Qeh (Ar S 1000 N k.part) t=(match Bl [45] t false with|some q=>some (.mk 63 [] 0 [],q)|none=>match Bl [43] t false with|none=>none|some r=>match Ar S 1000 N k.part r with|some (v,q)=>some (.mk 63 [] 0 [v],q)|none=>none)from by
  rw[Cv,Cv];rfl)
 generalize Qeh (Ar S 1000 N k.part) t=q0 at *;have Hkp:=Aa (rfl:Et k=Et k);obtain⟨sg',bs,nm⟩:=k;simp only at hs;subst hs;generalize hkp:(⟨63::sg,bs,nm⟩:Kd).part=kp at *;unfold Et at HP ⊢;simp only at HP ⊢;clear h hq hw H Hkp hkp;rcases hy:Bl [45] t false with _|r
 ·rw[hy]at Htk HQ2;obtain⟨t1,ht1⟩:∃t1,t1=(Bl [43] t false).getD t:=⟨_,rfl⟩
  obtain⟨b1,hb1⟩:∃b1,b1=(Bl [43] t false).isNone:=⟨_,rfl⟩
  have HQ3:=Aa (show q=if b1 then none else match Ar S 1000 N kp t1 with|some (v,q)=>some (.mk 63 [] 0 [v],q)|none=>none from by
   rw[HQ.o,HQ2.o,ht1,hb1];cases Bl [43] t false<;>rfl)
  have HL1:=Aa (show b1=false->t1.length<N from by
   intro h;rw[hb1]at h;cases hr:Bl [43] t false with
   |none=>rw[hr]at h;cases h
   |some r=>have:=Hlt.o r hr;rw[ht1,hr];simp;omega)
  rw[<-ht1]at hm;rw[<-ht1,<-hb1]at Hwt;clear hy ht1 hb1 HQ2 HQ;go_enter func55,ntmps55;go_wp2_with fail;refine(Nn 63 sg aH _ _ _).mono ?_;rintro e w2 ⟨rfl,hb2⟩;have F2:=Aa ((Ni.init (k:=⟨63::sg,bs,nm⟩) HS.o).post hb2);clear hb2 c2;go_wp2_with fail;refine(Htk.o _ F2.o.1.1).mono ?_;rintro e w3 ⟨rfl,hs3⟩;simp only[Option.getD_none]at hs3;have F3:=Aa (F2.o.step hb0 hs3);clear hs3;go_wp2_with fail;refine(Hwt.o _ F3.o.1.1).mono ?_;rintro e w4 ⟨rfl,hs4⟩;have F4:=Aa (F3.o.step hb0 hs4);clear hs4;have k0:=Ab F4.o.2.1 0 rfl;have k1:=Ab F4.o.2.1 1 rfl;have k2:=Ab F4.o.2.1 2 rfl;simp only[am]at k0 k1 k2;go_wp2_with fail;refine(HP.o _).mono ?_;rintro e w5 ⟨rfl,hb5⟩;have F5:=Aa (F4.o.post hb5);clear hb5 k0 k1 k2;go_wp2_with fail;refine(HH.o t1 b1 _ (F5.o.1.env HW.o hb) F5.o.1.1 aH HL1.o).mono ?_;rintro e w6 ⟨v,sl,t',rfl,hk,hs6,hx,hB,hl6,hn6⟩;obtain⟨A7,c7,rfl⟩:=hk.form;have F6:=Aa (F5.o.step hb0 hs6);have hz5:=F5.o.2.2.2;have Hk:=Aa hk;have Hx:=Aa hx;have HB:=Aa hB;clear hs6 hk hx hB;unfold Er;have F7:=Aa (fun o=>F6.o.post ((Ap _ _).alloc (An _) o));go_wp2_with ((with_reducible refine Ad (op:=⟨none,.store 44 _ _,_,_,_,none⟩) rfl 44 _ _ rfl (w.heap.size+1) 0 [.int .u8 63,a6,.int .i64 0,.slice (w6,0) 1 1] ?_ ?_ ?_ ?_ ?_ ?_);rfl;rfl;(exact(Aa (F7.o _)).o.2.2.1);kernel_rfl;(simp[Value.oneCell']);intro w9 HS9)
  have hz6:=F6.o.2.2.2;have Z:=Ni.fin (t:=t) (N:=N+1) (v:=.mk 63 [] 0 [v]) (sl:=.slice (w6,0) 1 1) (r:=q) (F7.o _) hb0 HS9.o (Hk.o.one (fun c hc _=>by omega) aH)
   (by rw[HQ3.o];cases b1 with
    |true=>rfl
    |false=>simp only[ao,if_false];cases Ar S 1000 N kp t1 with
     |none=>rfl
     |some y=>rfl)
   (by rw[HQ3.o];cases b1 with
    |true=>simp
    |false=>
     simp only[ao,if_false];have hx2:=Hx.o;simp only[ao,if_false]at hx2;cases hr:Ar S 1000 N kp t1 with
     |none=>simp
     |some y=>obtain⟨e1,e2⟩:=hx2 y hr;rintro x hxx;injection hxx with hxx;subst hxx;exact⟨by rw[e1],e2⟩)
   (.mk aJ fg aK (fun x hx=>by rw[aq]at hx;subst hx;exact HB.o)) aH (by simp[Bc,Ed,Jg,Aw];omega)
  exact aF (v:=.agg (J8 (.mk 63 [] 0 [v]) (.slice (w6,0) 1 1)).toArray) (Bj results55 _ _ (w.heap.size+1) _ _ rfl Z.2 underlying44 rfl aL) rfl Z.1
 rw[hy]at Htk HQ2;have hlt:=Hlt2.o r hy;clear hy;go_enter func55,ntmps55;go_wp2_with fail;refine(Nn 63 sg aH _ _ _).mono ?_;rintro e w2 ⟨rfl,hb2⟩;have F2:=Aa ((Ni.init (k:=⟨63::sg,bs,nm⟩) HS.o).post hb2);clear hb2 c2;go_wp2_with fail;refine(Htk.o _ F2.o.1.1).mono ?_;rintro e w3 ⟨rfl,hs3⟩;simp only[Option.getD_some]at hs3;have F3:=Aa (F2.o.step hb0 hs3);clear hs3;go_wp2_with ((with_reducible refine Ad (op:=⟨none,.store 44 _ _,_,_,_,none⟩) rfl 44 _ _ rfl (w.heap.size+1) 0 [.int .u8 63,a6,.int .i64 0,.slice none 0 0] ?_ ?_ ?_ ?_ ?_ ?_);rfl;rfl;(exact F3.o.2.2.1);kernel_rfl;(simp[Value.oneCell']);intro w9 HS9)
 have HQ:=HQ.o;rw[HQ2.o]at HQ;have Z:=Ni.fin (t:=t) (N:=N+1) (v:=.mk 63 [] 0 []) (sl:=.slice none 0 0) (r:=q) F3.o hb0 HS9.o (Eh.nil _ _) (by rw[HQ];rfl)
  (by rw[HQ];simp) (Gb aJ aJ) aH gp
 exact aF (v:=.agg (J8 (.mk 63 [] 0 []) (.slice none 0 0)).toArray) (Bj results55 _ _ (w.heap.size+1) _ _ rfl Z.2 underlying44 rfl aL) rfl Z.1
end
theorem Ys:(prog.info? 44).map (fun i=>(i.zero,i.size,i.bytes))=some (some (.agg #[.int .u8 0,a6,.int .i64 0,.slice none 0 0]),4,56):=aL
structure Vq(base B:Nat)(W:World)(h0 h1 h2 u rv:Value)(xs:List (Vl × Value)):Prop where
 lt:B<W.heap.size
 bs:base<=W.heap.size
 hB:B<base
 bk:Rj W B
 c0:W.cell? (B,0)=some h0
 c1:W.cell? (B,1)=some h1
 c2:W.cell? (B,2)=some h2
 c3:W.cell? (B,3)=some u
 row:W.ownsRow base 44 4 rv xs.length (xs.flatMap Kt)
 kids:∀x∈xs,Eh (fun c=>base<=c/\rv.ownBlock≠some c) W x.2 x.1.kids
theorem Vq.after{base B:Nat}{W W':World}{h0 h1 h2 u rv:Value}{xs:List (Vl × Value)}(h:Vq base B W h0 h1 h2 u rv xs)(hb:Below W W W'):Vq base B W' h0 h1 h2 u rv xs:=by
 obtain⟨hc,_,hz⟩:=Cj hb;exact⟨hz _ h.lt,ad h.bs hb.size,h.hB,h.bk.belowAt h.lt hb,(hc _ _ h.lt).trans h.c0,(hc _ _ h.lt).trans h.c1,(hc _ _ h.lt).trans h.c2,(hc _ _ h.lt).trans h.c3,Db h.row hb,fun x hx=>(h.kids x hx).after hb⟩
theorem Vq.step{base B b:Nat}{W W':World}{h0 h1 h2 u rv:Value}{xs:List (Vl × Value)}(h:Vq base B W h0 h1 h2 u rv xs)(hg:W.grownBy W' (some b))(hb:b<base)(hne:b≠B):Vq base B W' h0 h1 h2 u rv xs:=by
 have hn:some B≠some b:=fun e=>fJ
 exact⟨ac h.lt hg.size,ad h.bs hg.size,h.hB,h.bk.grown h.lt hg hn,hg.cell h.c0 hn,hg.cell h.c1 hn,hg.cell h.c2 hn,hg.cell h.c3 hn,
  h.row.kept hg (by
   cases hr:rv.ownBlock with
   |none=>cases rv with
    |slice A a b=>cases A with
     |none=>exact .inl rfl
     |some x=>simp[Value.ownBlock]at hr
    |_=>exact .inl rfl
   |some k=>have:=(h.row.lt k hr).1;exact .inr bQ),
  fun x hx=>(h.kids x hx).grown hg fun c hc e=>by injection e with e;omega⟩
theorem Vq.store{base B:Nat}{W:World}{h0 h1 h2 u rv:Value}{xs:List (Vl × Value)}(h:Vq base B W h0 h1 h2 u rv xs):Vq base B (W.setCell ⟨B,3,none⟩ rv) h0 h1 h2 rv rv xs:=by
 have hg:=Ao W B 3 rv;have hf:=h.bk.live 3;refine⟨by simpa using h.lt,by simpa using h.bs,h.hB,h.bk.set _,by simp[go_sem,h.c0],by simp[go_sem,h.c1],by simp[go_sem,h.c2],by simp[go_sem,h.c3,hf],h.row.kept hg ?_,fun x hx=>(h.kids x hx).grown hg fun c hc e=>by injection e with e;have:=h.hB;omega⟩;cases hr:rv.ownBlock with
 |none=>cases rv with
  |slice A a b=>cases A with
   |none=>exact .inl rfl
   |some x=>simp[Value.ownBlock]at hr
  |_=>exact .inl rfl
 |some k=>have:=(h.row.lt k hr).1;have:=h.hB;exact .inr bQ
theorem Vq.app{base B:Nat}{W W':World}{h0 h1 h2 u rv rv':Value}{xs:List (Vl × Value)}{x:Vl × Value}(h:Vq base B W h0 h1 h2 u rv xs)(hx:Eh (fun c=>base<=c/\rv.ownBlock≠some c) W x.2 x.1.kids)
  (hown:W'.ownsRow base 44 4 rv' (xs.length+1) (xs.flatMap Kt++Kt x)) (hg:W.grownBy W' rv.ownBlock) (hwh:rv'.ownBlock=rv.ownBlock\/∃k,rv'.ownBlock=some k/\W.heap.size<=k):Vq base B W' h0 h1 h2 u rv' (xs++[x]):=by
 have hn:some B≠rv.ownBlock:=fun e=>g7;refine⟨ac h.lt hg.size,ad h.bs hg.size,h.hB,h.bk.grown h.lt hg hn,hg.cell h.c0 hn,hg.cell h.c1 hn,hg.cell h.c2 hn,hg.cell h.c3 hn,by simpa using hown,fun y hy=>?_⟩;have hy':Eh (fun c=>base<=c/\rv.ownBlock≠some c) W y.2 y.1.kids:=by
  rcases af.1 hy with hy|hy
  ·exact h.kids y hy
  rw[aq]at hy;subst hy;exact hx
 refine hy'.kept (fun b o v hb _ hv=>hg.cell hv fun e=>hb.2 e.symm) hg.size fun c hc hl=>⟨hc.1,?_⟩
 rcases hwh with e|⟨k,e,hk⟩
 ·rw[e];exact hc.2
 exact ll
theorem Vq.done{base B:Nat}{W:World}{h0 h1 h2 u rv:Value}{xs:List (Vl × Value)}(h:Vq base B W h0 h1 h2 u rv xs)(hl:xs.length<=1000):Eh (fun c=>base<=c) W rv (Bi xs):=by
 rcases h.row.2 with⟨rfl,h0⟩|⟨g,cap,cur,rfl,hbg,hh,hnc,hcm,hcs,htk⟩
 ·obtain rfl:xs=[]:=List.eq_nil_of_length_eq_zero h0;exact Eh.nil _ _
 refine .mk (g,0) cap xs rfl rfl hl ⟨J1 Qhs xs,by unfold maxLen;omega,fun hn=>⟨g,0,rfl,(h.row.lt g rfl).2,fun j u hu=>?_⟩⟩ (fun g' o _ e=>by injection e with e;injection e with e;subst e;exact hbg) fun x hx=>(h.kids x hx).mono fun c hc _=>hc.1;have:=h.row.cells (g:=g) rfl j u hu;have e1:(⟨g,0,none⟩:Addr).add j=⟨g,0+j,none⟩:=bD;rwa [e1]at this
theorem N5{w:World}{base k n m c:Nat}{e:TypeId}{A:Option Addr}{xs:List Value}(h:w.ownsRow base e k (.slice A m c) n xs):m=n:=by
 rcases h.2 with⟨e,h0⟩|⟨g,cap,cur,e,_⟩
 ·injection e with _ e1 e2;omega
 injection e with _ e1 e2
theorem Ni.app{w W W':World}{b:Nat}{p:Value}{k:Kd}{t:List UInt8}{bad:Bool}{row:Option Nat}(h:Ni w b p k t bad W)(hb:b<w.heap.size)(hg:W.grownBy W' row)(hr:∀k,row=some k->w.heap.size+2<=k):Ni w b p k t bad W':=by
 have hn:∀c,c<w.heap.size+2->some c≠row:=fun c hc e=>by have:=hr c e.symm;omega
 obtain⟨⟨⟨h0,h1,h2,h3,h4⟩,hg0⟩,k1,k2,k3⟩:=h
 exact⟨⟨⟨ac h0 hg.size,h1.grown h0 hg (hn b aH),hg.cell h2 (hn b aH),hg.cell h3 (hn b aH),hg.cell h4 (hn b aH)⟩,⟨hg.os.trans hg0.os,hg.tape.trans hg0.tape,hg.output.trans hg0.output,ad hg0.size hg.size,fun k hk hne=>(hg.block k (ac hk hg0.size) (hn k aH)).trans (hg0.block k hk hne)⟩⟩,
  Cz k1 hg (hn _ aH),Ey k2 hg k3 (hn _ aH),ac k3 hg.size⟩
theorem Ni.put{w W:World}{b B o:Nat}{p:Value}{k:Kd}{t:List UInt8}{bad:Bool}(h:Ni w b p k t bad W)(hb:b<w.heap.size)(hB:w.heap.size+2<=B)(v:Value):Ni w b p k t bad (W.setCell ⟨B,o,none⟩ v):=
 h.app hb (Ao W B o v) fun k e=>fJ
theorem Yy(x:Vl × Value)(h:x.2.oneCell'=true):∀u∈Kt x,u.oneCell'=true:=by
 intro u hu;simp[Kt]at hu;rcases hu with rfl|rfl|rfl|rfl
 ·rfl
 ·rfl
 ·rfl
 exact h
def Tc(vs:List Vl):Option (List Vl × List UInt8)->Option (List Vl × List UInt8)
 |some (us,z)=>some (vs++us,z)
 |none=>none
def LI(K:List UInt8->Option (Vl × List UInt8))(t1:List UInt8)(b1:Bool)(vs:List Vl)(tt:List UInt8):Prop:=
 (b1=true->vs=[])/\(b1=false->Dl K 1000 t1=Tc vs (Dl K (1000 - vs.length) tt))/\Dq (vs.map Bc)+tt.length<=t1.length/\∀x∈vs,Bd x
def LE(K:List UInt8->Option (Vl × List UInt8))(t1:List UInt8)(b1:Bool)(vs:List Vl)(tt:List UInt8)(bb:Bool)(N:Nat):Prop:=
 (if b1 then none else Dl K 1000 t1)=(if bb then none else match Au 93 tt with|some z=>some (vs,z)|none=>none)/\Dq (vs.map Bc)+tt.length<=t1.length+8*N+1/\∀x∈vs,Bd x
theorem LI.init(K:List UInt8->Option (Vl × List UInt8))(t1:List UInt8)(b1:Bool):LI K t1 b1 [] t1:=
 ⟨fun _=>rfl,fun _=>by cases h:Dl K 1000 t1<;>simp[Tc,h],by simp[Dq],by simp⟩
theorem N7(a b:List (List UInt8)):Dq (a++b)=Dq a+Dq b:=dU
theorem LI.len{K:List UInt8->Option (Vl × List UInt8)}{t1 tt:List UInt8}{b1:Bool}{vs:List Vl}(h:LI K t1 b1 vs tt):vs.length+tt.length<=t1.length:=by
 have h1:=Qhn (vs.map Bc);have h2:=h.2.2.1;simp at h1;omega
theorem LI.step{K:List UInt8->Option (Vl × List UInt8)}{t1 tt t' t'':List UInt8}{vs:List Vl}{v:Vl}(h:LI K t1 false vs tt)(hK:K tt=some (v,t'))(hg:tt.length=(Bc v).length+t'.length)(hc:Au 44 t'=some t'')(hB:Bd v)(hl:t1.length<=900):LI K t1 false (vs++[v]) t'':=by
 have hlen:=h.len;obtain⟨_,h2,h3,h4⟩:=h;have e:t'=44::t'':=Cy.1 hc;refine⟨fun h=>Bool.noConfusion h,fun _=>?_,?_,?_⟩
 ·rw[h2 rfl];obtain⟨m,hm⟩:∃m,1000 - vs.length=m+1:=⟨999 - vs.length,by omega⟩
  rw[hm,show 1000 - (vs++[v]).length=m by simp;omega];conv=>lhs;unfold Dl
  rw[hK];simp only[hc];cases Dl K m t''<;>simp[Tc]
 ·rw[az,N7];simp[El,Dq]at h3 ⊢;rw[e]at hg;simp at hg;omega
 intro x hx;rcases af.1 hx with hx|hx
 ·exact h4 x hx
 rw[aq]at hx;subst hx;exact hB
theorem LI.brk{K:List UInt8->Option (Vl × List UInt8)}{t1 tt t':List UInt8}{vs:List Vl}{v:Vl}{N:Nat}(h:LI K t1 false vs tt)(hx:∀x,K tt=some x->v=x.1/\t'=x.2)(hc:Bl [44] t' (K tt).isNone=none)(hB:Bd v)(hl:t1.length<=900)
  (hn:(Bc v).length+t'.length<=tt.length+8*N):LE K t1 false (vs++[v]) t' (K tt).isNone N:=by
 have hlen:=h.len;obtain⟨_,h2,h3,h4⟩:=h;refine⟨?_,?_,?_⟩
 ·rw[if_neg aJ,h2 rfl];obtain⟨m,hm⟩:∃m,1000 - vs.length=m+1:=⟨999 - vs.length,by omega⟩
  rw[hm];unfold Dl;cases hk:K tt with
  |none=>rfl
  |some y=>
   obtain⟨e1,e2⟩:=hx y hk;obtain⟨y1,y2⟩:=y;simp only at e1 e2;subst e1 e2;rw[hk,Cv]at hc;simp only[Option.isNone_some,ao,if_false]at hc ⊢;rw[hc];simp only;cases Au 93 t'<;>simp[Tc]
 ·rw[az,N7];simp[El,Dq]at h3 ⊢;omega
 intro x hx;rcases af.1 hx with hx|hx
 ·exact h4 x hx
 rw[aq]at hx;subst hx;exact hB
theorem LI.bad{K:List UInt8->Option (Vl × List UInt8)}{t1 tt:List UInt8}{vs:List Vl}{N:Nat}(h:LI K t1 true vs tt):LE K t1 true vs tt true N:=⟨by simp,by have:=h.2.2.1;omega,h.2.2.2⟩
theorem LE.fin{K:List UInt8->Option (Vl × List UInt8)}{t t1 tt:List UInt8}{b1 bb:Bool}{vs:List Vl}{N:Nat}(h:LE K t1 b1 vs tt bb N)(h1:t1=(Bl [91] t false).getD t)(hb1:b1=(Bl [91] t false).isNone)(h2:Bl [93] t1 b1=none):
  Yl K 1000 t=if (Bl [93] tt bb).isNone || decide (20<vs.length)then none else some (.mk 91 [] 0 vs,(Bl [93] tt bb).getD tt):=by
 obtain⟨h3,_,_⟩:=h;rw[Cv]at h1 hb1 h2 ⊢;simp only[ao,if_false]at h1 hb1;unfold Yl;cases hy:Au 91 t with
 |none=>
  rw[hy]at hb1;simp only[Option.isNone_none]at hb1;subst hb1;simp only[if_true]at h3;simp only;cases bb with
  |true=>simp
  |false=>
   simp only[ao,if_false]at h3 ⊢;cases hz:Au 93 tt with
   |none=>simp
   |some z=>rw[hz]at h3;cases h3
 |some r=>
  rw[hy]at h1 hb1;simp only[Option.isNone_some,Option.getD_some]at h1 hb1;subst h1 hb1;simp only[ao,if_false]at h2 h3;simp only;rw[h2];simp only;rw[h3];cases bb with
  |true=>simp
  |false=>
   simp only[ao,if_false];cases Au 93 tt with
   |none=>simp
   |some z=>
    simp only[Option.isNone_some,Bool.false_or,decide_eq_true_eq,Option.getD_some];by_cases h:vs.length<=20
    ·rw[if_pos h,if_neg aH]
    rw[if_neg h,if_pos aH]
section
attribute [local go_sem] Qo7 Qok Qoa Ql9 ByteArray.mk_append_mk
def Rd(tt:List UInt8)(N:Nat)(r:Option (Vl × List UInt8))(v:Vl)(t':List UInt8):Prop:=
 (∀x,r=some x->v=x.1/\t'=x.2)/\Bd v/\t'.length<=tt.length/\(Bc v).length+t'.length<=tt.length+8*N
structure Qpk(w:World)(b B:Nat)(p:Value)(k:Kd)(h0 h1 h2 rv:Value)(xs:List (Vl × Value))(tt:List UInt8)(bb:Bool)(N:Nat)(r:Option (Vl × List UInt8))(c s a d:Bool)(uc us ua:Value)(W:World):Prop where
 r1:∃t2 bad2,Ni w b p k t2 bad2 W/\(c=false->t2=tt/\bad2=bb)
 r2:a=false->Vq (B+1) B W h0 h1 h2 rv rv xs
 r3:c=true->∃v sl t',uc=Er v sl/\Rd tt N r v t'/\Ni w b p k t' r.isNone W/\(a=false->Eh (fun c=>B+1<=c/\rv.ownBlock≠some c) W sl v.kids) /\
  (s=true->a=false->∃W7,W=W7.alloc (.cells (Kt (v,sl)).toArray 44)/\us=.slice (some ⟨W7.heap.size,0,none⟩) 1 1/\Vq (B+1) B W7 h0 h1 h2 rv rv xs/\Eh (fun c=>B+1<=c/\rv.ownBlock≠some c) W7 sl v.kids/\Ni w b p k t' r.isNone W7) /\
  (a=true->d=false->∃A n c,ua=.slice A n c/\Vq (B+1) B W h0 h1 h2 rv ua (xs++[(v,sl)])) /\
  (d=true->∃A n c,ua=.slice A n c/\Vq (B+1) B W h0 h1 h2 ua ua (xs++[(v,sl)]))
theorem Qjm(w0:World)(b N:Nat)(p:Value)(S:List Ty)(t:List UInt8)(k:Kd)(w:World)(hw:Below w0 w0 w)(hb:w0.heap.size<=b)(h:Jn w b p t false)(hl:t.length<=900)(hN:t.length<=N)(hN2:N<=2000)
  (H:IvC w0 b p S N k) (HG:∀s v r,Ar S 1000 N k s=some (v,r)->s=Bc v++r) (q:Option (Vl × List UInt8)) (hq:q=Yl (Ar S 1000 N k) 1000 t):
  Calls prog 84 #[b,Et k] w (Nc w b p t (N+1) q):=by
 have HQ:=Aa hq;have HH:=Aa H;have HG:=Aa HG;have HS:=Aa h;have HW:=Aa hw;have hb0:=h.1;have hbn:¬(b=w.heap.size):=aH;have hbn2:¬(b=w.heap.size+1):=aH;have hbn3:¬(b=w.heap.size+2):=aH;have hm:=Fo 91 t false;have Hwt:=Aa (fun W (h:Jn W b p t false)=>D2 b p t [91] false W h aH);have Hlt0:=Aa (fun r (h:Bl [91] t false=some r)=>Mc h);obtain⟨t1,ht1⟩:∃t1,t1=(Bl [91] t false).getD t:=⟨_,rfl⟩
 obtain⟨b1,hb1⟩:∃b1,b1=(Bl [91] t false).isNone:=⟨_,rfl⟩
 have Ht1:=Aa ht1;have Hb1:=Aa hb1
 have HL1:=Aa (show b1=false->t1.length<N from by
  intro h;rw[hb1]at h;cases hr:Bl [91] t false with
  |none=>rw[hr]at h;cases h
  |some r=>have:=Hlt0.o r hr;rw[ht1,hr];simp;omega)
 rw[<-ht1]at hm;rw[<-ht1,<-hb1]at Hwt;have Htk:=Aa (fun W (h:Jn W b p t1 b1)=>Kp b p t1 [93] b1 W h aH);have HK:=Aa (fun s=>(rfl:Ar S 1000 N k s=Ar S 1000 N k s));clear h hw H hq ht1 hb1 HK;have HF0:=Aa (Ni.init (k:=k) HS.o (T:=50) (U:=44));unfold Et;go_enter func84,ntmps84;go_wp2_with fail;obtain⟨W1,hW1⟩:∃W1,W1=((w.alloc (.cells #[k.signs,k.base,k.name] 50)).alloc (.cells #[.int .u8 0,a6,.int .i64 0,.slice none 0 0] 44)).alloc (.cells #[.int .u8 91,a6,.int .i64 0,.slice none 0 0] 44):=⟨_,rfl⟩
 rw[<-hW1];have hz1:W1.heap.size=w.heap.size+3:=cm;have F1:=@Aa (Ni w b p k t false W1) (by rw[hW1];exact HF0.o.post ((Ap _ _).alloc (An _) _))
 have K1:=Aa (show Vq (w.heap.size+2+1) (w.heap.size+2) W1 (.int .u8 91) a6 (.int .i64 0) (.slice none 0 0) (.slice none 0 0) []from by
  have hbk:Rj W1 (w.heap.size+2):=by rw[hW1];have:=Rj.new ((w.alloc (.cells #[k.signs,k.base,k.name] 50)).alloc (.cells #[.int .u8 0,a6,.int .i64 0,.slice none 0 0] 44)) #[.int .u8 91,a6,.int .i64 0,.slice none 0 0] 44;simpa using this
  exact⟨by omega,by omega,by omega,hbk,by rw[hW1];simp[go_sem],by rw[hW1];simp[go_sem],by rw[hW1];simp[go_sem],by rw[hW1];simp[go_sem],World.ownsRow_nil _ _ _ _,by simp⟩)
 clear hW1 HF0;refine(Hwt.o _ F1.o.1.1).mono ?_;rintro e W2 ⟨rfl,hs2⟩;have F2:=Aa (F1.o.step hb0 hs2);have K2:=Aa (K1.o.step hs2.2 aH aH);clear hs2 F1 K1;go_wp2_with fail;refine(Htk.o _ F2.o.1.1).mono ?_;rcases hy:Bl [93] t1 b1 with _|r
 ·have Hy:=Aa hy;clear hy;rintro e W3 ⟨rfl,hs3⟩;simp only[Option.getD_none]at hs3;have F3:=Aa (F2.o.step hb0 hs3);have K3:=Aa (K2.o.step hs3.2 aH aH);clear hs3 F2 K2;go_wp2_with fail;go_loopw [] (fun wr=>∃(xs:List (Vl × Value)) (A:Option Addr) (n c:Nat) (tt:List UInt8),tt.length<=t1.length/\wr.cell? (b,1)=tt/\Hid (Ni w b p k tt b1 wr)/\Hid (Vq (w.heap.size+2+1) (w.heap.size+2) wr (.int .u8 91) a6 (.int .i64 0) (.slice A n c) (.slice A n c) xs)/\Hid (LI (Ar S 1000 N k) t1 b1 (Bi xs) tt))
   (fun wr=>match wr.cell? (b,1)with|some (.string s)=>s.size|_=>0)
  case atStart=>exact⟨[],none,0,0,t1,An _,F3.o.1.1.2.2.2.1,F3.o,K3.o,LI.init _ _ _⟩
  case round=>
   obtain⟨xs,A,n,c,tt,htl,c1,F,K,hI⟩:=hrel;have s2:=F.o.1.1.2.2.2.2;have hxl:xs.length<=900:=by have:=hI.o.len;simp[Bi]at this;omega
   cases b1 with
   |true=>
    go_wp2_with fail;have Hw9:=Aa (fun W (h:Jn W b p tt true)=>D2 b p tt [93] true W h aH);refine(Hw9.o _ F.o.1.1).mono ?_;rintro e W7 ⟨rfl,hs7⟩;have F7:=Aa (F.o.step hb0 hs7);have K7:=Aa (K.o.step hs7.2 aH aH);have hfin:=Aa (HQ.o.trans ((Aa (hI.o.bad (N:=N))).o.fin Ht1.o Hb1.o Hy.o));have hle9:=Fo 93 tt true;have hE9:=(Aa (hI.o.bad (N:=N))).o.2.1;obtain⟨t4,ht4⟩:∃t4,t4=(Bl [93] tt true).getD tt:=⟨_,rfl⟩
    obtain⟨b4,hb4⟩:∃b4,b4=(Bl [93] tt true).isNone:=⟨_,rfl⟩
    rw[<-ht4]at F7 hfin hle9;rw[<-hb4]at F7 hfin;have e7:(Bi xs).length=(xs).length:=by simp[Bi]
    obtain⟨ys,hys⟩:∃ys,ys=xs:=⟨_,rfl⟩
    rw[<-hys]at K7 hfin hE9 e7;have HB9:=Aa (Aa (hI.o.bad (N:=N))).o.2.2;rw[<-hys]at HB9;have hyl:ys.length<=1000:=by rw[hys];omega
    have d0:=K7.o.c0;have d1:=K7.o.c1;have d2:=K7.o.c2;have d3:=K7.o.c3;have s7:=F7.o.1.1.2.1.live 2;have s8:=F7.o.1.1.2.2.2.2;have q7:=F7.o.1.1.1;have hn7:n=ys.length:=N5 K7.o.row;subst hn7;clear hs7 ht4 hb4 hys;by_cases h20:ys.length<=20
    ·have t20:decide ((20:Int)<(ys.length:Int))=false:=aC aH;go_wp2_with ((with_reducible refine Ad (op:=⟨none,.store 44 _ _,_,_,_,none⟩) rfl 44 _ _ rfl (w.heap.size+1) 0 [.int .u8 91,a6,.int .i64 0,.slice A ys.length c] ?_ ?_ ?_ ?_ ?_ ?_);rfl;rfl;(exact F7.o.2.2.1);kernel_rfl;(simp[Value.oneCell']);intro w9 HS9)
     have Z:=Ni.fin (t:=t) (N:=N+1) (v:=.mk 91 [] 0 (Bi ys)) (sl:=.slice A ys.length c) (r:=q) F7.o hb0 HS9.o ((K7.o.done hyl).mono fun c hc _=>by omega) dr
      dr (.mk aJ aH aK HB9.o) aH eW
     exact lm
    have t20:decide ((20:Int)<(ys.length:Int))=true:=aD aH;have F8:=Aa (F7.o.step hb0 ⟨F7.o.1.1.setBad true,Ao _ b 2 (.bool true)⟩);have K8:=Aa (K7.o.step (Ao _ b 2 (.bool true)) aH aH);go_wp2_with ((with_reducible refine Ad (op:=⟨none,.store 44 _ _,_,_,_,none⟩) rfl 44 _ _ rfl (w.heap.size+1) 0 [.int .u8 91,a6,.int .i64 0,.slice A ys.length c] ?_ ?_ ?_ ?_ ?_ ?_);rfl;rfl;(exact F8.o.2.2.1);kernel_rfl;(simp[Value.oneCell']);intro w9 HS9)
    have Z:=Ni.fin (t:=t) (N:=N+1) (v:=.mk 91 [] 0 (Bi ys)) (sl:=.slice A ys.length c) (r:=q) F8.o hb0 HS9.o ((K8.o.done hyl).mono fun c hc _=>by omega) eJ
     eJ (.mk aJ aH aK HB9.o) aH eW
    exact lm
   |false=>
    have h1N:=HL1.o rfl;go_wp2_with fail;refine Jo [17,18,19,20,21,22,23,24,999]
     (fun ix v W=>match ix with|0=>v=(w,2,3)|1=>v=.slice A n c|2=>v=b|3=>v=Et k|4=>∃x s,v=Er x s|5=>∃g,v=.slice (some ⟨g,0,none⟩) 1 1|6=>∃A n c,v=.slice A n c|7=>v=(w,2,3)|_=>True)
     (fun L U W=>Qpk w b (w.heap.size+2) p k (.int .u8 91) a6 (.int .i64 0) (.slice A n c) xs tt false N (Ar S 1000 N k tt) (L 4) (L 5) (L 6) (L 8) (U 4) (U 5) (U 6) W) (⟨⟨tt,false,F.o.post (Ap _ _).drew,fun _=>⟨rfl,rfl⟩⟩,fun _=>K.o.after (Ap _ _).drew,fun h=>Bool.noConfusion h⟩) ?_ ?_
    ·repeat (first|exact Ak.nil|(refine Ak.cons ?_ ?_;rotate_left))
     all_goals
      rintro L U W hL hpre HR Hdep K hK;obtain⟨⟨t2,bad2,hF2,hF2'⟩,R2,R3⟩:=HR.o;have k0:=Ab hF2.2.1 0 rfl;have k1:=Ab hF2.2.1 1 rfl;have k2:=Ab hF2.2.1 2 rfl;simp only[am]at k0 k1 k2;first|(simp[Region.binds]at hpre;done)|simp[Region.binds]at hpre|clear hpre
     ·exact ip
     ·have h6:L 6=false:=Az Hdep.o 6 1 rfl hL;have g3:=(R2 h6).c3;exact lq
     ·exact ip
     ·go_simp;first|exact hK (Et k) _ _ rfl Ac HR.o rfl|exact hK (Et k) _ _ rfl Ac HR.o aI
     ·have h5:L 5=false:=Az Hdep.o 5 4 rfl hL;have h6:L 6=false:=Az Hdep.o 6 5 rfl h5;have h8:L 8=false:=Az Hdep.o 8 6 rfl h6;obtain⟨rfl,rfl⟩:=hF2' hL;go_simp;refine(HH.o t2 false _ (hF2.1.env HW.o hb) hF2.1.1 aH (fun _=>by omega)).mono ?_;rintro e w5 ⟨v,sl,t',rfl,hk5,hs5,hx5,hB5,hl5,hn5⟩;simp only[ao,if_false]at hx5 hs5;have hF5:=hF2.step hb0 hs5;have hK5:=(R2 h6).step hs5.2 aH aH;have hks:Eh (fun g=>w.heap.size+2+1<=g/\(Value.slice A n c).ownBlock≠some g) w5 sl v.kids:=hk5.mono fun c hc _=>⟨by have:=(R2 h6).bs;omega,fun e=>by have:=((R2 h6).row.lt c e).2;omega⟩
      exact hK (Er v sl) _ _ ⟨v,sl,rfl⟩ Ac ⟨⟨t',_,hF5,fun h=>by simp at h⟩,fun _=>hK5,fun _=>⟨v,sl,t',rfl,⟨hx5,hB5,hl5,hn5⟩,hF5,fun _=>hks,fun h=>absurd (h5.symm.trans aQ) aJ,fun h=>absurd (h6.symm.trans aQ) aJ,fun h=>absurd (h8.symm.trans aQ) aJ⟩⟩ aI
     ·have h6:L 6=false:=Az Hdep.o 6 5 rfl hL;have h8:L 8=false:=Az Hdep.o 8 6 rfl h6;obtain⟨v,sl,t',u4,hrd,hF3,hks,_,_,_⟩:=R3 hpre.1;obtain⟨A7,c7,rfl⟩:=(hks h6).form;have hba:Below W W (W.alloc (.cells (Kt (v,.slice A7 v.kids.length c7)).toArray 44)):=(Ap _ _).alloc (An _) _;unfold Er at u4;go_simp;exact hK (.slice (W,0) 1 1) _ _ ⟨W.heap.size,rfl⟩ Ac ⟨⟨t',_,hF3.post hba,fun h=>absurd (hpre.1.symm.trans aQ) aJ⟩,fun _=>(R2 h6).after hba,fun _=>⟨v,_,t',u4,hrd,hF3.post hba,fun _=>(hks h6).after hba,fun _ _=>⟨W,rfl,rfl,R2 h6,hks h6,hF3⟩,fun h=>absurd (h6.symm.trans aQ) aJ,fun h=>absurd (h8.symm.trans aQ) aJ⟩⟩ (by simp[Act.put,u4])
     ·have h8:L 8=false:=Az Hdep.o 8 6 rfl hL;obtain⟨lv,uv⟩:=hpre.1;have ls:L 5=true:=hpre.2.1.1;have lc:L 4=true:=hpre.2.2.1;obtain⟨v,sl,t',u4,hrd,hF3,hks,hs,_,_⟩:=R3 lc;obtain⟨W7,rfl,u5,hK7,hk7,hF7⟩:=hs ls hL;obtain⟨A7,c7,e7⟩:=hk7.form;have hlen7:=hK7.row;rw[if_pos cx];refine Fl W7 (.tmp 18) (.tmp 22) 42 rfl (w.heap.size+2+1) 44 (.agg #[.int .u8 0,a6,.int .i64 0,.slice none 0 0]) 4 56 underlying42 Ys rfl aJ (Kt (v,sl)) rfl (Yy _ (by rw[e7];rfl)) (.slice A n c) xs.length (xs.flatMap Kt) uv u5 hK7.row aU aH hK7.bs ?_;intro v' w' hown hg hwh;obtain⟨A5',n5',c5',rfl⟩:=Tb hown;have hKa:=hK7.app (x:=(v,sl)) hk7 hown hg hwh;have hFa:Ni w b p k t' (Ar S 1000 N k tt).isNone w':=hF7.app hb0 hg (fun c e=>by have:=(hK7.row.lt c e).1;omega);exact hK _ _ _ ⟨A5',n5',c5',rfl⟩ Ac ⟨⟨t',_,hFa,fun h=>absurd (lc.symm.trans aQ) aJ⟩,fun h=>by simp at h,fun _=>⟨v,sl,t',u4,hrd,hFa,fun h=>by simp at h,fun _ h=>by simp at h,fun _ _=>⟨A5',n5',c5',rfl,hKa⟩,fun h=>absurd (h8.symm.trans aQ) aJ⟩⟩ rfl
     ·exact ip
     ·obtain⟨la,A5',n5',c5',ua⟩:=hpre.2.1;have up:=hpre.1.2;have ls:L 5=true:=by
       cases h5:L 5 with
       |true=>rfl
       |false=>exact absurd (la.symm.trans (Az Hdep.o 6 5 rfl h5)) aJ
      have lc:L 4=true:=by
       cases h4:L 4 with
       |true=>rfl
       |false=>exact absurd (ls.symm.trans (Az Hdep.o 5 4 rfl h4)) aJ
      obtain⟨v,sl,t',u4,hrd,hF3,_,_,ha,_⟩:=R3 lc;obtain⟨A6',n6',c6',ua',hKa⟩:=ha la hL;rw[ua]at hKa;have hcell:=hKa.c3;have hfz:=hKa.bk.live 3;have hst:=hKa.store;have hst2:Vq (w.heap.size+2+1) (w.heap.size+2) (W.setCell ⟨w.heap.size+2,3,none⟩ (.slice A5' n5' c5')) (.int .u8 91) a6 (.int .i64 0) (U 6) (U 6) (xs++[(v,sl)]):=by rw[ua];exact hst
      have hFs:Ni w b p k t' (Ar S 1000 N k tt).isNone (W.setCell ⟨w.heap.size+2,3,none⟩ (.slice A5' n5' c5')):=hF3.put hb0 aH _;go_simp;exact hK undef _ _ Ac Ac ⟨⟨t',_,hFs,fun h=>absurd (lc.symm.trans aQ) aJ⟩,fun h=>absurd (la.symm.trans aQ) aJ,fun _=>⟨v,sl,t',u4,hrd,hFs,fun h=>absurd (la.symm.trans aQ) aJ,fun _ h=>absurd (la.symm.trans aQ) aJ,fun _ h=>by simp at h,fun _=>⟨A5',n5',c5',ua,hst2⟩⟩⟩ (by simp[Act.put,hpre,up,ua,u4])
    rintro L U W hL hφ hR;clear hφ;obtain⟨_,_,h3⟩:=hR;obtain⟨v,sl,t',_,hrd,hF,_,_,_,hd⟩:=h3 (hL 4 aJ);obtain⟨A5,n5,c5,e5,hK5⟩:=hd (hL 8 aJ);rw[e5]at hK5;have F5:=Aa hF;have K5:=Aa hK5;have Rd5:=Aa hrd;have ht5:=hrd.2.2.1;clear hL h3 hd hF hK5 hrd;have Htk5:=Aa (fun W (h:Jn W b p t' (Ar S 1000 N k tt).isNone)=>Kp b p t' [44] (Ar S 1000 N k tt).isNone W h aH);go_wp2_with fail;refine(Htk5.o _ F5.o.1.1).mono ?_;rcases hc:Bl [44] t' (Ar S 1000 N k tt).isNone with _|r
    ·have Hc:=Aa hc;clear hc;rintro e W6 ⟨rfl,hs6⟩;simp only[Option.getD_none]at hs6;have F6:=Aa (F5.o.step hb0 hs6);have K6:=Aa (K5.o.step hs6.2 aH aH)
     have E6:=Aa (show LE (Ar S 1000 N k) t1 false (Bi (xs++[(v,sl)])) t' (Ar S 1000 N k tt).isNone N from by
      have:=hI.o.brk (N:=N) Rd5.o.1 Hc.o Rd5.o.2.1 aH Rd5.o.2.2.2;simpa [Bi]using this)
     clear hs6 F5 K5 Hc;go_wp2_with fail;have Hw9:=Aa (fun W (h:Jn W b p t' (Ar S 1000 N k tt).isNone)=>D2 b p t' [93] (Ar S 1000 N k tt).isNone W h aH);refine(Hw9.o _ F6.o.1.1).mono ?_;rintro e W7 ⟨rfl,hs7⟩;have F7:=Aa (F6.o.step hb0 hs7);have K7:=Aa (K6.o.step hs7.2 aH aH);have hfin:=Aa (HQ.o.trans (E6.o.fin Ht1.o Hb1.o Hy.o));have hle9:=Fo 93 t' (Ar S 1000 N k tt).isNone;have hE9:=E6.o.2.1;obtain⟨t4,ht4⟩:∃t4,t4=(Bl [93] t' (Ar S 1000 N k tt).isNone).getD t':=⟨_,rfl⟩
     obtain⟨b4,hb4⟩:∃b4,b4=(Bl [93] t' (Ar S 1000 N k tt).isNone).isNone:=⟨_,rfl⟩
     rw[<-ht4]at F7 hfin hle9;rw[<-hb4]at F7 hfin;have e7:(Bi (xs++[(v,sl)])).length=((xs++[(v,sl)])).length:=by simp[Bi]
     obtain⟨ys,hys⟩:∃ys,ys=(xs++[(v,sl)]):=⟨_,rfl⟩
     rw[<-hys]at K7 hfin hE9 e7;have HB9:=Aa E6.o.2.2;rw[<-hys]at HB9;have hyl:ys.length<=1000:=by rw[hys];simp;omega
     have d0:=K7.o.c0;have d1:=K7.o.c1;have d2:=K7.o.c2;have d3:=K7.o.c3;have s7:=F7.o.1.1.2.1.live 2;have s8:=F7.o.1.1.2.2.2.2;have q7:=F7.o.1.1.1;have hn7:n5=ys.length:=N5 K7.o.row;subst hn7;clear hs7 ht4 hb4 hys;by_cases h20:ys.length<=20
     ·have t20:decide ((20:Int)<(ys.length:Int))=false:=aC aH;go_wp2_with ((with_reducible refine Ad (op:=⟨none,.store 44 _ _,_,_,_,none⟩) rfl 44 _ _ rfl (w.heap.size+1) 0 [.int .u8 91,a6,.int .i64 0,.slice A5 ys.length c5] ?_ ?_ ?_ ?_ ?_ ?_);rfl;rfl;(exact F7.o.2.2.1);kernel_rfl;(simp[Value.oneCell']);intro w9 HS9)
      have Z:=Ni.fin (t:=t) (N:=N+1) (v:=.mk 91 [] 0 (Bi ys)) (sl:=.slice A5 ys.length c5) (r:=q) F7.o hb0 HS9.o ((K7.o.done hyl).mono fun c hc _=>by omega) dr
       dr (.mk aJ aH aK HB9.o) aH eW
      exact lr
     have t20:decide ((20:Int)<(ys.length:Int))=true:=aD aH;have F8:=Aa (F7.o.step hb0 ⟨F7.o.1.1.setBad true,Ao _ b 2 (.bool true)⟩);have K8:=Aa (K7.o.step (Ao _ b 2 (.bool true)) aH aH);go_wp2_with ((with_reducible refine Ad (op:=⟨none,.store 44 _ _,_,_,_,none⟩) rfl 44 _ _ rfl (w.heap.size+1) 0 [.int .u8 91,a6,.int .i64 0,.slice A5 ys.length c5] ?_ ?_ ?_ ?_ ?_ ?_);rfl;rfl;(exact F8.o.2.2.1);kernel_rfl;(simp[Value.oneCell']);intro w9 HS9)
     have Z:=Ni.fin (t:=t) (N:=N+1) (v:=.mk 91 [] 0 (Bi ys)) (sl:=.slice A5 ys.length c5) (r:=q) F8.o hb0 HS9.o ((K8.o.done hyl).mono fun c hc _=>by omega) eJ
      eJ (.mk aJ aH aK HB9.o) aH eW
     exact lr
    have Hc:=Aa hc;have hcl:=Mc hc;clear hc;rintro e W6 ⟨rfl,hs6⟩;simp only[Option.getD_some]at hs6;cases hk:Ar S 1000 N k tt with
    |none=>rw[hk,Cv]at Hc;exact absurd Hc.o aK
    |some y=>
     have Hk:=Aa hk;rw[hk]at hs6 F5 Rd5;have F6:=Aa (F5.o.step hb0 hs6);have K6:=Aa (K5.o.step hs6.2 aH aH)
     have I6:=Aa (show LI (Ar S 1000 N k) t1 false (Bi (xs++[(v,sl)])) r from by
      obtain⟨e1,e2⟩:=Rd5.o.1 y rfl;have hg:=HG.o tt y.1 y.2 (by rw[Hk.o]);have h44:Au 44 t'=some r:=by have:=Hc.o;rw[Hk.o,Cv]at this;simpa using this
      have:=hI.o.step (v:=v) (t':=t') (by rw[Hk.o,e1,e2]) (by rw[hg,e1,e2];simp) h44 Rd5.o.2.1 aH;simpa [Bi]using this)
     have c6:=F6.o.1.1.2.2.2.1;clear hs6 F5 K5 hk;go_wp2_with fail;go_roundw
     case rel=>exact⟨xs++[(v,sl)],A5,n5,c5,r,by omega,c6,F6.o,K6.o,I6.o⟩
     case measure=>simp[c1,c6,ByteArray.size];omega
 have Hy:=Aa hy;have hlt:=Mc hy;clear hy;rintro e W3 ⟨rfl,hs3⟩;simp only[Option.getD_some]at hs3;have F3:=Aa (F2.o.step hb0 hs3);have K3:=Aa (K2.o.step hs3.2 aH aH);clear hs3 F2 K2;have d0:=K3.o.c0;have d1:=K3.o.c1;have d2:=K3.o.c2;have d3:=K3.o.c3;go_wp2_with ((with_reducible refine Ad (op:=⟨none,.store 44 _ _,_,_,_,none⟩) rfl 44 _ _ rfl (w.heap.size+1) 0 [.int .u8 91,a6,.int .i64 0,.slice none 0 0] ?_ ?_ ?_ ?_ ?_ ?_);rfl;rfl;(exact F3.o.2.2.1);kernel_rfl;(simp[Value.oneCell']);intro w9 HS9)
 have hq2:q=some (.mk 91 [] 0 [],r):=by
  have h1:=Ht1.o;have h2:=Hb1.o;have h3:=Hy.o;rw[HQ.o];rw[Cv]at h1 h2 h3;unfold Yl;simp only[ao,if_false]at h1 h2;cases h9:Au 91 t with
  |none=>rw[h9]at h2;simp at h2;subst h2;simp at h3
  |some z=>
   rw[h9]at h1 h2;simp at h1 h2;subst h1 h2;simp only[ao,if_false]at h3;simp only[h3]
 have Z:=Ni.fin (t:=t) (N:=N+1) (v:=.mk 91 [] 0 []) (sl:=.slice none 0 0) (r:=q) F3.o hb0 HS9.o (Eh.nil _ _) (by rw[hq2];cases b1;rfl;have:=Hy.o;rw[Cv]at this;simp at this)
  (by rw[hq2];simp) (Gb aJ aJ) aH (by simp[Bc,Ed,Jg,Aw];omega)
 exact aF (v:=.agg (J8 (.mk 91 [] 0 []) (.slice none 0 0)).toArray) (Bj results84 _ _ (w.heap.size+1) _ _ rfl Z.2 underlying44 rfl aL) rfl Z.1
end
end Go.Proofs.YtbdibdghphdcdaaGreatDoor
