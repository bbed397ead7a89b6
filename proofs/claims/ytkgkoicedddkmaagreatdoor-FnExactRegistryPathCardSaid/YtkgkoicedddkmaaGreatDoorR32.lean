/- Texts joined. Conditions: as each theorem names them. -/
import Derived.Test.YtkgkoicedddkmaaGreatDoorRows
import Derived.ProofKit
import Derived.OpenShut
import Derived.ShutString
import Derived.ChangeOld
import Derived.SliceStrings
import Derived.OwnWalk
import Derived.Test.YtkgkoicedddkmaaGreatDoorR26
set_option maxRecDepth 100000
set_option maxHeartbeats 32000000
set_option linter.unusedVariables false
set_option linter.unusedSimpArgs false
namespace Go.Proofs.YtkgkoicedddkmaaGreatDoor
open Go.RowKit Go.Proofs.Tryz
section
attribute [local go_sem] Qii
theorem FnExactEvolveLift_walk(w:World)(a:List UInt8)(ha:a.length<=maxLen)(b:List UInt8)(hb:b.length<=maxLen)(c:List UInt8)(hc:c.length<=maxLen)(d:List UInt8)(hd:d.length<=maxLen)(e:List UInt8)(he:e.length<=maxLen):
  Calls prog 3 #[a,b,c,d,e] w fun e w'=>e=.returned (.bool true)/\Below w w w':=by
 unfold maxLen at ha hb hc hd he;by_cases h0:a.length<=1048576;rotate_left
 ·exact iO
 by_cases h1:b.length<=1048576;rotate_left
 ·exact iO
 by_cases h2:c.length<=1048576;rotate_left
 ·exact iO
 by_cases h3:d.length<=1048576;rotate_left
 ·exact iO
 by_cases h4:e.length<=1048576;rotate_left
 ·exact iO
 have Hs:=Aa (fun W=>Qa9 a b c d e W aH aH aH aH aH);have Hi:=Aa (fun W=>Qan a b c d e W aH aH aH aH aH);unfold Yl at Hs Hi;generalize Qhf (Fj (Bn a b) (Bn c d) e)=tx at *;generalize (Fj (Bn a b) (Bn c d) e).isSome=ok at *;go_enter func3,ntmps3;go_wp2_with fail;refine(Hs.o _).mono ?_;rintro x w1 ⟨rfl,hb1⟩;have Hb1:=Aa hb1;clear hb1;go_wp2_with fail;refine(Hi.o _).mono ?_;rintro x w2 ⟨rfl,hb2⟩;have Hb2:=Aa hb2;clear hb2;go_wp2_with fail;go_ret;exact⟨rfl,Hb1.o.trans (Hb2.o.mono Hb1.o.size)⟩
end
section
open Go.ChangeShapes Go.WideShapes Go.ChangeAt Go.RowKit
open Go.ChangeMaps (open_string shut_string)
theorem own:ownKnob prog.godebug=none:=aO
theorem laidOut:laidOutB prog=true:=aO
section
variable {H:Type} {enc:TypeId × Value->H} {W:World} {base:Nat} {v:Value} {d:DataW H} {ps:List MemPlace}
theorem arg_string(hv:Value.okWide prog W .any base 9 v)(h:DataW.Trod enc prog W 0 (fun _=>true) true 9 v d ps):
  ∃l:List UInt8,v=l/\l.length<=maxLen:=by
 obtain⟨s,rfl,_,_,hs⟩:=open_string underlying9 hv h;exact⟨s.data.toList,by simp,by simpa using hs⟩
theorem arg_int(hv:Value.okWide prog W .any base 3 v)(h:DataW.Trod enc prog W 0 (fun _=>true) true 3 v d ps):
  ∃x:Int,v=.int .i64 x /\ -9223372036854775808<=x/\x<=9223372036854775807:=by
 obtain⟨x,rfl,_,_,w⟩:=open_int underlying3 hv h;have hw:=w;simp[Lit.wf,IntKind.min,IntKind.max,IntKind.signed,IntKind.bits]at hw;exact⟨x,rfl,by omega,by omega⟩
end
end
section
attribute [local go_sem] Qiz Qii Qib Qgw ByteArray.mk_append_mk
abbrev Ver:=List UInt8 × List UInt8
def Qjl(v:Ver):List Value:=[v.1,v.2]
theorem Qie(v:Ver):(Qjl v).length=2:=rfl
def Qiu(w:World)(A:Option Addr)(xs:List Value):Prop:=0<xs.length->∃b off,A=some ⟨b,off,none⟩/\b<w.heap.size/\∀j u,xs[j]?=some u->w.cell? ⟨b,off+j,none⟩=some u
theorem Qiu.below{w w':World}{A:Option Addr}{xs:List Value}(h:Qiu w A xs)(hb:Below w w w'):Qiu w' A xs:=fun hn=>by
 obtain⟨b,off,e,hlt,hc⟩:=h hn;exact⟨b,off,e,ac hlt hb.size,fun j u hu=>(hb.cell (p:=⟨b,off+j,none⟩) hlt).trans (hc j u hu)⟩
def Qhb(w:World)(v:Value)(vs:List Ver):Prop:=∃A c,v=.slice A vs.length c/\vs.length<=c/\vs.length<=maxLen/\Qiu w A (vs.flatMap Qjl)
theorem Qhb.below{w w':World}{v:Value}{vs:List Ver}(h:Qhb w v vs)(hb:Below w w w'):Qhb w' v vs:=by
 obtain⟨A,c,e,hc,hm,hr⟩:=h;exact⟨A,c,e,hc,hm,hr.below hb⟩
theorem Qhb.at_{w:World}{A:Option Addr}{vs:List Ver}(hr:Qiu w A (vs.flatMap Qjl)){i:Nat}(hi:i<vs.length):
  ∃b off,A=some ⟨b,off,none⟩/\b<w.heap.size/\w.cell? ⟨b,off+i*2,none⟩=some (.string ⟨vs[i].1.toArray⟩)/\w.cell? ⟨b,off+i*2+1,none⟩=some (.string ⟨vs[i].2.toArray⟩):=by
 obtain⟨b,off,e,hlt,hc⟩:=hr (by rw[Sm Qie];omega);refine⟨b,off,e,hlt,?_,?_⟩
 ·have:=hc (i*2+0) (.string ⟨vs[i].1.toArray⟩) (by rw[So Qie vs i 0 hi aK];rfl);simpa using this
 have:=hc (i*2+1) (.string ⟨vs[i].2.toArray⟩) (by rw[So Qie vs i 1 hi aK];rfl);simpa [Nat.add_assoc]using this
theorem Qjb(a b:ByteArray)(w:World):Calls prog 37 #[.agg #[.string a,.string b]] w fun e w'=>e=.returned (.agg #[.string a,.string b])/\Below w w w':=by
 go_enter func37,ntmps37;go_wp2_with fail;exact aF (v:=.agg #[.string a,.string b]) (by simp[results,results37,go_sem]) rfl ⟨rfl,(((Aq _ _).alloc (Ap _) _).alloc aL _).alloc aM _⟩
theorem Qj3{w:World}{base k n:Nat}{e:TypeId}{g cap:Nat}{xs:List Value}(h:w.ownsRow base e k (.slice (g,0) n cap) n xs):w.there g 0 (n*k):=fun j hj=>by
 rcases h.2 with⟨h0,_⟩|⟨g',cap',cur,e1,hb,hh,hnc,hcm,hcs,htk⟩
 ·cases h0
 injection e1 with e1 _ e2;injection e1 with e1;injection e1 with e1;subst e1 e2;have hlt:j<cur.size:=by rw[hcs];exact ac hj (Nat.mul_le_mul_right _ hnc)
 refine⟨?_,?_⟩
 ·simp only[World.cell?,hh,am];simp[hlt]
 simp[World.frozen?,hh]
theorem Qi2{w:World}{b o:Nat}{l1 l2:List Value}(h1:w.rangeAt b o l1)(h2:w.rangeAt b (o+l1.length) l2):w.rangeAt b o (l1++l2):=fun j v hv=>by
 rcases aG j l1.length with h|h
 ·rw[List.getElem?_append_left h]at hv;exact h1 j v hv
 rw[List.getElem?_append_right h]at hv;have:=h2 (j - l1.length) v hv;rwa [show o+l1.length+(j - l1.length)=o+j by omega]at this
theorem Tryz.infoVer:(prog.info? 46).map (fun i=>(i.zero,i.size,i.bytes))=some (some (.agg #[a8,a8]),2,32):=aO
def Qj6(lo:Nat)(w:World)(v:Value)(vs:List Ver):Prop:=∃g,v=.slice (some ⟨g,0,none⟩) vs.length vs.length/\lo<=g/\g<w.heap.size/\w.rangeAt g 0 (vs.flatMap Qjl)
theorem Qj6.row{lo:Nat}{w:World}{v:Value}{vs:List Ver}(h:Qj6 lo w v vs)(hn:vs.length<=1048576):Qhb w v vs:=by
 obtain⟨g,e,_,hg,hr⟩:=h;exact⟨_,_,e,Ap _,by unfold maxLen;omega,fun _=>⟨g,0,rfl,hg,hr⟩⟩
theorem Qj6.set{lo:Nat}{w:World}{v:Value}{vs:List Ver}(h:Qj6 lo w v vs){b:Nat}(hb:b<lo)(u:Value):Qj6 lo (w.setCell ⟨b,0,none⟩ u) v vs:=by
 obtain⟨g,e,h1,hg,hr⟩:=h;exact⟨g,e,h1,by simpa using hg,ak hr b 0 [u] (.inl aH)⟩
theorem Qi9(v:Value)(vs:List Ver)(w:World)(h:Qhb w v vs)(hn:vs.length<=1048576):
  Calls prog 21 #[v] w fun e w'=>∃v',e=.returned v'/\Qj6 w.heap.size w' v' vs/\Below w w w':=by
 obtain⟨i0,hi,hz0,hz1,hz2⟩:=info_parts Tryz.infoVer;obtain⟨A,c,rfl,hcap,hvm,hr⟩:=h;have Hr:=Aa hr;clear hr;go_enter func21,ntmps21;go_wp2_with (at_make;refine wpList_make_full _ rfl _ _ 32 rfl w 46 i0 (.agg #[a8,a8]) 2 underlying32 hi hz0 hz1 .i64 .i64 _ _ vs.length rfl rfl rfl rfl (by rw[hz2];omega) aZ (Ap _) ?_;intro w0 hown0 hgrow0)
 have T0:=Aa (Qj3 hown0);have hg0:w.heap.size<w0.heap.size:=(hown0.lt _ rfl).2;have Hb0:=@Aa (Below w w w0) ((Aq _ _).grown hgrow0 (Ap _) aL);clear hown0 hgrow0;go_loopw [4] (fun i wr=>∃k:Nat,i=.int .i64 k/\k<=vs.length/\Hid (wr.there w 0 (vs.length*2))/\Hid (wr.rangeAt w 0 ((vs.take k).flatMap Qjl))/\Hid (Below w w wr)/\w.heap.size<wr.heap.size) (fun i _=>vs.length - (intOf i).toNat)
 case atStart=>exact⟨0,rfl,ag _,T0.o,fun j v hv=>by simp at hv,Hb0.o,hg0⟩
 case round=>
  obtain⟨k,rfl,hk,hT,hR,hb,hgz⟩:=hrel;have k1:(0:Int)<=(k:Int):=aH;by_cases hlt:k<vs.length
  ·have k2:(k:Int)<(vs.length:Int):=aH;obtain⟨b,off,rfl,hbl,c0,c1⟩:=Qhb.at_ (Hr.o.below hb.o) hlt;have Hts:=Aa (Ch vs k hlt);have hlen:((vs.take k).flatMap Qjl).length=k*2:=by rw[Sm Qie,List.length_take,Nat.min_eq_left hk]
   have Hlen:=Aa hlen;generalize vs[k]=x at c0 c1 Hts;clear hlen;go_wp2_with fail;refine(Qjb ⟨x.1.toArray⟩ ⟨x.2.toArray⟩ wr).mono ?_;rintro e w1 ⟨rfl,hb1⟩;have T1:=@Aa (w1.there w.heap.size (k*2) 2) (J7 (Al hT.o hgz hb1) (k*2) 2 (ag _) aH);have T1':=Aa (Al hT.o hgz hb1);have R1:=Aa (Aj hR.o hgz hb1);have Hb1:=Aa (hb.o.trans (hb1.mono hb.o.size));have hz1:wr.heap.size<=w1.heap.size:=hb1.size;clear hb1 c0 c1;go_wp2_with ((with_reducible refine Ad (op:=⟨none,.store 46 _ _,_,_,_,none⟩) rfl 46 _ _ rfl w.heap.size (k*2) [x.1,x.2] ?_ ?_ ?_ ?_ ?_ ?_);(first|rfl|(simp;done));rfl;(exact T1.o);kernel_rfl;(simp[Value.oneCell']);intro w9 HS9)
   go_roundw
   case rel=>
    refine⟨k+1,by go_num,by omega,?_,?_,?_,?_⟩
    ·rw[HS9.o];exact ai T1'.out _ _ _
    ·rw[HS9.o,Hts.o,List.flatMap_append];refine Qi2 (ak R1.o _ _ _ (.inr (.inl (by rw[Hlen.o];omega)))) ?_;rw[Hlen.o];simpa [Qjl]using aa w1 w.heap.size (k*2) [x.1,x.2] T1.o
    ·rw[HS9.o];exact Ag _ (Ap _) _ _ _ Hb1.o
    ·rw[HS9.o,B6];omega
   case measure=>simp[intOf];omega
  ·obtain rfl:k=vs.length:=aH;go_wp2_with fail;go_ret;have:=hR.o;rw[List.take_length]at this;exact⟨_,rfl,⟨w.heap.size,rfl,Ap _,hgz,this⟩,hb.o⟩
theorem Qig(v:Value)(vs:List Ver)(w:World)(h:Qhb w v vs)(hn:vs.length<=1048576):
  Calls prog 12 #[.agg #[v]] w fun e w'=>∃v',e=.returned (.agg #[v'])/\Qhb w' v' vs/\Below w w w':=by
 have H:=Aa h;obtain⟨A,c,rfl,_⟩:=h;go_enter func12,ntmps12;go_wp2_with fail;refine(Qi9 _ vs _ (H.o.below ((((Aq _ _).alloc (Ap _) _).alloc aL _).alloc aM _)) hn).mono ?_;rintro e w1 ⟨v',rfl,hv,hb1⟩;obtain⟨hc1,hf1,hz⟩:=By hb1;have T1:=@Aa (w1.cell? (w,1,0)=some (.slice none 0 0)) ((hc1 (w.heap.size+1) 0 aL).trans fZ);have t1:=T1.o;have t2:w1.cell? (w.heap.size+1+1,0)=some (.slice none 0 0):=(hc1 (w.heap.size+1+1) 0 aL).trans fZ;have u1:w1.frozen? (w,1,0)=false:=(hf1 (w.heap.size+1) 0 aL).trans fZ;have u2:w1.frozen? (w.heap.size+1+1,0)=false:=(hf1 (w.heap.size+1+1) 0 aL).trans fZ;have hz1:w.heap.size+1+1<w1.heap.size:=hz _ aL;have Hv:=Aa hv;obtain⟨g1,rfl,hg1,_,_⟩:=hv;simp at hg1;have Hb1:=@Aa (Below w w w1) (((((Aq _ _).alloc (Ap _) _).alloc aL _).alloc aM _).trans (hb1.mono aM));clear hb1 hc1 hf1 hz;have hne:¬(w.heap.size+1+1=w.heap.size+1):=aH;go_wp2_with fail;refine aF (v:=.agg #[.slice (g1,0) vs.length vs.length]) (by simp[results,results12,go_sem,t1,t2,u1,u2,hne,hz1]) rfl ?_;exact⟨_,rfl,((Hv.o.set aL _).set aL _).row hn,(Hb1.o.setCell aM _).setCell aL _⟩
def Qjz(P:Int->Prop)(left:Int)(w:World)(e:Ending)(w':World):Prop:=∃r:Int,e=.returned (.int .i64 r) /\ -1<=r/\r<=left/\(0<=r->P left)/\Below w w w'
theorem Qjd(a b:List UInt8)(left:Int)(w:World)(ha:a.length<=maxLen)(hb:b.length<=maxLen)(h0:0<=left)(h1:left<=1048576):
  Calls prog 34 #[.agg #[a,b],.int .i64 left] w (Qjz (fun l=>(a.length:Int)<=l/\(b.length:Int)<=l) left w):=by
 unfold maxLen at ha hb;go_enter func34,ntmps34;by_cases hl:left - (a.length:Int)<0
 ·exact jy
 by_cases hl2:left - (a.length:Int) - (b.length:Int)<0
 ·exact jy
 go_wp2_with fail;go_ret;exact⟨left - (a.length:Int) - (b.length:Int),rfl,by omega,by omega,fun h=>⟨by omega,by omega⟩,(Aq _ _).alloc (Ap _) _⟩
theorem Qi8(v:Value)(vs:List Ver)(w:World)(h:Qhb w v vs)(hl:∀x∈vs,x.1.length<=maxLen/\x.2.length<=maxLen):
  Calls prog 18 #[v,.int .i64 1048576] w (Qjz (fun l=>(vs.length:Int)<=l/\∀x∈vs,(x.1.length:Int)<=l/\(x.2.length:Int)<=l) 1048576 w):=by
 obtain⟨A,c,rfl,hcap,hvm,hr⟩:=h;have Hr:=Aa hr;have Hl:=Aa hl;have hlen:=hvm;unfold maxLen at hlen;clear hr hl;go_enter func18,ntmps18;by_cases hbig:1048576 - (vs.length:Int)<0
 ·go_wp2_with fail;go_ret;exact⟨-1,rfl,by omega,by omega,fun h=>by omega,Aq _ _⟩
 go_wp2_with fail;go_loopw [5,1] (fun i l wr=>∃(k:Nat) (r:Int),i=.int .i64 k/\l=.int .i64 r/\k<=vs.length/\0<=r/\r<=1048576/\Hid (∀x∈vs.take k,(x.1.length:Int)<=1048576/\(x.2.length:Int)<=1048576)/\Hid (Below w w wr)) (fun i _ _=>vs.length - (intOf i).toNat)
 case atStart=>exact⟨0,1048576 - (vs.length:Int),rfl,rfl,ag _,by omega,by omega,by intro x hx;simp at hx,Aq _ _⟩
 case round=>
  obtain⟨k,r,rfl,rfl,hk,hr0,hr1,hin,hb⟩:=hrel;have k1:(0:Int)<=(k:Int):=aH;by_cases hlt:k<vs.length
  ·have k2:(k:Int)<(vs.length:Int):=aH;obtain⟨b,off,rfl,hbl,c0,c1⟩:=Qhb.at_ (Hr.o.below hb.o) hlt;have Hts:=Aa (Ch vs k hlt);have hxl:=Hl.o _ (ae hlt);generalize vs[k]=x at c0 c1 Hts hxl;have Hxl:=Aa hxl;clear hxl;go_wp2_with fail;refine(Qjd x.1 x.2 r wr Hxl.o.1 Hxl.o.2 hr0 hr1).mono ?_;rintro e w1 ⟨r',rfl,q1,q2,q3,hb1⟩;have Hq:=Aa q3;have Hb1:=Aa (hb.o.trans (hb1.mono hb.o.size));clear q3 hb1 c0 c1;by_cases hneg:r'<0
   ·exact jC
   have Hin:=Aa (show ∀y∈vs.take (k+1),(y.1.length:Int)<=1048576/\(y.2.length:Int)<=1048576 from by
    intro y hy;rw[Hts.o]at hy;rcases af.1 hy with hy|hy
    ·exact hin.o y hy
    simp at hy;subst hy;have:=Hq.o aH;exact⟨by omega,by omega⟩)
   go_wp2_with fail;go_roundw
   case rel=>exact⟨k+1,r',by go_num,rfl,by omega,by omega,by omega,Hin.o,Hb1.o⟩
   case measure=>simp[intOf];omega
  ·obtain rfl:k=vs.length:=aH;have Hall:=Aa hin.o;rw[List.take_length]at Hall;go_wp2_with fail;go_ret;exact⟨r,rfl,by omega,hr1,fun _=>⟨by omega,Hall.o⟩,hb.o⟩
theorem Qi1(v:Value)(vs:List Ver)(w:World)(h:Qhb w v vs)(hl:∀x∈vs,x.1.length<=maxLen/\x.2.length<=maxLen):
  Calls prog 10 #[.agg #[v],.int .i64 1048576] w (Qjz (fun l=>(vs.length:Int)<=l/\∀x∈vs,(x.1.length:Int)<=l/\(x.2.length:Int)<=l) 1048576 w):=by
 have H:=Aa h;have Hl:=Aa hl;obtain⟨A,c,rfl,_⟩:=h;clear hl;go_enter func10,ntmps10;go_wp2_with fail;refine(Qi8 _ vs _ (H.o.below ((Aq _ _).alloc (Ap _) _)) Hl.o).mono ?_;rintro e w1 ⟨r,rfl,q1,q2,q3,hb1⟩;have Hq:=Aa q3;have Hb1:=Aa (((Aq w.heap.size w).alloc (Ap _) _).trans (hb1.mono aL));clear q3 hb1;by_cases hneg:r<0
 ·exact jC
 go_wp2_with fail;go_ret;exact⟨r,rfl,q1,q2,Hq.o,Hb1.o⟩
theorem Qje(a b:List UInt8)(w:World):Calls prog 40 #[.agg #[a,b],.agg #[a,b]] w fun e w'=>e=.returned (.bool true)/\Below w w w':=by
 go_enter func40,ntmps40;have t1:(!(a == a))=false:=aL;have t2:(!(b == b))=false:=aL;go_wp2_with fail;go_ret;exact⟨rfl,((Aq _ _).alloc (Ap _) _).alloc aL _⟩
theorem Qi0(v1 v2:Value)(vs:List Ver)(w:World)(h1:Qhb w v1 vs)(h2:Qhb w v2 vs):
  Calls prog 24 #[v1,v2] w fun e w'=>e=.returned (.bool true)/\Below w w w':=by
 obtain⟨A1,c1,rfl,hcap1,hvm,hr1⟩:=h1;obtain⟨A2,c2,rfl,hcap2,_,hr2⟩:=h2;have Hr1:=Aa hr1;have Hr2:=Aa hr2;have hlen:=hvm;unfold maxLen at hlen;have t0:((vs.length:Int) != (vs.length:Int))=false:=aL;clear hr1 hr2;go_enter func24,ntmps24;go_wp2_with fail;go_loopw [5] (fun i wr=>∃k:Nat,i=.int .i64 k/\k<=vs.length/\Hid (Below w w wr)) (fun i _=>vs.length - (intOf i).toNat)
 case atStart=>exact⟨0,rfl,ag _,Aq _ _⟩
 case round=>
  obtain⟨k,rfl,hk,hb⟩:=hrel;have k1:(0:Int)<=(k:Int):=aH;by_cases hlt:k<vs.length
  ·have k2:(k:Int)<(vs.length:Int):=aH;obtain⟨b1,o1,rfl,hbl1,x0,x1⟩:=Qhb.at_ (Hr1.o.below hb.o) hlt;obtain⟨b2,o2,rfl,hbl2,y0,y1⟩:=Qhb.at_ (Hr2.o.below hb.o) hlt;generalize vs[k]=x at x0 x1 y0 y1;have C0:=Aa x0;have C1:=Aa x1;have D0:=Aa y0;have D1:=Aa y1;have L1:=Aa hbl1;have L2:=Aa hbl2;clear x0 x1 y0 y1 hbl1 hbl2;go_wp2_with fail;refine Ge [17,18,19,20,21,22,23,24,25,26]
    (fun ix v W=>match ix with|0=>v=.slice (some ⟨b1,o1,none⟩) vs.length c1|1=>v=.int .i64 k|2=>v=.pointer (some ⟨b1,o1+k*2,none⟩)|3=>v=.agg #[x.1,x.2]|4=>v=.slice (some ⟨b2,o2,none⟩) vs.length c2|5=>v=.int .i64 k|6=>v=.pointer (some ⟨b2,o2+k*2,none⟩)|7=>v=.agg #[x.1,x.2]|8=>v=.bool true|9=>v=.bool false|_=>True)
    (fun L U W=>Below wr wr W) ((Aq _ _).drew) ?_ ?_
   ·repeat (first|exact Ah.nil|(refine Ah.cons ?_ ?_;rotate_left))
    all_goals
     rintro L U W hL hpre HR Hdep K hK;have hB:=HR.o;have a0:W.cell? ⟨b1,o1+k*2,none⟩=x.1:=(hB.cell (p:=⟨b1,o1+k*2,none⟩) L1.o).trans C0.o;have a1:W.cell? ⟨b1,o1+k*2+1,none⟩=x.2:=(hB.cell (p:=⟨b1,o1+k*2+1,none⟩) L1.o).trans C1.o;have d0:W.cell? ⟨b2,o2+k*2,none⟩=x.1:=(hB.cell (p:=⟨b2,o2+k*2,none⟩) L2.o).trans D0.o;have d1:W.cell? ⟨b2,o2+k*2+1,none⟩=x.2:=(hB.cell (p:=⟨b2,o2+k*2+1,none⟩) L2.o).trans D1.o;first|(simp[Region.binds]at hpre;done)|simp[Region.binds]at hpre|clear hpre
    iterate 8
     ·exact hG
    ·go_simp;refine(Qje x.1 x.2 W).mono ?_;rintro e w5 ⟨rfl,hb5⟩;exact hK _ _ _ rfl Ac (hB.trans (hb5.mono hB.size)) aI
    ·exact hG
   rintro L U W hL hφ hR;have e9:U 9=.bool false:=hφ 9 aK;simp only[e9];clear hφ;have Hbw:=Aa (hb.o.trans (hR.mono hb.o.size));clear hL hR;go_wp2_with fail;go_roundw
   case rel=>exact⟨k+1,by go_num,by omega,Hbw.o⟩
   case measure=>simp[intOf];omega
  ·obtain rfl:k=vs.length:=aH;go_wp2_with fail;go_ret;exact⟨rfl,hb.o⟩
theorem Qi6(v1 v2:Value)(vs:List Ver)(w:World)(h1:Qhb w v1 vs)(h2:Qhb w v2 vs):
  Calls prog 14 #[.agg #[v1],.agg #[v2]] w fun e w'=>e=.returned (.bool true)/\Below w w w':=by
 have H1:=Aa h1;have H2:=Aa h2;obtain⟨A1,c1,rfl,_⟩:=h1;obtain⟨A2,c2,rfl,_⟩:=h2;go_enter func14,ntmps14;go_wp2_with fail;refine(Qi0 _ _ vs _ (H1.o.below (((Aq _ _).alloc (Ap _) _).alloc aL _)) (H2.o.below (((Aq _ _).alloc (Ap _) _).alloc aL _))).mono ?_;rintro e w1 ⟨rfl,hb1⟩;have Hb1:=Aa ((((Aq w.heap.size w).alloc (Ap _) _).alloc aL _).trans (hb1.mono aM));clear hb1;go_wp2_with fail;go_ret;exact⟨rfl,Hb1.o⟩
def rdV(v u:Ver):Bool:=Eu (Bn v.1 v.2) (Bn u.1 u.2)
def Qca(vs:List Ver)(i:Nat):Ver:=vs.getD i ([],[])
theorem Qgx{vs:List Ver}{i:Nat}(h:i<vs.length):Qca vs i=vs[i]:=by simp[Qca,h]
def Qij(vs:List Ver):Bool:=decide (vs.length<=5) && (List.range vs.length).all fun i=>(List.range (i+1)).all fun k=>rdV (Qca vs i) (Qca vs k)
theorem Qih{vs:List Ver}:Qij vs=true↔vs.length<=5/\∀i,i<vs.length->∀k,k<=i->rdV (Qca vs i) (Qca vs k)=true:=by
 unfold Qij;simp only[aw,decide_eq_true_eq,List.all_eq_true,List.mem_range];exact⟨fun⟨h1,h2⟩=>⟨h1,fun i hi k hk=>h2 i hi k aH⟩,fun⟨h1,h2⟩=>⟨h1,fun i hi k hk=>h2 i hi k aH⟩⟩
theorem Qja{vs:List Ver}{i k:Nat}(hi:i<vs.length)(hk:k<=i)(h:rdV (Qca vs i) (Qca vs k)=false):Qij vs=false:=by
 rw[Bool.eq_false_iff];intro h2;rw[(Qih.1 h2).2 i hi k hk]at h;cases h
theorem Qkd{v:Ver}(h:(Bn v.1 v.2).isSome=true):rdV v v=true:=by
 unfold rdV;cases hb:Bn v.1 v.2 with
 |none=>rw[hb]at h;cases h
 |some x=>
  obtain⟨S,k⟩:=x;obtain⟨h1,_,_,_,_,h2⟩:=Du hb;exact Qjs h1 h2
theorem Qko{v:Ver}(u:Ver)(h:(Bn v.1 v.2).isSome=false):rdV v u=false:=by
 unfold rdV;cases hb:Bn v.1 v.2 with
 |none=>rfl
 |some x=>rw[hb]at h;cases h
theorem Qjh(v u:Ver)(w:World)(h1:v.1.length<=4000000)(h2:v.2.length<=4000000)(h3:u.1.length<=4000000)(h4:u.2.length<=4000000):
  Calls prog 59 #[.agg #[v.1,v.2],.agg #[u.1,u.2]] w fun e w'=>e=.returned (.bool (rdV v u))/\Below w w w':=by
 have He:=Aa (fun W=>Qjn v.1 v.2 u.1 u.2 W h1 h2 h3 h4);have Hrd:Hid (rdV v u=Eu (Bn v.1 v.2) (Bn u.1 u.2)):=rfl;generalize Eu (Bn v.1 v.2) (Bn u.1 u.2)=r at *;go_enter func59,ntmps59;go_wp2_with fail;refine(He.o _).mono ?_;rintro e w1 ⟨rfl,hb1⟩;go_wp2_with fail;go_ret;exact⟨by rw[Hrd.o];rfl,(((Aq w.heap.size w).alloc (Ap _) _).alloc aL _).trans (hb1.mono aM)⟩
theorem Qjy(v:Value)(vs:List Ver)(w:World)(h:Qhb w v vs)(hn:vs.length<=1048577)(hl:∀x∈vs,x.1.length<=4000000/\x.2.length<=4000000):
  Calls prog 35 #[.agg #[v]] w fun e w'=>e=.returned (.bool (Qij vs))/\Below w w w':=by
 obtain⟨A,c,rfl,hcap,hvm,hr⟩:=h;have Hr:=Aa hr;have Hl:=Aa hl;clear hr hl;go_enter func35,ntmps35;go_wp2_with fail;go_loopw [3] (fun i wr=>∃k:Nat,i=.int .i64 k/\k<=vs.length/\Hid (∀i',i'<k->∀k',k'<=i'->rdV (Qca vs i') (Qca vs k')=true)/\Hid (Below w w wr)/\w.heap.size<wr.heap.size/\wr.cell? (w,0)=some (.slice A vs.length c)) (fun i _=>vs.length - (intOf i).toNat)
 case atStart=>exact⟨0,rfl,ag _,fun i' hi'=>by omega,(Aq _ _).alloc (Ap _) _,by simp,by simp⟩
 case round=>
  obtain⟨i,rfl,hi,hin,hb,hsz,hc0⟩:=hrel;have i1:(0:Int)<=(i:Int):=aH;by_cases hlt:i<vs.length
  ·have i2:(i:Int)<(vs.length:Int):=aH;obtain⟨wo,hwo⟩:∃wo:World,wo=wr:=⟨_,rfl⟩
   have Hsz:=Aa hsz;have Hc0:=Aa hc0;go_wp2_with fail;subst hwo;go_loopw [4] (fun q wr=>∃k:Nat,q=.int .i64 k/\k<=i+1/\Hid (∀k',k'<k->rdV (Qca vs i) (Qca vs k')=true)/\Hid (Below w w wr)/\w.heap.size<wr.heap.size/\wr.cell? (w,0)=some (.slice A vs.length c)) (fun q _=>i+1 - (intOf q).toNat)
   case atStart=>exact⟨0,rfl,ag _,fun k' hk'=>by omega,hb.o,Hsz.o,Hc0.o⟩
   case round=>
    clear hc0 hsz;obtain⟨k,rfl,hk,hkin,hb',hsz',hc0'⟩:=hrel;have k1:(0:Int)<=(k:Int):=aH;by_cases hkl:k<=i
    ·have k2:(k:Int)<=(i:Int):=aH;have k3:(k:Int)<(vs.length:Int):=aH;obtain⟨b1,o1,rfl,hbl1,x0,x1⟩:=Qhb.at_ (Hr.o.below hb'.out) hlt;obtain⟨b1',o1',e1,_,y0,y1⟩:=Qhb.at_ (Hr.o.below hb'.out) (show k<vs.length by omega);obtain⟨rfl,rfl⟩:b1=b1'/\o1=o1':=fe;have hxl:=Hl.o _ (ae hlt);have hyl:=Hl.o _ (ae (show k<vs.length by omega));have hrd:rdV (Qca vs i) (Qca vs k)=rdV vs[i] (vs[k]' aH):=by rw[Qgx hlt,Qgx aH]
     generalize vs[i]=x at x0 x1 hxl hrd;generalize vs[k]'(show k<vs.length by omega)=y at y0 y1 hyl hrd;have Hrd:=Aa (fun W=>Qjh x y W hxl.1 hxl.2 hyl.1 hyl.2);have Hrx:=Aa hrd;generalize rdV x y=r at Hrd Hrx;have C0:=Aa x0;have C1:=Aa x1;have D0:=Aa y0;have D1:=Aa y1;have L1:=Aa hbl1;have Lw:=Aa hsz';have T0:=Aa hc0';clear x0 x1 y0 y1 hbl1 hxl hyl hrd e1 hc0';go_wp2_with fail;refine Ge [17,18,19,20,21,22,23,24,25,26,27,28]
      (fun ix v W=>match ix with|0=>v=w.heap.size|1=>v=.slice (some ⟨b1,o1,none⟩) vs.length c|2=>v=.int .i64 i|3=>v=.pointer (some ⟨b1,o1+i*2,none⟩)|4=>v=.agg #[x.1,x.2]|5=>v=w.heap.size|6=>v=.slice (some ⟨b1,o1,none⟩) vs.length c|7=>v=.int .i64 k|8=>v=.pointer (some ⟨b1,o1+k*2,none⟩)|9=>v=.agg #[y.1,y.2]|10=>v=.bool r|11=>v=.bool (!r)|_=>True)
      (fun L U W=>Below wr wr W) ((Aq _ _).drew) ?_ ?_
     ·repeat (first|exact Ah.nil|(refine Ah.cons ?_ ?_;rotate_left))
      all_goals
       rintro L U W hL hpre HR Hdep K hK;have hB:=HR.o;have t0:W.cell? (w,0)=some (.slice (some ⟨b1,o1,none⟩) vs.length c):=(hB.cell (p:=⟨w.heap.size,0,none⟩) Lw.o).trans T0.o;have a0:W.cell? ⟨b1,o1+i*2,none⟩=x.1:=(hB.cell (p:=⟨b1,o1+i*2,none⟩) L1.o).trans C0.o;have a1:W.cell? ⟨b1,o1+i*2+1,none⟩=x.2:=(hB.cell (p:=⟨b1,o1+i*2+1,none⟩) L1.o).trans C1.o;have d0:W.cell? ⟨b1,o1+k*2,none⟩=y.1:=(hB.cell (p:=⟨b1,o1+k*2,none⟩) L1.o).trans D0.o;have d1:W.cell? ⟨b1,o1+k*2+1,none⟩=y.2:=(hB.cell (p:=⟨b1,o1+k*2+1,none⟩) L1.o).trans D1.o;first|(simp[Region.binds]at hpre;done)|simp[Region.binds]at hpre|clear hpre
      iterate 10
       ·exact hG
      ·go_simp;refine(Hrd.o W).mono ?_;rintro e w5 ⟨rfl,hb5⟩;exact hK _ _ _ rfl Ac (hB.trans (hb5.mono hB.size)) aI
      ·exact hG
     rintro L U W hL hφ hR;have e11:U 11=.bool (!r):=hφ 11 aK;simp only[e11];clear hφ;have Hbw:=Aa (hb'.out.trans (hR.mono hb'.out.size));have hz2:w.heap.size<W.heap.size:=ac hsz' hR.size;have T2:=Aa ((hR.cell (p:=⟨w.heap.size,0,none⟩) Lw.o).trans T0.o);clear hL hR;cases r with
     |false=>
      have Hno:=Aa (Qja hlt hkl Hrx.o);go_wp2_with fail;go_ret;exact⟨by rw[Hno.o];rfl,Hbw.o⟩
     |true=>
      have Hall:=Aa (show ∀k',k'<k+1->rdV (Qca vs i) (Qca vs k')=true from fun k' hk'=>by
       rcases aG k' k with h|h
       ·exact hkin.o k' h
       obtain rfl:k'=k:=aH;exact Hrx.o)
      go_wp2_with fail;go_roundw
      case rel=>exact⟨k+1,by go_num,by omega,Hall.o,Hbw.o,hz2,T2.o⟩
      case measure=>simp[intOf];omega
    ·have k2:¬(k:Int)<=(i:Int):=aH
     have Hall:=Aa (show ∀i',i'<i+1->∀k',k'<=i'->rdV (Qca vs i') (Qca vs k')=true from fun i' hi' k' hk'=>by
      rcases aG i' i with h|h
      ·exact hin.o i' h k' hk'
      obtain rfl:i'=i:=aH;exact hkin.o k' aH)
     have Hc':=Aa hc0';clear hc0';go_wp2_with fail;go_roundw
     case rel=>exact⟨i+1,by go_num,by omega,Hall.o,hb'.out,hsz',Hc'.out⟩
     case measure=>simp[intOf];omega
  ·obtain rfl:i=vs.length:=aH
   have Hfin:=Aa (show Qij vs=decide (vs.length<=5)from by
    by_cases h5:vs.length<=5
    ·rw[aD h5];exact Qih.2 ⟨h5,hin.o⟩
    rw[aC h5,Bool.eq_false_iff];exact fun h=>h5 (Qih.1 h).1)
   by_cases h5:vs.length<=5
   ·have h5i:(vs.length:Int)<=5:=aH;have Hf2:=Aa (Hfin.o.trans (aD h5));go_wp2_with fail;go_ret;exact⟨by rw[Hf2.o];rfl,hb.o⟩
   have h5i:¬(vs.length:Int)<=5:=aH;have Hf2:=Aa (Hfin.o.trans (aC h5));go_wp2_with fail;go_ret;exact⟨by rw[Hf2.o];rfl,hb.o⟩
def Qiq(o:Option (List Ty × Kd))(x:List UInt8):Option Vl:=match o with
 |some y=>G7 y.1 y.2 x
 |none=>none
def atL(vs:List Ver)(n:Int):Option Ver:=if Qij vs=true/\1<=n/\n<=(vs.length:Int)then some (Qca vs (n - 1).toNat)else none
theorem Qj2{vs:List Ver}{n:Int}(h:Qij vs=false):atL vs n=none:=if_neg (by rw[h];simp)
theorem Qj1{vs:List Ver}{n:Int}(h:¬(1<=n/\n<=(vs.length:Int))):atL vs n=none:=if_neg fun g=>h g.2
theorem Qkc{vs:List Ver}{k:Nat}(hr:Qij vs=true)(hk:k<vs.length):atL vs ((k:Int)+1)=some (Qca vs k):=by
 unfold atL;rw[if_pos ⟨hr,by omega,by omega⟩];congr 2
 omega
theorem Qjp{vs:List Ver}{n:Int}{v:Ver}(h:atL vs n=some v):Qij vs=true/\∃k:Nat,n=(k:Int)+1/\k<vs.length/\v=Qca vs k:=by
 unfold atL at h;split at h
 ·rename_i hc;injection h with h;exact⟨hc.1,(n - 1).toNat,by omega,by omega,h.symm⟩
 cases h
def goP:Ver->List Ver->List UInt8->Option (List UInt8)
 |_,[],s=>some s
 |v,x::xs,s=>match Fj (Bn x.1 x.2) (Bn v.1 v.2) s with
  |some r=>goP x xs (Bc r.1)
  |none=>none
def Qhy(vs:List Ver)(n:Int)(s:List UInt8):Option (List UInt8):=match atL vs n with
 |none=>none
 |some v=>if (Qiq (Bn v.1 v.2) s).isSome=true then goP v (vs.drop n.toNat) s else none
def goN(o:Option (Vl × Bool))(x:Ver)(xs:List Ver):Option (List UInt8):=match o with
 |some r=>goP x xs (Bc r.1)
 |none=>none
theorem Qjo{v:Ver}{vs:List Ver}{k:Nat}{s:List UInt8}(hk:k<vs.length):goP v (vs.drop k) s=goN (Fj (Bn (Qca vs k).1 (Qca vs k).2) (Bn v.1 v.2) s) (Qca vs k) (vs.drop (k+1)):=by
 rw[show vs.drop k=Qca vs k::vs.drop (k+1)by rw[List.drop_eq_getElem_cons hk,Qgx hk]];rfl
theorem Qjk{v:Ver}{vs:List Ver}{k:Nat}{s:List UInt8}(hk:vs.length<=k):goP v (vs.drop k) s=some s:=by rw[List.drop_eq_nil_of_le hk];rfl
theorem Qjf{s1 d1 s2 d2 x:List UInt8}{r:Vl × Bool}(h:Fj (Bn s1 d1) (Bn s2 d2) x=some r):(Bc r.1).length<=400:=by
 cases h1:Bn s1 d1 with
 |none=>rw[h1]at h;cases h
 |some y1=>
  cases h2:Bn s2 d2 with
  |none=>rw[h1,h2]at h;cases h
  |some y2=>
   obtain⟨S,a⟩:=y1;obtain⟨T,b⟩:=y2;rw[h1,h2]at h;have h:(if Jv S T a b=true then(G7 T b x).map (Cz S 12 a)else none)=some r:=h;split at h
   ·rename_i he;cases hv:G7 T b x with
    |none=>rw[hv]at h;cases h
    |some v=>
     rw[hv]at h;injection h with h;subst h;obtain⟨R,hR,hK⟩:=Qv (Du h1).1.1.2.1 (Du h2).1.1.2.1 he;obtain⟨g1,g2,g3⟩:=(J4 (Du h2).1.1.1 (Du h2).2.2.2.1).1 hv;exact ad (Tj hR 12 a b v hK g1).2.le (by rw[g2];exact g3)
   cases h
theorem Qi5{w:World}{b o c q:Nat}{cs:List Value}{u:Value}(h:w.cell? ⟨c,q,none⟩=some u)(hne:c≠b):(w.setCells b o cs).cell? ⟨c,q,none⟩=some u:=by
 have hr:w.rangeAt c q [u]:=fun j v hv=>by
  cases j with
  |zero=>injection hv with hv;subst hv;exact h
  |succ j=>simp at hv
 have:=Ab (ak hr b o cs (.inl hne)) 0 rfl;simpa using this
def Qh6(vs:List Ver)(n:Int)(w:World)(e:Ending)(w':World):Prop:=∃a b:ByteArray,e=.returned (.tuple #[.agg #[.string a,.string b],.bool (atL vs n).isSome])/\(∀v,atL vs n=some v->a=⟨v.1.toArray⟩/\b=⟨v.2.toArray⟩)/\Below w w w'
theorem Qh6.no{vs:List Ver}{n:Int}{w w':World}{e:Ending}(h:atL vs n=none){a b:ByteArray}(he:e=.returned (.tuple #[.agg #[.string a,.string b],.bool false]))(hb:Below w w w'):Qh6 vs n w e w':=
 ⟨a,b,by rw[h];exact he,fun v hv=>(by rw[h]at hv;cases hv),hb⟩
theorem Qh6.yes{vs:List Ver}{n:Int}{w w':World}{e:Ending}{v:Ver}(h:atL vs n=some v)(he:e=.returned (.tuple #[.agg #[v.1,v.2],.bool true]))(hb:Below w w w'):Qh6 vs n w e w':=
 ⟨_,_,by rw[h];exact he,fun v' hv=>(by rw[h]at hv;injection hv with hv;subst hv;exact⟨rfl,rfl⟩),hb⟩
def Qkf(o:Option (List UInt8))(w:World)(e:Ending)(w':World):Prop:=e=.returned (.tuple #[.string ⟨(o.getD []).toArray⟩,.bool o.isSome])/\Below w w w'
theorem Qjw(v:Value)(vs:List Ver)(w:World)(h:Qhb w v vs)(hn:vs.length<=1048577)(hl:∀x∈vs,x.1.length<=4000000/\x.2.length<=4000000):
  Calls prog 38 #[.agg #[v]] w fun e w'=>e=.returned (.bool (Qij vs))/\Below w w w':=by
 obtain⟨A,c,rfl,hcap,hvm,hr⟩:=h;have Hr:=Aa hr;have Hl:=Aa hl;clear hr hl;go_enter func38,ntmps38;by_cases h5:vs.length<=5
 ·have h5i:(vs.length:Int)<=5:=aH;have h5j:¬(5:Int)<(vs.length:Int):=aH;have H5:=Aa h5;go_wp2_with fail;go_loopw [17] (fun q wr=>∃k:Nat,q=.int .i64 k/\k<=vs.length/\Hid (∀i',i'<k->∀k',k'<=i'->rdV (Qca vs i') (Qca vs k')=true)/\Hid (Below w w wr)/\w.heap.size<wr.heap.size/\wr.cell? (w,0)=some (.slice A vs.length c)) (fun q _=>vs.length - (intOf q).toNat)
  case atStart=>exact⟨0,rfl,ag _,fun i' hi'=>by omega,(Aq _ _).alloc (Ap _) _,by simp,by simp⟩
  case round=>
   obtain⟨i,rfl,hi,hin,hb,hsz,hc0⟩:=hrel;have i1:(0:Int)<=(i:Int):=aH;by_cases hlt:i<vs.length
   ·have i2:(i:Int)<(vs.length:Int):=aH;obtain⟨b1,o1,rfl,hbl1,x0,x1⟩:=Qhb.at_ (Hr.o.below hb.o) hlt;have hxl:=Hl.o _ (ae hlt);have Hxv:=@Aa (Qca vs i=vs[i]) (Qgx hlt);generalize vs[i]=x at x0 x1 hxl Hxv;have Hbo:=Aa (fun W=>Xt x.1 x.2 W hxl.1 hxl.2);have Hev:=Aa (fun(y:Ver) (hy:y∈vs) W=>Qjt x.1 x.2 y.1 y.2 W hxl.1 hxl.2 (Hl.o y hy).1 (Hl.o y hy).2);have Hsz:=Aa hsz;have Hc0:=Aa hc0;clear hxl hc0;have hc0:=Hc0.o;go_wp2_with fail;refine(Hbo.o _).mono ?_;rintro e w3 hp;obtain⟨qq,a1,b2,c2,rfl,hb3,_⟩:=hp.form;have hwz:wr.heap.size<w3.heap.size:=gy;have y0:w3.cell? (wr,0)=x.1:=(hb3.cell (p:=⟨wr.heap.size,0,none⟩) aL).trans aL;have y1:w3.cell? (wr,1)=x.2:=(hb3.cell (p:=⟨wr.heap.size,1,none⟩) aL).trans aL;have Hb3:=@Aa (Below wr wr w3) (((Aq _ _).alloc (Ap _) _).trans (hb3.mono aL));have Y0:=Aa y0;have Y1:=Aa y1;have C0:=Aa ((Hb3.o.cell (p:=⟨w.heap.size,0,none⟩) Hsz.o).trans Hc0.o);have Hbw:=Aa (hb.o.trans (Hb3.o.mono hb.o.size));have Hself:=Aa (fun(hs:(Bn x.1 x.2).isSome=true)=>Qkd (v:=x) hs);have Hnone:=Aa (fun(hs:(Bn x.1 x.2).isSome=false)=>Qko (v:=x) (Qca vs i) hs);generalize (Bn x.1 x.2).isSome=ok at *;clear hp hb3 x0 x1 y0 y1 hc0;cases ok with
    |false=>
     have Hno:=Aa (Qja hlt (Ap _) (by rw[Hxv.o]at *;exact Hnone.o rfl));go_wp2_with fail;go_ret;exact⟨by rw[Hno.o];rfl,Hbw.o.alloc Hbw.o.size _⟩
    |true=>
     have Hs:=Aa (Hself.o rfl);have c0':=C0.o;have hzo:w.heap.size<w3.heap.size:=aH;have hicap:(i:Int)<=(c:Int):=aH;go_wp2_with fail;obtain⟨W5,hW5⟩:∃W5,W5=w3.alloc (.cells #[.string a1,.string b2,.string c2] 62):=⟨_,rfl⟩
     rw[<-hW5];have hb5:Below w3 w3 W5:=ey;have hz5:w3.heap.size<W5.heap.size:=fx;have Hbw5:=Aa (Hbw.o.trans (hb5.mono Hbw.o.size));have Z0:=Aa ((hb5.cell (p:=⟨wr.heap.size,0,none⟩) hwz).trans Y0.o);have Z1:=Aa ((hb5.cell (p:=⟨wr.heap.size,1,none⟩) hwz).trans Y1.o);have D0:=Aa ((hb5.cell (p:=⟨w.heap.size,0,none⟩) hzo).trans C0.o);obtain⟨wo,hwo⟩:∃wo:Nat,wo=wr.heap.size:=⟨_,rfl⟩
     rw[<-hwo]at Z0 Z1 hwz ⊢;clear hW5 hb5 c0' Y0 Y1 C0 hwo;go_loopw [38] (fun q wr=>∃k:Nat,q=.int .i64 k/\k<=i/\Hid (∀k',k'<k->rdV (Qca vs i) (Qca vs k')=true)/\Hid (Below W5 W5 wr)) (fun q _=>i - (intOf q).toNat)
     case atStart=>exact⟨0,rfl,ag _,fun k' hk'=>by omega,Aq _ _⟩
     case round=>
      obtain⟨k,rfl,hk,hkin,hb'⟩:=hrel;have k1:(0:Int)<=(k:Int):=aH;have z0:wr.cell? (wo,0)=x.1:=(hb'.out.cell (p:=⟨wo,0,none⟩) (show wo<W5.heap.size by omega)).trans Z0.o;have z1:wr.cell? (wo,1)=x.2:=(hb'.out.cell (p:=⟨wo,1,none⟩) (show wo<W5.heap.size by omega)).trans Z1.o;have Hbk:=Aa (Hbw5.o.trans (hb'.out.mono Hbw5.o.size));have hz':wo<wr.heap.size:=by have:=hb'.out.size;omega
      have hzn:¬(wo=wr.heap.size):=aH;by_cases hkl:k<i
      ·have k2:(k:Int)<(i:Int):=aH;obtain⟨b1',o1',e1,hbl',y0,y1⟩:=Qhb.at_ (Hr.o.below Hbk.o) (show k<vs.length by omega);obtain⟨rfl,rfl⟩:b1=b1'/\o1=o1':=fe;have hym:=ae (show k<vs.length by omega);have Hyv:=@Aa (Qca vs k=vs[k]' aH) (Qgx aH);generalize vs[k]'(show k<vs.length by omega)=y at y0 y1 hym Hyv;have Hcall:=Aa (Hev.o y hym);have Hrd:Hid (rdV x y=Eu (Bn x.1 x.2) (Bn y.1 y.2)):=rfl;generalize Eu (Bn x.1 x.2) (Bn y.1 y.2)=r at Hcall Hrd;clear hym e1;go_wp2_with fail;refine(Hcall.o _).mono ?_;rintro e w9 ⟨rfl,hb9⟩;have Hb9:=@Aa (Below wr wr w9) (((Aq _ _).alloc (Ap _) _).trans (hb9.mono aL));have Hbz:=Aa (hb'.out.trans (Hb9.o.mono hb'.out.size));have Hbv:=Aa (Hbk.o.trans (Hb9.o.mono Hbk.o.size));clear hb9 y0 y1 z0 z1;cases r with
       |false=>
        have Hno:=Aa (Qja hlt (Nat.le_of_lt hkl) (by rw[Hxv.o,Hyv.o];exact Hrd.o));go_wp2_with fail;go_ret;exact⟨by rw[Hno.o];rfl,Hbv.o⟩
       |true=>
        have Hall:=Aa (show ∀k',k'<k+1->rdV (Qca vs i) (Qca vs k')=true from fun k' hk'=>by
         rcases aG k' k with h|h
         ·exact hkin.o k' h
         obtain rfl:k'=k:=aH;rw[Hxv.o,Hyv.o];exact Hrd.o)
        go_wp2_with fail;go_roundw
        case rel=>exact⟨k+1,by go_num,by omega,Hall.o,Hbz.o⟩
        case measure=>simp[intOf];omega
      ·have k2:¬(k:Int)<(i:Int):=aH
       have Hall:=Aa (show ∀i',i'<i+1->∀k',k'<=i'->rdV (Qca vs i') (Qca vs k')=true from fun i' hi' k' hk'=>by
        rcases aG i' i with h|h
        ·exact hin.o i' h k' hk'
        obtain rfl:i'=i:=aH;rcases aG k' i' with h2|h2
        ·exact hkin.o k' aH
        obtain rfl:k'=i':=aH;rw[Hxv.o];exact Hs.o)
       have d0:=Aa ((hb'.out.cell (p:=⟨w.heap.size,0,none⟩) (show w.heap.size<W5.heap.size by omega)).trans D0.o);clear z0 z1;go_wp2_with fail;go_roundw
       case rel=>exact⟨i+1,by go_num,by omega,Hall.o,Hbk.o,by have:=hb'.out.size;omega,d0.o⟩
       case measure=>simp[intOf];omega
   ·obtain rfl:i=vs.length:=aH;have Hfin:=Aa (Qih.2 ⟨H5.o,hin.o⟩);go_wp2_with fail;go_ret;exact⟨by rw[Hfin.o];rfl,hb.o⟩
 have h5i:(5:Int)<(vs.length:Int):=aH;have Hno:=@Aa (Qij vs=false) (by rw[Bool.eq_false_iff];exact fun h=>h5 (Qih.1 h).1);go_wp2_with fail;go_ret;exact⟨by rw[Hno.o];rfl,(Aq _ _).alloc (Ap _) _⟩
end
end Go.Proofs.YtkgkoicedddkmaaGreatDoor
