/- Texts joined. Conditions: as each theorem names them. -/
import Derived.OwnWalk
import Derived.Laws.Append
import Derived.Test.YtgfmljfjgohdcaaGreatDoorL16
set_option maxRecDepth 100000
set_option maxHeartbeats 32000000
set_option linter.unusedVariables false
set_option linter.unusedSimpArgs false
namespace Go.Proofs.YtgfmljfjgohdcaaGreatDoor
open Go.RowKit Go.Proofs.Tryz
section
attribute [local go_sem] Qls Qkr Qj4 Qig ByteArray.mk_append_mk
abbrev J0:=List UInt8 × List UInt8
def Qaj(v:J0):List Value:=[v.1,v.2]
theorem Kl(v:J0):(Qaj v).length=2:=rfl
def Q6(w:World)(A:Option Addr)(xs:List Value):Prop:=0<xs.length->∃b off,A=some ⟨b,off,none⟩/\b<w.heap.size/\∀j u,xs[j]?=some u->w.cell? ⟨b,off+j,none⟩=some u
theorem Q6.below{w w':World}{A:Option Addr}{xs:List Value}(h:Q6 w A xs)(hb:Below w w w'):Q6 w' A xs:=fun hn=>by
 obtain⟨b,off,e,hlt,hc⟩:=h hn;exact gX
def Fi(w:World)(v:Value)(vs:List J0):Prop:=∃A c,v=.slice A vs.length c/\vs.length<=c/\vs.length<=maxLen/\Q6 w A (vs.flatMap Qaj)
theorem Fi.below{w w':World}{v:Value}{vs:List J0}(h:Fi w v vs)(hb:Below w w w'):Fi w' v vs:=by
 obtain⟨A,c,e,hc,hm,hr⟩:=h;exact⟨A,c,e,hc,hm,hr.below hb⟩
theorem Fi.at_{w:World}{A:Option Addr}{vs:List J0}(hr:Q6 w A (vs.flatMap Qaj)){i:Nat}(hi:i<vs.length):
  ∃b off,A=some ⟨b,off,none⟩/\b<w.heap.size/\w.cell? ⟨b,off+i*2,none⟩=some (.string ⟨vs[i].1.toArray⟩)/\w.cell? ⟨b,off+i*2+1,none⟩=some (.string ⟨vs[i].2.toArray⟩):=by
 obtain⟨b,off,e,hlt,hc⟩:=hr (by rw[Gk Kl];omega);refine⟨b,off,e,hlt,?_,?_⟩
 ·have:=hc (i*2+0) (.string ⟨vs[i].1.toArray⟩) (by rw[Jo Kl vs i 0 hi aI];rfl);simpa using this
 have:=hc (i*2+1) (.string ⟨vs[i].2.toArray⟩) (by rw[Jo Kl vs i 1 hi aI];rfl);simpa [Nat.add_assoc]using this
theorem Qel{w:World}{base k n:Nat}{e:TypeId}{g cap:Nat}{xs:List Value}(h:w.ownsRow base e k (.slice (g,0) n cap) n xs):w.there g 0 (n*k):=fun j hj=>by
 rcases h.2 with⟨h0,_⟩|⟨g',cap',cur,e1,hb,hh,hnc,hcm,hcs,htk⟩
 ·cases h0
 injection e1 with e1 _ e2;injection e1 with e1;injection e1 with e1;subst e1 e2;have hlt:j<cur.size:=by rw[hcs];exact a8 hj (Nat.mul_le_mul_right _ hnc)
 refine⟨?_,?_⟩
 ·simp only[World.cell?,hh,aj];simp[hlt]
 simp[World.frozen?,hh]
theorem Tr{w:World}{b o:Nat}{l1 l2:List Value}(h1:w.rangeAt b o l1)(h2:w.rangeAt b (o+l1.length) l2):w.rangeAt b o (l1++l2):=fun j v hv=>by
 rcases aE j l1.length with h|h
 ·rw[List.getElem?_append_left h]at hv;exact h1 j v hv
 rw[List.getElem?_append_right h]at hv;have:=h2 (j - l1.length) v hv;rwa [show o+l1.length+(j - l1.length)=o+j by omega]at this
theorem Tryz.infoVer:(prog.info? 36).map (fun i=>(i.zero,i.size,i.bytes))=some (some (.agg #[a6,a6]),2,32):=aJ
def Qfh(lo:Nat)(w:World)(v:Value)(vs:List J0):Prop:=∃g,v=.slice (some ⟨g,0,none⟩) vs.length vs.length/\lo<=g/\g<w.heap.size/\w.rangeAt g 0 (vs.flatMap Qaj)
theorem Qfh.row{lo:Nat}{w:World}{v:Value}{vs:List J0}(h:Qfh lo w v vs)(hn:vs.length<=1048576):Fi w v vs:=by
 obtain⟨g,e,_,hg,hr⟩:=h;exact⟨_,_,e,Am _,by unfold maxLen;omega,fun _=>⟨g,0,rfl,hg,hr⟩⟩
theorem Qfh.set{lo:Nat}{w:World}{v:Value}{vs:List J0}(h:Qfh lo w v vs){b:Nat}(hb:b<lo)(u:Value):Qfh lo (w.setCell ⟨b,0,none⟩ u) v vs:=by
 obtain⟨g,e,h1,hg,hr⟩:=h;exact⟨g,e,h1,by simpa using hg,ai hr b 0 [u] (.inl aF)⟩
theorem Xt(a b:ByteArray)(w:World):Calls prog 138 #[.agg #[.string a,.string b]] w fun e w'=>e=.returned (.agg #[.string a,.string b])/\Below w w w':=by
 go_enter func138,ntmps138;go_wp2_with fail;exact aD (v:=.agg #[.string a,.string b]) (by simp[results,results138,go_sem]) rfl ⟨rfl,(((Ar _ _).alloc (Am _) _).alloc aH _).alloc aL _⟩
theorem Vh(v:Value)(vs:List J0)(w:World)(h:Fi w v vs)(hn:vs.length<=1048576):
  Calls prog 77 #[v] w fun e w'=>∃v',e=.returned v'/\Qfh w.heap.size w' v' vs/\Below w w w':=by
 obtain⟨i0,hi,hz0,hz1,hz2⟩:=info_parts Tryz.infoVer;obtain⟨A,c,rfl,hcap,hvm,hr⟩:=h;have Hr:=Aa hr;clear hr;go_enter func77,ntmps77;go_wp2_with (at_make;refine wpList_make_full _ rfl _ _ 29 rfl w 36 i0 (.agg #[a6,a6]) 2 underlying29 hi hz0 hz1 .i64 .i64 _ _ vs.length rfl rfl rfl rfl (by rw[hz2];omega) aY (Am _) ?_;intro w0 hown0 hgrow0)
 have T0:=Aa (Qel hown0);have hg0:w.heap.size<w0.heap.size:=(hown0.lt _ rfl).2;have Hb0:=@Aa (Below w w w0) ((Ar _ _).grown hgrow0 (Am _) aH);clear hown0 hgrow0;go_loopw [4] (fun i wr=>∃k:Nat,i=.int .i64 k/\k<=vs.length/\Hid (wr.there w 0 (vs.length*2))/\Hid (wr.rangeAt w 0 ((vs.take k).flatMap Qaj))/\Hid (Below w w wr)/\w.heap.size<wr.heap.size) (fun i _=>vs.length - (intOf i).toNat)
 case atStart=>exact⟨0,rfl,ae _,T0.o,fun j v hv=>by simp at hv,Hb0.o,hg0⟩
 case round=>
  obtain⟨k,rfl,hk,hT,hR,hb,hgz⟩:=hrel;have k1:(0:Int)<=(k:Int):=aF;by_cases hlt:k<vs.length
  ·have k2:(k:Int)<(vs.length:Int):=aF;obtain⟨b,off,rfl,hbl,c0,c1⟩:=Fi.at_ (Hr.o.below hb.o) hlt;have Hts:=Aa (By vs k hlt);have hlen:((vs.take k).flatMap Qaj).length=k*2:=by rw[Gk Kl,List.length_take,Nat.min_eq_left hk]
   have Hlen:=Aa hlen;generalize vs[k]=x at c0 c1 Hts;clear hlen;go_wp2_with fail;refine(Xt ⟨x.1.toArray⟩ ⟨x.2.toArray⟩ wr).mono ?_;rintro e w1 ⟨rfl,hb1⟩;have T1:=@Aa (w1.there w.heap.size (k*2) 2) (G7 (An hT.o hgz hb1) (k*2) 2 (ae _) aF);have T1':=Aa (An hT.o hgz hb1);have R1:=Aa (Ah hR.o hgz hb1);have Hb1:=Aa (hb.o.trans (hb1.mono hb.o.size));have hz1:wr.heap.size<=w1.heap.size:=hb1.size;clear hb1 c0 c1;go_wp2_with ((with_reducible refine Ad (op:=⟨none,.store 36 _ _,_,_,_,none⟩) rfl 36 _ _ rfl w.heap.size (k*2) [x.1,x.2] ?_ ?_ ?_ ?_ ?_ ?_);(first|rfl|(simp;done));rfl;(exact T1.o);kernel_rfl;(simp[Value.oneCell']);intro w9 HS9)
   go_roundw
   case rel=>
    refine⟨k+1,by go_num,by omega,?_,?_,?_,?_⟩
    ·rw[HS9.o];exact ag T1'.out _ _ _
    ·rw[HS9.o,Hts.o,List.flatMap_append];refine Tr (ai R1.o _ _ _ (.inr (.inl (by rw[Hlen.o];omega)))) ?_;rw[Hlen.o];simpa [Qaj]using a7 w1 w.heap.size (k*2) [x.1,x.2] T1.o
    ·rw[HS9.o];exact Ag _ (Am _) _ _ _ Hb1.o
    ·rw[HS9.o,Bw];omega
   case measure=>simp[intOf];omega
  ·obtain rfl:k=vs.length:=aF;go_wp2_with fail;go_ret;have:=hR.o;rw[List.take_length]at this;exact⟨_,rfl,⟨w.heap.size,rfl,Am _,hgz,this⟩,hb.o⟩
theorem J6(v:Value)(vs:List J0)(w:World)(h:Fi w v vs)(hn:vs.length<=1048576):
  Calls prog 29 #[.agg #[v]] w fun e w'=>∃v',e=.returned (.agg #[v'])/\Fi w' v' vs/\Below w w w':=by
 have H:=Aa h;obtain⟨A,c,rfl,_⟩:=h;go_enter func29,ntmps29;go_wp2_with fail;refine(Vh _ vs _ (H.o.below ((((Ar _ _).alloc (Am _) _).alloc aH _).alloc aL _)) hn).mono ?_;rintro e w1 ⟨v',rfl,hv,hb1⟩;obtain⟨hc1,hf1,hz⟩:=Bx hb1;have T1:=@Aa (w1.cell? (w,1,0)=some (.slice none 0 0)) ((hc1 (w.heap.size+1) 0 aH).trans eQ);have t1:=T1.o;have t2:w1.cell? (w.heap.size+1+1,0)=some (.slice none 0 0):=(hc1 (w.heap.size+1+1) 0 aH).trans eQ;have u1:w1.frozen? (w,1,0)=false:=(hf1 (w.heap.size+1) 0 aH).trans eQ;have u2:w1.frozen? (w.heap.size+1+1,0)=false:=(hf1 (w.heap.size+1+1) 0 aH).trans eQ;have hz1:w.heap.size+1+1<w1.heap.size:=hz _ aH;have Hv:=Aa hv;obtain⟨g1,rfl,hg1,_,_⟩:=hv;simp at hg1;have Hb1:=@Aa (Below w w w1) (((((Ar _ _).alloc (Am _) _).alloc aH _).alloc aL _).trans (hb1.mono aL));clear hb1 hc1 hf1 hz;have hne:¬(w.heap.size+1+1=w.heap.size+1):=aF;go_wp2_with fail;refine aD (v:=.agg #[.slice (g1,0) vs.length vs.length]) (by simp[results,results29,go_sem,t1,t2,u1,u2,hne,hz1]) rfl ?_;exact⟨_,rfl,((Hv.o.set aH _).set aH _).row hn,(Hb1.o.setCell aL _).setCell aH _⟩
def Qc5(P:Int->Prop)(left:Int)(w:World)(e:Ending)(w':World):Prop:=∃r:Int,e=.returned (.int .i64 r) /\ -1<=r/\r<=left/\(0<=r->P left)/\Below w w w'
theorem Xv(a b:List UInt8)(left:Int)(w:World)(ha:a.length<=maxLen)(hb:b.length<=maxLen)(h0:0<=left)(h1:left<=1048576):
  Calls prog 137 #[.agg #[a,b],.int .i64 left] w (Qc5 (fun l=>(a.length:Int)<=l/\(b.length:Int)<=l) left w):=by
 unfold maxLen at ha hb;go_enter func137,ntmps137;by_cases hl:left - (a.length:Int)<0
 ·exact gA
 by_cases hl2:left - (a.length:Int) - (b.length:Int)<0
 ·exact gA
 go_wp2_with fail;go_ret;exact⟨left - (a.length:Int) - (b.length:Int),rfl,by omega,by omega,fun h=>⟨by omega,by omega⟩,(Ar _ _).alloc (Am _) _⟩
theorem Xa(v:Value)(vs:List J0)(w:World)(h:Fi w v vs)(hl:∀x∈vs,x.1.length<=maxLen/\x.2.length<=maxLen):
  Calls prog 74 #[v,.int .i64 1048576] w (Qc5 (fun l=>(vs.length:Int)<=l/\∀x∈vs,(x.1.length:Int)<=l/\(x.2.length:Int)<=l) 1048576 w):=by
 obtain⟨A,c,rfl,hcap,hvm,hr⟩:=h;have Hr:=Aa hr;have Hl:=Aa hl;have hlen:=hvm;unfold maxLen at hlen;clear hr hl;go_enter func74,ntmps74;by_cases hbig:1048576 - (vs.length:Int)<0
 ·go_wp2_with fail;go_ret;exact⟨-1,rfl,by omega,by omega,fun h=>by omega,Ar _ _⟩
 go_wp2_with fail;go_loopw [5,1] (fun i l wr=>∃(k:Nat) (r:Int),i=.int .i64 k/\l=.int .i64 r/\k<=vs.length/\0<=r/\r<=1048576/\Hid (∀x∈vs.take k,(x.1.length:Int)<=1048576/\(x.2.length:Int)<=1048576)/\Hid (Below w w wr)) (fun i _ _=>vs.length - (intOf i).toNat)
 case atStart=>exact⟨0,1048576 - (vs.length:Int),rfl,rfl,ae _,by omega,by omega,by intro x hx;simp at hx,Ar _ _⟩
 case round=>
  obtain⟨k,r,rfl,rfl,hk,hr0,hr1,hin,hb⟩:=hrel;have k1:(0:Int)<=(k:Int):=aF;by_cases hlt:k<vs.length
  ·have k2:(k:Int)<(vs.length:Int):=aF;obtain⟨b,off,rfl,hbl,c0,c1⟩:=Fi.at_ (Hr.o.below hb.o) hlt;have Hts:=Aa (By vs k hlt);have hxl:=Hl.o _ (ac hlt);generalize vs[k]=x at c0 c1 Hts hxl;have Hxl:=Aa hxl;clear hxl;go_wp2_with fail;refine(Xv x.1 x.2 r wr Hxl.o.1 Hxl.o.2 hr0 hr1).mono ?_;rintro e w1 ⟨r',rfl,q1,q2,q3,hb1⟩;have Hq:=Aa q3;have Hb1:=Aa (hb.o.trans (hb1.mono hb.o.size));clear q3 hb1 c0 c1;by_cases hneg:r'<0
   ·exact gE
   have Hin:=Aa (show ∀y∈vs.take (k+1),(y.1.length:Int)<=1048576/\(y.2.length:Int)<=1048576 from by
    intro y hy;rw[Hts.o]at hy;rcases ad.1 hy with hy|hy
    ·exact hin.o y hy
    simp at hy;subst hy;have:=Hq.o aF;exact⟨by omega,by omega⟩)
   go_wp2_with fail;go_roundw
   case rel=>exact⟨k+1,r',by go_num,rfl,by omega,by omega,by omega,Hin.o,Hb1.o⟩
   case measure=>simp[intOf];omega
  ·obtain rfl:k=vs.length:=aF;have Hall:=Aa hin.o;rw[List.take_length]at Hall;go_wp2_with fail;go_ret;exact⟨r,rfl,by omega,hr1,fun _=>⟨by omega,Hall.o⟩,hb.o⟩
theorem Tt(v:Value)(vs:List J0)(w:World)(h:Fi w v vs)(hl:∀x∈vs,x.1.length<=maxLen/\x.2.length<=maxLen):
  Calls prog 27 #[.agg #[v],.int .i64 1048576] w (Qc5 (fun l=>(vs.length:Int)<=l/\∀x∈vs,(x.1.length:Int)<=l/\(x.2.length:Int)<=l) 1048576 w):=by
 have H:=Aa h;have Hl:=Aa hl;obtain⟨A,c,rfl,_⟩:=h;clear hl;go_enter func27,ntmps27;go_wp2_with fail;refine(Xa _ vs _ (H.o.below ((Ar _ _).alloc (Am _) _)) Hl.o).mono ?_;rintro e w1 ⟨r,rfl,q1,q2,q3,hb1⟩;have Hq:=Aa q3;have Hb1:=Aa (((Ar w.heap.size w).alloc (Am _) _).trans (hb1.mono aH));clear q3 hb1;by_cases hneg:r<0
 ·exact gE
 go_wp2_with fail;go_ret;exact⟨r,rfl,q1,q2,Hq.o,Hb1.o⟩
theorem Xi(a b:List UInt8)(w:World):Calls prog 140 #[.agg #[a,b],.agg #[a,b]] w fun e w'=>e=.returned (.bool true)/\Below w w w':=by
 go_enter func140,ntmps140;have t1:(!(a == a))=false:=aH;have t2:(!(b == b))=false:=aH;go_wp2_with fail;go_ret;exact⟨rfl,((Ar _ _).alloc (Am _) _).alloc aH _⟩
abbrev Cr:=Cc × Cc
def Xn(S T:List Ty)(K:Kd->Kd->List Cr->Bool × List Cr)(t:Ty)(st:UInt8):List Fd->List Cr->Bool × List Cr
 |[],m=>(true,m)
 |g::gs,m=>match Bl t.fields g.tag with
  |none=>if st=82 then Xn S T K t st gs m else(false,m)
  |some f=>if st=69 then Xn S T K t st gs m else
    if (K f.kind g.kind m).1=false then(false,(K f.kind g.kind m).2)
    else if st=82/\M6 S f≠M6 T g then(false,(K f.kind g.kind m).2)
    else Xn S T K t st gs (K f.kind g.kind m).2
def Yi(S T:List Ty)(K:Kd->Kd->List Cr->Bool × List Cr)(t u:Ty)(m:List Cr):Bool × List Cr:=
 if t.sort≠u.sort then(false,m)else Xn S T K t u.sort u.fields m
def H6(S T:List Ty):Nat->Kd->Kd->List Cr->Bool × List Cr
 |0,_,_,m=>(true,m)
 |n+1,a,b,m=>
  if a.signs≠b.signs\/a.base≠b.base then(false,m)
  else if a.base≠[64]then(true,m)
  else match Bu S a.name,Bu T b.name with
   |some t,some u=>if (a.name,b.name)∈m then(true,m)else Yi S T (H6 S T n) t u (m++[(a.name,b.name)])
   |_,_=>(false,m)
def Ks(S T:List Ty)(m:List Cr):Prop:=m.Nodup/\∀p∈m,p.1∈Ev S/\p.2∈Ev T
theorem Ks.nil(S T:List Ty):Ks S T []:=⟨List.nodup_nil,by simp⟩
theorem Ks.snoc{S T:List Ty}{m:List Cr}{a b:Cc}(h:Ks S T m)(ha:a∈Ev S)(hb:b∈Ev T)(hn:(a,b)∉m):Ks S T (m++[(a,b)]):=by
 refine⟨?_,?_⟩
 ·rw[List.nodup_append];refine⟨h.1,by simp,?_⟩;intro x hx y hy;simp only[an]at hy;subst hy;rintro rfl;exact hn hx
 intro p hp;rcases ad.1 hp with hp|hp
 ·exact h.2 p hp
 simp only[an]at hp;subst hp;exact⟨ha,hb⟩
theorem Qa6:∀(l m:List Cr),l.Nodup->(∀x∈l,x∈m)->l.length<=m.length
 |[],m,_,_=>aH
 |x::l,m,hn,hs=>by
  have hx:=hs x aH;have:=Qa6 l (m.erase x) (List.nodup_cons.1 hn).2 (fun y hy=>(List.mem_erase_of_ne (by rintro rfl;exact(List.nodup_cons.1 hn).1 hy)).2 (hs y ev));rw[List.length_erase_of_mem hx]at this;have:=List.length_pos_of_mem hx;simp only[List.length_cons];omega
def Qbq(a b:List Cc):List Cr:=a.flatMap fun x=>b.map fun y=>(x,y)
theorem Yb(b:List Cc):∀a,(Qbq a b).length=a.length*b.length
 |[]=>by simp[Qbq]
 |x::a=>by
  have:=Yb b a;unfold Qbq at this ⊢;rw[List.flatMap_cons,af,List.length_map,this,List.length_cons,Nat.add_mul];omega
theorem Ks.len{S T:List Ty}{m:List Cr}(h:Ks S T m):m.length<=S.length*T.length:=by
 have:=Qa6 m (Qbq (Ev S) (Ev T)) h.1 (fun x hx=>by
  obtain⟨a,b⟩:=x;have:=h.2 _ hx;unfold Qbq;rw[List.mem_flatMap];exact⟨a,this.1,av.2 ⟨b,this.2,rfl⟩⟩)
 rw[Yb]at this;simpa [Ev]using this
def Qjw(S T:List Ty)(K:Kd->Kd->List Cr->Bool × List Cr):Prop:=∀a b m,Ks S T m->Ks S T (K a b m).2/\∃l,(K a b m).2=m++l
theorem Pp{S T:List Ty}{K:Kd->Kd->List Cr->Bool × List Cr}(hK:Qjw S T K)(t:Ty)(st:UInt8):∀(gs:List Fd) (m:List Cr),Ks S T m->Ks S T (Xn S T K t st gs m).2/\∃l,(Xn S T K t st gs m).2=m++l
 |[],m,h=>⟨h,[],by simp[Xn]⟩
 |g::gs,m,h=>by
  unfold Xn;cases Bl t.fields g.tag with
  |none=>
   simp only;split
   ·exact Pp hK t st gs m h
   exact⟨h,[],by simp⟩
  |some f=>
   simp only;split
   ·exact Pp hK t st gs m h
   obtain⟨h1,l1,e1⟩:=hK f.kind g.kind m h;split
   ·exact⟨h1,l1,e1⟩
   split
   ·exact⟨h1,l1,e1⟩
   obtain⟨h2,l2,e2⟩:=Pp hK t st gs _ h1;exact⟨h2,l1++l2,by rw[e2,e1,List.append_assoc]⟩
theorem Ry(S T:List Ty):∀n,Qjw S T (H6 S T n)
 |0=>fun a b m h=>⟨h,[],by simp[H6]⟩
 |n+1=>fun a b m h=>by
  unfold H6;split
  ·exact⟨h,[],by simp⟩
  split
  ·exact⟨h,[],by simp⟩
  cases hs:Bu S a.name with
  |none=>exact⟨h,[],by simp⟩
  |some t=>cases ht:Bu T b.name with
   |none=>exact⟨h,[],by simp⟩
   |some u=>
    simp only;split
    ·exact⟨h,[],by simp⟩
    rename_i hn;have h1:=h.snoc (Jh.1 (by rw[hs];rfl)) (Jh.1 (by rw[ht];rfl)) hn;unfold Yi;split
    ·exact⟨h1,_,rfl⟩
    obtain⟨h2,l2,e2⟩:=Pp (Ry S T n) t u.sort u.fields _ h1;exact⟨h2,[(a.name,b.name)]++l2,by rw[e2];simp⟩
def Qie(S T:List Ty)(a b:Kd):Bool:=(H6 S T 65 a b []).1
def Eo(x y:Option (List Ty × Kd)):Bool:=match x,y with
 |some (S,a),some (T,b)=>Qie S T a b
 |_,_=>false
theorem Qby{S:List Ty}{K:Kd->Kd->List Cr->Bool × List Cr}{t:Ty}(hd:t.fields.Pairwise fun g f=>g.name≠f.name/\g.tag<f.tag)(hK:∀f∈t.fields,∀m,t.sort≠69->(K f.kind f.kind m).1=true):
  ∀(gs:List Fd),(∀g∈gs,g∈t.fields)->∀m,(Xn S S K t t.sort gs m).1=true
 |[],_,m=>rfl
 |g::gs,hg,m=>by
  have hgm:=hg g aH;have hf:Bl t.fields g.tag=some g:=by
   cases h:Bl t.fields g.tag with
   |none=>
    have:=List.find?_eq_none.1 h g hgm;simp at this
   |some f=>
    have hm:=List.mem_of_find?_eq_some h;have ht:=List.find?_some h;simp only[decide_eq_true_eq]at ht;obtain⟨i,hi,rfl⟩:=List.mem_iff_getElem.1 hm;obtain⟨j,hj,rfl⟩:=List.mem_iff_getElem.1 hgm;rw[List.pairwise_iff_getElem]at hd;rcases Nat.lt_trichotomy i j with hij|hij|hij
    ·have:=(hd i j hi hj hij).2;omega
    ·subst hij;rfl
    have:=(hd j i hj hi hij).2;omega
  unfold Xn;rw[hf];simp only;have ih:=Qby (S:=S) hd hK gs (fun x hx=>hg x (by simp[hx]));split
  ·exact ih m
  rename_i hs;rw[if_neg (by rw[hK g hgm m hs];decide),if_neg aH];exact ih _
theorem Qb5{S:List Ty}(hS:Jv S):∀(n:Nat) (k:Kd) (m:List Cr),Bq S k->(H6 S S n k k m).1=true
 |0,_,_,_=>rfl
 |n+1,k,m,hr=>by
  unfold H6;rw[if_neg aH];split
  ·rfl
  rename_i hb;have hb':k.base=[64]:=by simpa using hb
  have h1:=hr hb';cases h:Bu S k.name with
  |none=>rw[h]at h1;cases h1
  |some t=>
   simp only;split
   ·rfl
   have htm:=(Ch h).1;have hto:=hS.1.1 t htm;unfold Yi;rw[if_neg aH];exact Qby hto.2.2.1.2 (fun f hf m' hs=>Qb5 hS n f.kind m' (hS.2.1 t htm hs f hf)) t.fields (fun _ h=>h) _
theorem Qbl{S:List Ty}(hS:Jv S){k:Kd}(hr:Bq S k):Qie S S k k=true:=Qb5 hS 65 k [] hr
section
variable {P:Program}
theorem My(w:World)(base:Nat)(t ty e:TypeId)(i:TypeInfo)(z:Value)(size bytes:Nat)(ht:P.underlying t=some (.slice e))(hi:P.info? e=some i)(hz:i.zero=some z)
  (hsize:i.size=size) (hby:i.bytes=bytes) (hzs:z.cells.size=size) (hsz:0<size)
  (v:Value) (n:Nat) (xs:List Value) (hown:w.ownsRow base e size v n xs)
  (a:Addr) (m c:Nat) (news:List Value) (hl:news.length=m*size) (hnews:∀j u,news[j]?=some u->w.cell? (a.add j)=some u) (h1:∀u∈news,u.oneCell'=true)
  (hm:0<m) (h63:n+m<=maxLen) (hbytes:(n+m)*bytes<=140737488355328) (hbase:base<=w.heap.size):
  ∃v' w',(Builtin.append_ #[t,t] ty #[v,.slice (some a) m c]).run P w=.ok v' w'/\w'.ownsRow base e size v' (n+m) (xs++news)/\w.grownBy w' v.ownBlock /\
   (v'.ownBlock=v.ownBlock\/∃k,v'.ownBlock=some k/\w.heap.size<=k):=by
 obtain⟨v',w',hr,h2,h3,_⟩:=run_append_own (P:=P) w base t ty e i z size bytes ht hi hz hsize hby hzs hsz v n xs hown a m c news hl hnews h1 h63 hbytes hbase;refine⟨v',w',hr,h2,h3,?_⟩;subst hsize;subst hby;have h63':n+m<=9223372036854775807:=by simp only[maxLen]at h63;omega
 rcases hown.2 with⟨rfl,rfl⟩|⟨g,cap,cur,rfl,hbg,hg,hnc,hcm,hcs,htake⟩
 ·have hq:=run_append_nil (P:=P) w t ty e i z ht hi hz a m c news hl hnews hm aF (by have hb:=hbytes;simp only[aj]at hb;omega);exact iv
 by_cases hroom:n+m<=cap
 ·have hfit:n*i.size+news.length<=cur.size:=by rw[hl,hcs,<-Nat.add_mul];exact Nat.mul_le_mul_right _ hroom
  have hq:=run_append_room (P:=P) w t ty e i ht hi g n cap cur hg a m c news hl hnews h1 hroom hfit;rw[hq]at hr;injection hr with e1 _;subst e1;exact .inl rfl
 have holds:∀j u,xs[j]?=some u->w.cell? ((⟨g,0,none⟩:Addr).add j)=some u:=hown.cells (g:=g) rfl;have hq:=run_append_grow (P:=P) w t ty e i z ht hi hz ⟨g,0,none⟩ n cap xs hown.1 holds a m c news hl hnews aF aF (growslice_fits aF hbytes);exact iv
theorem Nh(w:World){ops:Array Oper}{rest:List Oper}{o:Oper}{a:Act}{Q:Exit->Act->World->Prop}(hgd:o.guard=none)(s x:Operand)(t:TypeId)
  (ho:o.op=.call {callee:=.builtin .append,args:=#[s,x],argTypes:=#[t,t]})
  (base:Nat) (e:TypeId) (z:Value) (bytes:Nat) (ht:P.underlying t=some (.slice e)) (hinfo:(P.info? e).map (fun i=>(i.zero,i.size,i.bytes))=some (some z,1,bytes))
  (hzs:z.cells.size=1) (W:World) (u:Value) (hw:w=W.alloc (.cells #[u] e)) (hu:u.oneCell'=true) (v:Value) (n:Nat) (xs:List Value) (hs:a.eval s=v) (hx:a.eval x=.slice (W,0) 1 1)
  (hown:W.ownsRow base e 1 v n xs)
  (h63:n+1<=maxLen) (hbytes:(n+1)*bytes<=140737488355328) (hbase:base<=W.heap.size)
  (h:∀v' w',w'.ownsRow base e 1 v' (n+1) (xs++[u])->W.grownBy w' v.ownBlock->(v'.ownBlock=v.ownBlock\/∃k,v'.ownBlock=some k/\W.heap.size<=k)->wpList P ops Q rest (a.put o.dst v') w'):wpList P ops Q (o::rest) a w:=by
 subst hw;obtain⟨i0,hi,hz0,hz1,hz2⟩:=info_parts hinfo
 obtain⟨v',w',hrun,r1,r2,r3⟩:=My (P:=P) (W.alloc (.cells #[u] e)) base t o.type e i0 z 1 bytes ht hi hz0 hz1 hz2 hzs aI v n xs (hown.alloc _) ⟨W.heap.size,0,none⟩ 1 1 [u] rfl (by
  intro j y hj;match j,hj with
  |0,hj=>simp at hj;subst hj;simp[Addr.add,World.cell?_alloc_new]) (by intro y hy;simp at hy;subst hy;exact hu) aI h63 hbytes aL
 refine wpList_plain hgd fun K' hK'=>?_;unfold Oper.wp;simp[execOp,ho,resolve,invoke,builtin,hs,hx,hrun,Result.andThen];refine hK' _ _ (h v' w' r1 ?_ ?_)
 ·exact gz
 rcases r3 with r3|⟨k,r3,r4⟩
 ·exact .inl r3
 exact .inr ⟨k,r3,by simp at r4;omega⟩
end
end
section
variable {P:Program}
theorem Qr(W:World){o:Oper}{a:Act}{K:Act->World->Prop}{Q:Exit->Act->World->Prop}(s x:Operand)(t:TypeId)
  (ho:o.op=.call {callee:=.builtin .append,args:=#[s,x],argTypes:=#[t,t]})
  (base:Nat) (e:TypeId) (z:Value) (k bytes:Nat) (ht:P.underlying t=some (.slice e)) (hinfo:(P.info? e).map (fun i=>(i.zero,i.size,i.bytes))=some (some z,k,bytes))
  (hzs:z.cells.size=k) (hk:0<k) (us:List Value) (hul:us.length=k) (hu:∀u∈us,u.oneCell'=true) (v:Value) (n:Nat) (xs:List Value) (hs:a.eval s=v) (hx:a.eval x=.slice (W,0) 1 1)
  (hown:W.ownsRow base e k v n xs) (h63:n+1<=maxLen) (hbytes:(n+1)*bytes<=140737488355328) (hbase:base<=W.heap.size)
  (h:∀v' w',w'.ownsRow base e k v' (n+1) (xs++us)->W.grownBy w' v.ownBlock->(v'.ownBlock=v.ownBlock\/∃k,v'.ownBlock=some k/\W.heap.size<=k)->K (a.put o.dst v') w'):Oper.wp P o a (W.alloc (.cells us.toArray e)) K Q:=by
 obtain⟨i0,hi,hz0,hz1,hz2⟩:=info_parts hinfo
 obtain⟨v',w',hrun,r1,r2,r3⟩:=My (P:=P) (W.alloc (.cells us.toArray e)) base t o.type e i0 z k bytes ht hi hz0 hz1 hz2 hzs hk v n xs (hown.alloc _) ⟨W.heap.size,0,none⟩ 1 1 us aF (by
  intro j y hj;have e1:(⟨W.heap.size,0,none⟩:Addr).add j=⟨W.heap.size,j,none⟩:=bn;rw[e1,World.cell?_alloc_new];simpa using hj) hu aI h63 hbytes aL
 unfold Oper.wp;simp[execOp,ho,resolve,invoke,builtin,hs,hx,hrun,Result.andThen];refine h v' w' r1 ?_ ?_
 ·exact gz
 rcases r3 with r3|⟨k,r3,r4⟩
 ·exact .inl r3
 exact .inr ⟨k,r3,by simp at r4;omega⟩
theorem Z6(W:World){ops:Array Oper}{rest:List Oper}{o:Oper}{a:Act}{Q:Exit->Act->World->Prop}(hgd:o.guard=none)(s x:Operand)(t:TypeId)
  (ho:o.op=.call {callee:=.builtin .append,args:=#[s,x],argTypes:=#[t,t]})
  (base:Nat) (e:TypeId) (z:Value) (k bytes:Nat) (ht:P.underlying t=some (.slice e)) (hinfo:(P.info? e).map (fun i=>(i.zero,i.size,i.bytes))=some (some z,k,bytes))
  (hzs:z.cells.size=k) (hk:0<k) (us:List Value) (hul:us.length=k) (hu:∀u∈us,u.oneCell'=true) (v:Value) (n:Nat) (xs:List Value) (hs:a.eval s=v) (hx:a.eval x=.slice (W,0) 1 1)
  (hown:W.ownsRow base e k v n xs) (h63:n+1<=maxLen) (hbytes:(n+1)*bytes<=140737488355328) (hbase:base<=W.heap.size)
  (h:∀v' w',w'.ownsRow base e k v' (n+1) (xs++us)->W.grownBy w' v.ownBlock->(v'.ownBlock=v.ownBlock\/∃k,v'.ownBlock=some k/\W.heap.size<=k)->wpList P ops Q rest (a.put o.dst v') w'):wpList P ops Q (o::rest) a (W.alloc (.cells us.toArray e)):=
 wpList_plain hgd fun K' hK'=>Qr W s x t ho base e z k bytes ht hinfo hzs hk us hul hu v n xs hs hx hown h63 hbytes hbase fun v' w' h1 h2 h3=>hK' _ _ (h v' w' h1 h2 h3)
end
theorem Vt{fs:List Fd}{n:Nat}{f:Fd}(h:Bl fs n=some f):f∈fs:=List.mem_of_find?_eq_some h
theorem Mq{st:UInt8}{f:Fd}(h:S9 st f):f.given.length<=14:=by
 by_cases hs:st=69
 ·rw[(h.2.2.2.1 hs).2];simp
 by_cases hg:f.given=[]
 ·rw[hg];simp
 have:=((h.2.2.2.2 hs).2 hg).2.2
 unfold Bv at this
 split at this
 ·split at this
  ·rename_i n hd
   have:=Br.1 hd
   rw[this.2]
   have:=Di 5 n (by have e:10 ^ (5+1)=1000000:=rfl;omega)
   omega
  cases this
 split at this
 ·simp only[Bool.and_eq_true,decide_eq_true_eq]at this
  have h4:=this.2
  unfold Dk at h4
  simp only[Bool.and_eq_true,decide_eq_true_eq,List.length_dropLast,List.length_drop]at h4
  omega
 split at this
 ·simp only[decide_eq_true_eq]at this;rw[this];simp
 cases this
end Go.Proofs.YtgfmljfjgohdcaaGreatDoor
