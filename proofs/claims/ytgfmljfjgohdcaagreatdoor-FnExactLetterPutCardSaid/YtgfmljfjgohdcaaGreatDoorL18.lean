/- Texts joined. Conditions: as each theorem names them. -/
import Derived.Test.YtgfmljfjgohdcaaGreatDoorL17
set_option maxRecDepth 100000
set_option maxHeartbeats 32000000
set_option linter.unusedVariables false
set_option linter.unusedSimpArgs false
namespace Go.Proofs.YtgfmljfjgohdcaaGreatDoor
open Go.RowKit Go.Proofs.Tryz
def No(p:Cr):List Value:=[p.1,p.2]
theorem Qf0(p:Cr):(No p).length=2:=rfl
theorem Tryz.infoPair:(prog.info? 260).map (fun i=>(i.zero,i.size,i.bytes))=some (some (.agg #[a6,a6]),2,32):=aJ
def Fe(w0:World)(v1 v2:Value)(w:World)(m:List Cr)(mv:Value):Prop:=
 Below w0 w0 w/\w0.heap.size+1<=w.heap.size/\w.cell? (w0,0)=some v1/\w.cell? (w0,1)=some v2/\w.cell? (w0,2)=some mv/\w.there w0 0 3 /\
  w.ownsRow (w0.heap.size+1) 260 2 mv m.length (m.flatMap No)
structure D9(ab:Nat)(mv:Value)(w w':World)(mv':Value):Prop where
 size:w.heap.size<=w'.heap.size
 block:∀b,b<w.heap.size->b≠ab->some b≠mv.ownBlock->w'.heap[b]?=w.heap[b]?
 own:mv'.ownBlock=mv.ownBlock\/∃k,mv'.ownBlock=some k/\w.heap.size<=k
theorem D9.refl(ab:Nat)(mv:Value)(w:World):D9 ab mv w w mv:=⟨Am _,fun _ _ _ _=>rfl,.inl rfl⟩
theorem D9.trans{ab:Nat}{v1 v2 v3:Value}{a b c:World}(h:D9 ab v1 a b v2)(k:D9 ab v2 b c v3):D9 ab v1 a c v3:=by
 refine⟨aa h.size k.size,fun x hx h1 h2=>(k.block x (a8 hx h.size) h1 ?_).trans (h.block x hx h1 h2),?_⟩
 ·rcases h.own with e|⟨y,e,hy⟩
  ·rw[e];exact h2
  rw[e];intro he;injection he with he;omega
 rcases k.own with e|⟨y,e,hy⟩
 ·rw[e];exact h.own
 exact .inr ⟨y,e,aa h.size hy⟩
theorem D9.of_below{ab:Nat}{mv:Value}{w w':World}(h:Below w w w'):D9 ab mv w w' mv:=⟨h.size,fun b hb _ _=>h.block b hb,.inl rfl⟩
theorem D9.cell{ab:Nat}{mv mv':Value}{w w':World}(h:D9 ab mv w w' mv'){b o:Nat}(hb:b<w.heap.size)(h1:b≠ab)(h2:some b≠mv.ownBlock):w'.cell? ⟨b,o,none⟩=w.cell? ⟨b,o,none⟩:=World.cell?_of_block (h.block b hb h1 h2)
theorem D9.range{ab:Nat}{mv mv':Value}{w w':World}(h:D9 ab mv w w' mv'){b o:Nat}{cs:List Value}(hr:w.rangeAt b o cs)(hb:b<w.heap.size)(h1:b≠ab)(h2:some b≠mv.ownBlock):w'.rangeAt b o cs:=fun j v hv=>(h.cell hb h1 h2).trans (hr j v hv)
theorem Fe.size{w0 w:World}{v1 v2 mv:Value}{m:List Cr}(h:Fe w0 v1 v2 w m mv):w0.heap.size<w.heap.size:=h.2.1
theorem Fe.far{w0 w:World}{v1 v2 mv:Value}{m:List Cr}(h:Fe w0 v1 v2 w m mv):∀b,w.heap.size<=b->some b≠mv.ownBlock:=fun b hb e=>by
 have:=(h.2.2.2.2.2.2.lt b e.symm).2;omega
theorem Fe.below{w0 w w':World}{v1 v2 mv:Value}{m:List Cr}(h:Fe w0 v1 v2 w m mv)(hb:Below w w w'):Fe w0 v1 v2 w' m mv:=by
 obtain⟨h1,h2,h3,h4,h5,h6,h7⟩:=h
 exact⟨h1.trans (hb.mono aF),aa h2 hb.size,(hb.cell (p:=⟨w0.heap.size,0,none⟩) (show w0.heap.size<_ by omega)).trans h3,(hb.cell (p:=⟨w0.heap.size,1,none⟩) (show w0.heap.size<_ by omega)).trans h4,
  (hb.cell (p:=⟨w0.heap.size,2,none⟩) (show w0.heap.size<_ by omega)).trans h5,An h6 aF hb,Co h7 hb⟩
theorem Fe.push{w0 w w5:World}{v1 v2 mv mv5:Value}{m:List Cr}{p:Cr}(h:Fe w0 v1 v2 w m mv)(hown:w5.ownsRow (w0.heap.size+1) 260 2 mv5 (m.length+1) (m.flatMap No++No p))(hg:w.grownBy w5 mv.ownBlock)
  (hwh:mv5.ownBlock=mv.ownBlock\/∃k,mv5.ownBlock=some k/\w.heap.size<=k):
  Fe w0 v1 v2 (w5.setCell ⟨w0.heap.size,2,none⟩ mv5) (m++[p]) mv5/\D9 w0.heap.size mv w (w5.setCell ⟨w0.heap.size,2,none⟩ mv5) mv5:=by
 obtain⟨h1,h2,h3,h4,h5,h6,h7⟩:=h;have hb:Below (w0.heap.size+1) w w5:=(Ar _ _).grown hg h2 (fun k hk=>(h7.lt k hk).1);have h6':w5.there w0 0 3:=An h6 (show w0.heap.size<w0.heap.size+1 by omega) hb;have hc:∀j,j≠2->(w5.setCell ⟨w0.heap.size,2,none⟩ mv5).cell? ⟨w0.heap.size,j,none⟩=w.cell? ⟨w0.heap.size,j,none⟩:=fun j hj=>by
  rw[World.cell?_setCell_other _ _ _ _ (by intro e;injection e with e1 e2;omega)];exact hb.cell (p:=⟨w0.heap.size,j,none⟩) (show w0.heap.size<_ by omega)
 refine⟨⟨(h1.trans (hb.mono aF)).setCell (Am _) _,by simp;exact aa h2 hb.size,(hc 0 aI).trans h3,(hc 1 aI).trans h4,?_,ag h6' w0.heap.size 2 [_],?_⟩,?_⟩
 ·have:=a7 w5 w0 2 [mv5] (G7 h6' 2 1 aI aI);exact(by simpa using Ab this 0 rfl:(w5.setCells w0 2 [mv5]).cell? (w0,2)=some mv5)
 ·rw[af,List.flatMap_append];refine World.ownsRow.kept (show w5.ownsRow (w0.heap.size+1) 260 2 mv5 (m.length+[p].length) (m.flatMap No++[p].flatMap No)from by simpa using hown) (Pd w5 _ _) (.inr (fun e=>absurd (show w0.heap.size+1<=w0.heap.size from(hown.lt _ e).1) aF))
 refine⟨by simp;exact hg.size,fun b hb h1 h2=>?_,hwh⟩;rw[Below.heap_setCell _ _ _ _ h1];exact hg.block b hb h2
def Vw(w0:World)(v1 v2:Value)(r:Bool × List Cr)(w:World)(mv:Value)(e:Ending)(w':World):Prop:=e=.returned (.bool r.1)/\∃mv',Fe w0 v1 v2 w' r.2 mv'/\D9 w0.heap.size mv w w' mv'
section
attribute [local go_sem] Qls Qkr Qj4 Qig ByteArray.mk_append_mk
theorem Te{k:Kd}(h:Cs k):Cs k.core/\Be k.core=Bk k:=by
 refine⟨⟨by simp[Kd.core],h.2.1,?_⟩,by simp[Be,Kd.core];rfl⟩;have:=h.2.2;unfold Be Kd.core Bk at *;simp at *;omega
theorem Qfp(xs:List (Ty × Value))(k:Kd):Mu xs k.core=if k.base=[64]then D5 xs k.name else none:=by
 unfold Mu Kd.core;simp
theorem Qbx{w:World}{v:Value}{xs:List (Ty × Value)}(h:Jt w v xs){o:Option (Ty × Value)}(ho:∀x,o=some x->x∈xs):
  ∃(s:Int) (nm:ByteArray) (A:Option Addr) (n c:Nat),Sd o=.tuple #[.agg #[.int .u8 s,.string nm,.slice A n c],.bool o.isSome]/\∀x,o=some x->Kp x.1 x.2=.agg #[.int .u8 s,.string nm,.slice A n c]/\nm=⟨x.1.name.toArray⟩:=by
 obtain⟨_,_,_,_,_,hf⟩:=h;cases o with
 |none=>exact⟨0,⟨#[]⟩,none,0,0,rfl,fun x h=>by cases h⟩
 |some x=>
  obtain⟨A,c,e,_,_⟩:=hf x (ho x rfl);refine⟨(x.1.sort.toNat:Int),⟨x.1.name.toArray⟩,A,x.1.fields.length,c,?_,fun y hy=>?_⟩
  ·show Value.tuple #[.agg #[_,_,x.2],.bool true]=_;rw[e];rfl
  injection hy with hy;subst hy;unfold Kp;rw[e];exact hH
theorem Qez{S T:List Ty}{n:Nat}{a b:Kd}{m:List Cr}(hs:a.signs=b.signs)(ha:Cs a)(hb:Cs b)(h:¬(a.base=[64]/\b.base=[64])):
  H6 S T (n+1) a b m=((Bk a == Bk b) && (!decide (a.base=[64]) && !decide (b.base=[64])),m):=by
 unfold H6;by_cases h1:a.base=[64]
 ·have h2:b.base≠[64]:=fun h2=>h ⟨h1,h2⟩;rw[if_pos (.inr (by rw[h1];exact fun e=>h2 e.symm))];simp[h1]
 by_cases h2:b.base=[64]
 ·rw[if_pos (.inr (by rw[h2];exact h1))];simp[h2]
 have e1:Bk a=a.base:=if_neg h1;have e2:Bk b=b.base:=if_neg h2;by_cases h3:a.base=b.base
 ·rw[if_neg (by simp[hs,h3]),if_pos h1,e1,e2,h3];simp[h2]
 rw[if_pos (.inr h3),e1,e2];simp[h3]
theorem Qc1(w0:World)(v1 v2:Value)(xs ys:List (Ty × Value))(hx:Jt w0 v1 xs)(hy:Jt w0 v2 ys)(n:Nat)(a b:Kd)(m:List Cr)(w:World)(mv:Value)
  (ha:Cs a) (hb:Cs b) (hra:Bq (Af xs) a) (hrb:Bq (Af ys) b) (hm:m.length<=64) (hst:Fe w0 v1 v2 w m mv)
  (ih:∀t fv u gv W mv',(t,fv)∈xs->(u,gv)∈ys->Fe w0 v1 v2 W (m++[(a.name,b.name)]) mv'->Bu (Af xs) a.name=some t->Bu (Af ys) b.name=some u->(a.name,b.name)∉m ->
   Calls prog 228 #[w0.heap.size,Kp t fv,Kp u gv] W (Vw w0 v1 v2 (Yi (Af xs) (Af ys) (H6 (Af xs) (Af ys) n) t u (m++[(a.name,b.name)])) W mv')):
  Calls prog 187 #[w0.heap.size,.string ⟨(Be a).toArray⟩,.string ⟨(Be b).toArray⟩] w (Vw w0 v1 v2 (H6 (Af xs) (Af ys) (n+1) a b m) w mv):=by
 have HF:=Aa (show H6 (Af xs) (Af ys) (n+1) a b m=(if a.signs≠b.signs\/a.base≠b.base then(false,m)
  else if a.base≠[64]then(true,m)
  else match Bu (Af xs) a.name,Bu (Af ys) b.name with
   |some t,some u=>if (a.name,b.name)∈m then(true,m)else Yi (Af xs) (Af ys) (H6 (Af xs) (Af ys) n) t u (m++[(a.name,b.name)])
   |_,_=>(false,m))from by rw[H6]<;>rfl)
 have Hca:=Aa (fun W=>Ku a ha W);have Hcb:=Aa (fun W=>Ku b hb W);have Hst:=Aa hst;have Hx:=Aa hx;have Hy:=Aa hy;have Ih:=Aa ih;obtain⟨A1,c1,rfl,hxl,_⟩:=hx;obtain⟨A2,c2,rfl,hyl,_⟩:=hy;obtain⟨A3,n3,c3,rfl⟩:=Jy hst.2.2.2.2.2.2;have hla:=ha.2.2;have hlb:=hb.2.2;have ea:Be a=a.signs++Bk a:=rfl;have eb:Be b=b.signs++Bk b:=rfl;rw[ea]at Hca hla ⊢;rw[eb]at Hcb hlb ⊢;simp only[af]at hla hlb;have hw1:IntKind.i64.wrap (a.signs.length:Int)=a.signs.length:=IntWalk.i64_in _ ⟨by omega,by omega⟩;have hw2:IntKind.i64.wrap (b.signs.length:Int)=b.signs.length:=IntWalk.i64_in _ ⟨by omega,by omega⟩;clear hst ih ea eb;go_enter func187,ntmps187;go_wp2_with fail;refine(Hca.o _).mono ?_;rintro e w1 ⟨rfl,rfl⟩;go_wp2_with fail;refine(Hcb.o _).mono ?_;rintro e w1 ⟨rfl,rfl⟩;go_wp2_with fail;obtain⟨sb,hsb⟩:∃sb,(!(a.signs == b.signs))=sb:=⟨_,rfl⟩
 refine M0 [19,20,21,22,23,24,25,26,27,28,29,30,31,32,33]
  (fun i v W=>match i with|0=>v=.string ⟨(a.signs++Bk a).toArray⟩|1=>v=.string ⟨(a.signs++Bk a).toArray⟩|2=>v=.int .i64 ((a.signs.length:Int)+((Bk a).length:Int))|3=>v=.string ⟨(Bk a).toArray⟩|4=>v=.int .i64 ((Bk a).length:Int)|5=>v=(a.signs.length:Int)|6=>v=a.signs|7=>v=.string ⟨(b.signs++Bk b).toArray⟩|8=>v=.string ⟨(b.signs++Bk b).toArray⟩|9=>v=.int .i64 ((b.signs.length:Int)+((Bk b).length:Int))|10=>v=.string ⟨(Bk b).toArray⟩|11=>v=.int .i64 ((Bk b).length:Int)|12=>v=(b.signs.length:Int)|13=>v=b.signs|14=>v=.bool sb|_=>True)
  (fun L U W=>∃q,W=w.drewN q) (⟨1,rfl⟩) ?_ ?_
 ·repeat (first|exact Ap.nil|(refine Ap.cons ?_ ?_;rotate_left))
  all_goals
   rintro L U W hL hpre HR Hdep K hK;obtain⟨q,rfl⟩:=HR.o;first|(simp[Region.binds]at hpre;done)|simp[Region.binds]at hpre|clear hpre
  iterate 6
   ·exact fZ
  ·exact gD
  iterate 6
   ·exact fZ
  ·exact gD
  ·exact fZ
 rintro L U W hL hφ hR;have e14:U 14=.bool sb:=hφ 14 aI;simp only[e14];clear hφ;obtain⟨q,rfl⟩:=hR;have Hstq:=Aa (Hst.o.below (below_drewN (Ar _ _) q));have Hkq:=Aa (D9.of_below (ab:=w0.heap.size) (mv:=.slice A3 n3 c3) (below_drewN (Ar w.heap.size w) q));obtain⟨_,hsz,y0,y1,y2,_,_⟩:=Hstq.o;clear hL;have Hsb:=Aa hsb;clear hsb;cases sb with
 |true=>
  have HF1:=Aa (HF.o.trans (if_pos (.inl (by have:=Hsb.o;simpa using this))));go_wp2_with fail;go_ret;rw[HF1.o];exact⟨rfl,_,Hstq.o,Hkq.o⟩
 |false=>
  have hsg:a.signs=b.signs:=by have:=Hsb.o;simpa using this
  have Hsg:=Aa hsg;have Hra:=Aa (fun W (h:Jt W (.slice A1 xs.length c1) xs)=>(Te ha).2 ▸ Gc _ xs a.core W h (Te ha).1);have Hrb:=Aa (fun W (h:Jt W (.slice A2 ys.length c2) ys)=>(Te hb).2 ▸ Gc _ ys b.core W h (Te hb).1);rw[Qfp]at Hra Hrb;clear hsg;go_wp2_with fail
  have Hoa:=Aa (show ((if a.base=[64]then D5 xs a.name else none).isSome=decide (a.base=[64]))/\∀x,(if a.base=[64]then D5 xs a.name else none)=some x->a.base=[64]/\D5 xs a.name=some x from by
   by_cases h:a.base=[64]
   ·have:=hra h;exact iw
   rw[if_neg h];exact⟨by simp[h],fun x hx=>by cases hx⟩)
  have Hob:=Aa (show ((if b.base=[64]then D5 ys b.name else none).isSome=decide (b.base=[64]))/\∀x,(if b.base=[64]then D5 ys b.name else none)=some x->b.base=[64]/\D5 ys b.name=some x from by
   by_cases h:b.base=[64]
   ·have:=hrb h;exact iw
   rw[if_neg h];exact⟨by simp[h],fun x hx=>by cases hx⟩)
  generalize (if a.base=[64]then D5 xs a.name else none)=oa at Hra Hoa;generalize (if b.base=[64]then D5 ys b.name else none)=ob at Hrb Hob;obtain⟨s1,nm1,A4,n4,c4,e1,f1⟩:=Qbx Hx.o (o:=oa) (fun x h=>(Dr (Hoa.o.2 x h).2).1);obtain⟨s2,nm2,A5,n5,c5,e2,f2⟩:=Qbx Hy.o (o:=ob) (fun x h=>(Dr (Hob.o.2 x h).2).1);have F1:=Aa f1;have F2:=Aa f2;rw[e1,Hoa.o.1]at Hra;rw[e2,Hob.o.1]at Hrb;have Hpl:=Aa (fun(h:¬(a.base=[64]/\b.base=[64]))=>Qez (S:=Af xs) (T:=Af ys) (n:=n) (m:=m) Hsg.o ha hb h);have Hpab:=Aa (fun h1 h2=>(⟨of_decide_eq_true h1,of_decide_eq_true h2⟩:a.base=[64]/\b.base=[64]));have Hpno:=Aa (fun(h:decide (a.base=[64])=false\/decide (b.base=[64])=false)=>show ¬(a.base=[64]/\b.base=[64])from fun e=>by rcases h with h|h<;>simp[e.1,e.2]at h);clear f1 f2 e1 e2;generalize decide (a.base=[64])=pa at *;generalize decide (b.base=[64])=pb at *;obtain⟨xy,hxy⟩:∃xy,(Bk a == Bk b)=xy:=⟨_,rfl⟩
  rw[hxy]at Hpl;go_wp2_with fail;refine(Hra.o _ (Hx.o.below Hstq.o.1)).mono ?_;rintro e w2 ⟨rfl,hb2⟩;have Hst2:=Aa (Hstq.o.below hb2);have Hk2:=Aa (Hkq.o.trans (D9.of_below (ab:=w0.heap.size) (mv:=.slice A3 n3 c3) hb2));have z0:w2.cell? (w0,0)=some (.slice A1 xs.length c1):=Hst2.o.2.2.1;have z1:w2.cell? (w0,1)=some (.slice A2 ys.length c2):=Hst2.o.2.2.2.1;have hz2:w0.heap.size<w2.heap.size:=Hst2.o.size;have hn2:¬(w0.heap.size=w2.heap.size):=aF;clear hb2;go_wp2_with fail;refine(Hrb.o _ (Hy.o.below (Hst2.o.1.alloc aF _))).mono ?_;rintro e w4 ⟨rfl,hb4⟩;have Hst4:=Aa ((Hst2.o.below ((Ar _ _).alloc (Am _) _)).below hb4);have Hk4:=Aa ((Hk2.o.trans (D9.of_below (ab:=w0.heap.size) (mv:=.slice A3 n3 c3) ((Ar _ _).alloc (Am _) _))).trans (D9.of_below (ab:=w0.heap.size) (mv:=.slice A3 n3 c3) hb4));have hz4:w2.heap.size<w4.heap.size:=dE;have n0:w4.cell? (w2,1)=some (.string nm1):=by rw[hb4.cell (p:=⟨w2.heap.size,1,none⟩) aH];simp
  have hn4:¬(w0.heap.size=w4.heap.size):=aF;have hn5:¬(w2.heap.size=w4.heap.size):=aF;have Hwz:=Aa Hk2.o.size;have X9:=@Aa (w4.rangeAt w2 0 [.int .u8 s1,.string nm1,.slice A4 n4 c4]) (Ah (Bo w2 [.int .u8 s1,.string nm1,.slice A4 n4 c4] _) aH hb4);clear hb4 z0 z1;cases pa with
  |false=>
   have HF2:=Aa (Hpl.o (Hpno.o (.inl rfl)));cases xy with
   |false=>
    go_wp2_with fail;exact iy
   |true=>cases pb with
    |false=>
     go_wp2_with fail;exact iy
    |true=>
     go_wp2_with fail;exact iy
  |true=>cases pb with
   |false=>
    have HF2:=Aa (Hpl.o (Hpno.o (.inr rfl)));cases xy with
    |false=>
     go_wp2_with fail;exact iy
    |true=>
     go_wp2_with fail;exact iy
   |true=>
    go_wp2_with fail;have hab:=(by first|exact Hpab.o rfl rfl|exact Hpab.o Ac Ac:a.base=[64]/\b.base=[64])
    obtain⟨x,hxo⟩:∃x,oa=some x:=by
     have:=Hoa.o.1;cases oa with
     |none=>cases this
     |some x=>exact⟨x,rfl⟩
    obtain⟨y,hyo⟩:∃y,ob=some y:=by
     have:=Hob.o.1;cases ob with
     |none=>cases this
     |some y=>exact⟨y,rfl⟩
    obtain⟨t,tv⟩:=x;obtain⟨u,uv⟩:=y;obtain⟨g1,g2⟩:=F1.o _ hxo;obtain⟨g3,g4⟩:=F2.o _ hyo;simp only[]at g1 g2 g3 g4;have hxf:=(Hoa.o.2 _ hxo).2;have hyf:=(Hob.o.2 _ hyo).2;have Hxm:=Aa (Dr hxf);have Hym:=Aa (Dr hyf);rw[show t.name=a.name from Hxm.o.2.1]at g2;rw[show u.name=b.name from Hym.o.2.1]at g4;subst g2 g4;have G1:=Aa g1;have G3:=Aa g3
    have HF2:=Aa (show H6 (Af xs) (Af ys) (n+1) a b m=if (a.name,b.name)∈m then(true,m)else Yi (Af xs) (Af ys) (H6 (Af xs) (Af ys) n) t u (m++[(a.name,b.name)])from by
     rw[HF.o,if_neg (by rw[hab.1,hab.2];simp[Hsg.o]),if_neg (by rw[hab.1];simp),Hxm.o.2.2,Hym.o.2.2])
    clear g1 g3 hxo hyo hxf hyf hab;obtain⟨W6,hW6⟩:∃W6,W6=(w4.alloc (.cells #[.int .u8 s2,b.name,.slice A5 n5 c5] 153)).alloc (.cells #[a.name,b.name] 260):=⟨_,rfl⟩
    rw[<-hW6];have Hb6:=@Aa (Below w4 w4 W6) (by rw[hW6];exact((Ar _ _).alloc (Am _) _).alloc aH _);have Hst6:=Aa (Hst4.o.below Hb6.o);have Hk6:=Aa (Hk4.o.trans (D9.of_below (ab:=w0.heap.size) (mv:=.slice A3 n3 c3) Hb6.o));have X9':=Aa (Ah X9.o hz4 Hb6.o);have X11:=@Aa (W6.rangeAt w4 0 [.int .u8 s2,b.name,.slice A5 n5 c5]) (by rw[hW6];exact Ah (Bo w4 [.int .u8 s2,b.name,.slice A5 n5 c5] _) (Nat.lt_succ_self _) ((Ar _ _).alloc aH _));have p0:W6.cell? (w4,1,0)=a.name:=by rw[hW6];simp[go_sem]
    have p1:W6.cell? (w4,1,1)=b.name:=by rw[hW6];simp[go_sem]
    have hz6:w4.heap.size+1<W6.heap.size:=by rw[hW6];simp
    have Hrow:=Aa (Cd.ownK Hst6.o.2.2.2.2.2.2 aY);have y2':W6.cell? (w0,2)=some (.slice A3 n3 c3):=Hst6.o.2.2.2.2.1;obtain rfl:n3=m.length:=by
     obtain⟨A,c,e,_⟩:=Hrow.o;injection e
    clear hW6 y0 y1 y2 n0;go_loopw [14] (fun i wr=>∃j:Nat,i=.int .i64 j/\j<=m.length/\(∃q,wr=W6.drewN q)/\Hid ((a.name,b.name)∉m.take j)) (fun i _=>m.length - (intOf i).toNat)
    case atStart=>exact⟨0,rfl,ae _,⟨0,rfl⟩,by simp[Hid]⟩
    case round=>
     obtain⟨j,rfl,hj,⟨q6,rfl⟩,hin⟩:=hrel;have j1:(0:Int)<=(j:Int):=aF;by_cases hlt:j<m.length
     ·have j2:(j:Int)<(m.length:Int):=aF;obtain⟨A,c,e3,hra⟩:=Hrow.o;have hA:A3=A:=by injection e3
      have hc:c3=c:=by injection e3
      subst hA hc;clear e3;obtain⟨bb,off,rfl,hbb,hcc⟩:=Cd.elem Qf0 aI hra hlt;have r0:=hcc 0 _ rfl;have r1:=hcc 1 _ rfl;simp only[Nat.add_zero,<-Nat.add_assoc]at r0 r1;have Hts:=Aa (By m j hlt);have Hpm:=Aa (ac hlt);generalize m[j]=pj at r0 r1 Hts Hpm;clear hra hcc;obtain⟨be,hbe⟩:∃be,decide (pj=(a.name,b.name))=be:=⟨_,rfl⟩
      go_wp2_with fail;refine M0 [83,84,85,86,87,88,89,90,91]
       (fun i v W=>match i with|0=>v=w0.heap.size|1=>v=w0.heap.size|2=>v=(w0,2)|3=>v=.slice (some ⟨bb,off,none⟩) m.length c3|4=>v=.int .i64 j|5=>v=.pointer (some ⟨bb,off+j*2,none⟩)|6=>v=.agg #[pj.1,pj.2]|7=>v=.agg #[a.name,b.name]|8=>v=.bool be|_=>True)
       (fun L U W=>∃q,W=W6.drewN q) (⟨q6+1,rfl⟩) ?_ ?_
      ·repeat (first|exact Ap.nil|(refine Ap.cons ?_ ?_;rotate_left))
       all_goals
        rintro L U W hL hpre HR Hdep K hK;obtain⟨q,rfl⟩:=HR.o;first|(simp[Region.binds]at hpre;done)|simp[Region.binds]at hpre|clear hpre
       iterate 8
        ·exact fD
       ·go_simp;by_cases h1:pj.1=a.name
        ·by_cases h2:pj.2=b.name
         ·obtain rfl:be=true:=by rw[<-hbe];exact aB (Prod.ext h1 h2)
          rw[if_pos h1,if_pos h2];go_simp;exact hK _ _ _ rfl Ac HR.o (by simp[Act.put,hpre,h1,h2])
         obtain rfl:be=false:=by rw[<-hbe];exact aA (fun e=>h2 (by rw[e]))
         rw[if_pos h1,if_neg h2];go_simp;exact hK _ _ _ rfl Ac HR.o (by simp[Act.put,hpre,h1])
        obtain rfl:be=false:=by rw[<-hbe];exact aA (fun e=>h1 (by rw[e]))
        rw[if_neg h1];go_simp;exact kF hK HR.o
      rintro L U W hL hφ hR;have e8:U 8=.bool be:=hφ 8 aI;simp only[e8];clear hφ;obtain⟨q7,rfl⟩:=hR;have Hbe:=Aa hbe;clear hL hbe;cases be with
      |true=>
       have Hmem:=@Aa ((a.name,b.name)∈m) (by have:=of_decide_eq_true Hbe.o;rw[<-this];exact Hpm.o);have Hfin:=Aa (HF2.o.trans (if_pos Hmem.o));go_wp2_with fail;go_ret;rw[Hfin.o];exact⟨rfl,_,Hst6.o.below (below_drewN (Ar _ _) q7),Hk6.o.trans (D9.of_below (below_drewN (Ar _ _) q7))⟩
      |false=>
       have Hnin:=Aa (show (a.name,b.name)∉m.take (j+1)from by
        rw[Hts.o];intro h;rcases ad.1 h with h|h
        ·exact hin.o h
        exact of_decide_eq_false Hbe.o (an.1 h).symm)
       go_wp2_with fail;go_roundw
       case rel=>exact⟨j+1,by go_num,by omega,⟨q7,rfl⟩,Hnin.o⟩
       case measure=>simp[intOf];omega
     ·have Hnin:=@Aa ((a.name,b.name)∉m) (by have:=hin.o;rwa [aq aF]at this);have Hfin:=Aa (HF2.o.trans (if_neg Hnin.o));go_wp2_with fail;obtain⟨W7,hW7⟩:∃W7,W7=(W6.drewN q6).drew:=⟨_,rfl⟩
      have Hb7:=@Aa (Below W6 W6 W7) (by rw[hW7];exact(below_drewN (Ar _ _) q6).drew);have Hst7:=Aa (Hst6.o.below Hb7.o);have Hk7:=Aa (Hk6.o.trans (D9.of_below Hb7.o));have y27:W7.cell? (w0,2)=some (.slice A3 m.length c3):=Hst7.o.2.2.2.2.1;have p07:W7.cell? (w4,1,0)=a.name:=(Hb7.o.cell (p:=⟨w4.heap.size+1,0,none⟩) hz6).trans p0;have p17:W7.cell? (w4,1,1)=b.name:=(Hb7.o.cell (p:=⟨w4.heap.size+1,1,none⟩) hz6).trans p1;have hz7:W6.heap.size<=W7.heap.size:=Hb7.o.size;have X9b:=Aa (Ah X9'.out (show w2.heap.size<W6.heap.size by omega) Hb7.o);have X11b:=Aa (Ah X11.o (show w4.heap.size<W6.heap.size by omega) Hb7.o);have HW7:=Aa hW7;clear y2' p0 p1 hW7;refine Bb [92,93,94,95,96,97,98,99,100,101,999] aJ aJ aJ (fun u=>by dsimp only[Bp,Bh,List.set,aj,Nat.reduceAdd])
       (fun i v W=>match i with|0=>v=w0.heap.size|1=>v=w0.heap.size|2=>v=w0.heap.size|3=>v=(w0,2)|4=>v=.slice A3 m.length c3|5=>v=.agg #[a.name,b.name]|6=>v=.slice (some ⟨W7.heap.size,0,none⟩) 1 1|7=>∃A n c,v=.slice A n c|8=>v=w0.heap.size|9=>v=(w0,2)|_=>True)
       (fun L U W=>(L 6=false->W=W7)/\(L 6=true->L 7=false->W=W7.alloc (.cells ([a.name,b.name]:List Value).toArray 260)) /\
      (L 7=true->L 10=false->W.ownsRow (w0.heap.size+1) 260 2 (U 7) (m.length+1) (m.flatMap No++No (a.name,b.name))/\W7.grownBy W (Value.slice A3 m.length c3).ownBlock/\((U 7).ownBlock=(Value.slice A3 m.length c3).ownBlock\/∃k,(U 7).ownBlock=some k/\W7.heap.size<=k)) /\
      (L 10=true->∃mv5,Fe w0 (.slice A1 xs.length c1) (.slice A2 ys.length c2) W (m++[(a.name,b.name)]) mv5/\D9 w0.heap.size (.slice A3 m.length c3) W7 W mv5)) (fun _ _=>True) (fun _ _ _ _ _ h=>h) (⟨fun _=>HW7.o.symm,(fun h=>Bool.noConfusion h),(fun h=>Bool.noConfusion h),(fun h=>Bool.noConfusion h)⟩) ?_ ?_
      ·repeat (first|exact Ap.nil|(refine Ap.cons ?_ ?_;rotate_left))
       all_goals
        rintro L U W hL hpre hR hun hdep K hK;have HR:=Aa hR;obtain⟨R1,R2,R3,R4⟩:=HR.o;have Hdep:=Aa hdep;clear hun hdep hR;first|(simp[Region.binds]at hpre;done)|simp[Region.binds]at hpre|clear hpre
       iterate 4
        ·exact fD
       ·have h7:L 7=false:=Dn Hdep.o 7 4 rfl hL;cases h6:L 6 with
        |false=>
         exact iz
        |true=>
         obtain rfl:=R2 h6 h7;have y2a:(W7.alloc (.cells ([a.name,b.name]:List Value).toArray 260)).cell? (w0,2)=some (.slice A3 m.length c3):=by rw[World.cell?_alloc_old _ _ _ (show w0.heap.size≠W7.heap.size by omega)];exact y27
         exact iA
       ·have h6:L 6=false:=Dn Hdep.o 6 5 rfl hL;exact iz
       ·have h7:L 7=false:=Dn Hdep.o 7 6 rfl hL;obtain rfl:=R1 hL;go_simp;refine hK _ _ _ rfl Ac ⟨fun h=>by simp at h,fun _ _=>rfl,fun h=>absurd (h7.symm.trans aV) aI,fun h=>?_⟩ aG;exact absurd ((Hdep.o 10 _ rfl {on:=6,ground:=Ground.phase} aH d9 hL).symm.trans aV) aI
       ·obtain⟨⟨l4,u4⟩,l6,u6⟩:=hpre;obtain rfl:=R2 l6 hL;rw[if_pos d9];refine Qr W7 (.tmp 96) (.tmp 98) 229 rfl (w0.heap.size+1) 260 (.agg #[a6,a6]) 2 32 underlying229 Tryz.infoPair rfl aI (No (a.name,b.name)) rfl (by intro y hy;simp[No]at hy;rcases hy with rfl|rfl<;>rfl) (.slice A3 m.length c3) m.length (m.flatMap No) u4 u6 Hst7.o.2.2.2.2.2.2 aY aF aF ?_;intro v' w' hown hg hwh;obtain⟨A5',n5',c5',rfl⟩:=Jy hown;refine hK _ _ _ ⟨A5',n5',c5',rfl⟩ Ac ⟨fun h=>absurd (l6.symm.trans aV) aI,fun _ h=>by simp at h,fun _ _=>⟨hown,hg,hwh⟩,fun h=>?_⟩ rfl;exact absurd ((Hdep.o 10 _ rfl {on:=7,ground:=Ground.phase} aH d9 hL).symm.trans aV) aI
       iterate 2
        ·exact fD
       ·obtain⟨l7,A5',n5',c5',u7⟩:L 7=true/\∃A n c,U 7=.slice A n c:=by
         first|exact hpre.1|exact hpre.2.1|exact⟨hpre.1.1,hpre.1.2⟩|exact⟨hpre.2.1.1,hpre.2.1.2⟩
        have hpre6:L 6=true:=by
         cases h6:L 6 with
         |true=>rfl
         |false=>
          have:=Dn Hdep.o 7 6 rfl h6;rw[l7]at this;cases this
        obtain⟨hown,hg,hwh⟩:=R3 l7 hL;rw[u7]at hown hwh;have hb8:Below (w0.heap.size+1) W7 W:=(Ar _ _).grown hg aF (fun k hk=>(Hst7.o.2.2.2.2.2.2.lt k hk).1);have hT8:=An Hst7.o.2.2.2.2.2.1 (show w0.heap.size<w0.heap.size+1 by omega) hb8;have f8:W.frozen? (w0,2)=false:=(by simpa using(hT8 2 aI).2)
        obtain⟨x8,hx8⟩:=Option.isSome_iff_exists.1 ((by simpa using(hT8 2 aI).1:(W.cell? (w0,2)).isSome=true));have HP:=Aa (Fe.push (p:=(a.name,b.name)) Hst7.o hown hg hwh);clear hown hg hwh hb8 hT8 R1 R2 R3 R4;go_simp;refine hK undef _ _ Ac Ac ⟨fun h=>absurd (hpre6.symm.trans aV) aI,fun _ h=>absurd (l7.symm.trans aV) aI,fun _ h=>by simp at h,fun _=>⟨_,HP.o⟩⟩ (by simp[Act.put,hpre,u7])
      rintro L U W hL hφ hR;clear hφ;obtain⟨mv5,hst8,hk8⟩:=hR.2.2.2 (hL 10 aI);have x9:=D9.range hk8 X9b.o (show w2.heap.size<W7.heap.size by omega) (show w2.heap.size≠w0.heap.size by omega) (Hst.o.far _ Hwz.o);have x11:=D9.range hk8 X11b.o (show w4.heap.size<W7.heap.size by omega) (show w4.heap.size≠w0.heap.size by omega) (Hst.o.far _ (by have:=Hwz.o;omega));have a0:W.cell? (w2,0)=some (.int .u8 s1):=by simpa using Ab x9 0 rfl
      have a1:W.cell? (w2,1)=a.name:=by simpa using Ab x9 1 rfl
      have a2:W.cell? (w2,2)=some (.slice A4 n4 c4):=by simpa using Ab x9 2 rfl
      have d0:W.cell? (w4,0)=some (.int .u8 s2):=by simpa using Ab x11 0 rfl
      have d1:W.cell? (w4,1)=b.name:=by simpa using Ab x11 1 rfl
      have d2:W.cell? (w4,2)=some (.slice A5 n5 c5):=by simpa using Ab x11 2 rfl
      have Hcall:=Ih.o t tv u uv W mv5 Hxm.o.1 Hym.o.1 hst8 Hxm.o.2.2 Hym.o.2.2 Hnin.o;rw[G1.o,G3.o]at Hcall;generalize Yi (Af xs) (Af ys) (H6 (Af xs) (Af ys) n) t u (m++[(a.name,b.name)])=r at *;have Hc:=Aa Hcall;have Hk8:=Aa (Hk7.o.trans hk8);clear hL hR hst8 hk8 x9 x11 Hcall;go_wp2_with fail;refine Hc.o.mono ?_;rintro e w9 ⟨rfl,mv9,hst9,hk9⟩;have Hst9:=Aa hst9;have Hk9:=Aa (Hk8.o.trans hk9);clear hst9 hk9;go_wp2_with fail;go_ret;rw[Hfin.o];exact⟨rfl,mv9,Hst9.o,Hk9.o⟩
end
end Go.Proofs.YtgfmljfjgohdcaaGreatDoor
