/- Texts joined. Conditions: as each theorem names them. -/
import Derived.Test.YtmmhmlmfhpfgbaaGreatDoorF39
set_option maxRecDepth 100000
set_option maxHeartbeats 32000000
set_option linter.unusedVariables false
set_option linter.unusedSimpArgs false
namespace Go.Proofs.YtmmhmlmfhpfgbaaGreatDoor
open Go.RowKit Go.Proofs.Tryz
section
attribute [local go_sem] Qoe Qnf Qmu Qk2 ByteArray.mk_append_mk
theorem Q5.range0{w0:World}{x:PT}(h:P8 w0 x):∃A c,w0.cell? (x.blk,2)=some (.slice A x.ty.fields.length c)/\∀i (hi:i<x.ty.fields.length),∃b off,A=some ⟨b,off,none⟩/\b<w0.heap.size/\w0.rangeAt b (off+i*6) (Rt x.ty.fields[i]):=by
 obtain⟨_,_,_,_,z3,_,A,c,hfv,_,hr⟩:=h;rw[hfv]at z3;exact⟨A,c,z3,fun i hi=>Q5.range hr hi⟩
theorem Qff(w0:World)(p1 p2:Value)(xs ys:List PT)(hx:Sd w0 p1 xs)(hy:Sd w0 p2 ys)(hS:G7 (Ag xs))(hT:G7 (Ag ys))(n:Nat)(x y:PT)(hxm:x∈xs)(hym:y∈ys)
  (ih:∀a b m w,Ck a->Ck b->B6 (Ag xs) a->B6 (Ag ys) b->Kt (Ag xs) (Ag ys) m->64<n+m.length->Fc w0 p1 p2 w m ->
   Calls prog 168 #[(w0,1,0),D9 a,D9 b] w (Tw w0 p1 p2 (J2 (Ag xs) (Ag ys) n a b m) w))
  (m:List C9) (hm:Kt (Ag xs) (Ag ys) m) (hn:64<n+1+m.length) (hml:m.length<=64) (w:World) (hst:Fc w0 p1 p2 w m):
  Calls prog 211 #[(w0,1,0),x.blk,y.blk] w (Tw w0 p1 p2 (evP (Ag xs) (Ag ys) (J2 (Ag xs) (Ag ys) n) x.ty y.ty m) w):=by
 have HF:=@Aa (evP (Ag xs) (Ag ys) (J2 (Ag xs) (Ag ys) n) x.ty y.ty m=if (x.ty.name,y.ty.name)∈m then(true,m)else evT (Ag xs) (Ag ys) (J2 (Ag xs) (Ag ys) n) x.ty y.ty (m++[(x.ty.name,y.ty.name)])) rfl;have Hst:=Aa hst;have Hx:=Aa hx;have Hy:=Aa hy;have Ih:=Aa ih;have HS:=Aa hS;have HT:=Aa hT;have Hgr:=Aa (Nu (Ag xs) (Ag ys) n);have hxt':x.ty∈Ag xs:=ap (f:=(·.ty)) hxm;have hyt':y.ty∈Ag ys:=ap (f:=(·.ty)) hym;have Hto:=Aa (hS.1.1 x.ty hxt');have Huo:=Aa (hT.1.1 y.ty hyt');have Htk:=Aa (hS.2.1 x.ty hxt');have Huk:=Aa (hT.2.1 y.ty hyt');have hnx:x.ty.name∈Fu (Ag xs):=ap (f:=(·.name)) hxt';have hny:y.ty.name∈Fu (Ag ys):=ap (f:=(·.name)) hyt';have hyf8:y.ty.fields.length<=8:=Huo.o.2.2.2.1;have hl1:=(Ds.1 Hto.o.2.1).2.1;have hl2:=(Ds.1 Huo.o.2.1).2.1
 have Hmlen:=Aa (show ∀q∈m,q.1.length<=100/\q.2.length<=100 from fun q hq=>by
  obtain⟨h1,h2⟩:=hm.2 q hq;obtain⟨t1,ht1,e1⟩:=ax.1 h1;obtain⟨t2,ht2,e2⟩:=ax.1 h2;have a1:=(Ds.1 (hS.1.1 t1 ht1).2.1).2.1;have a2:=(Ds.1 (hT.1.1 t2 ht2).2.1).2.1;rw[<-e1,<-e2];exact⟨by omega,by omega⟩)
 have Hm:=Aa hm;obtain⟨pb1,_,_,mb1,rfl,_,_,_,_,_,htx,_⟩:=hx;obtain⟨pb2,_,_,mb2,rfl,_,_,_,_,_,hty,_⟩:=hy;have Htx:=Aa (htx x hxm);have Hty:=Aa (hty y hym);have hsz:=hst.2.1;have Hb:=Aa hst.1;have Hxl0:=Aa Htx.o.1;have Hyl0:=Aa Hty.o.1;have Hxl:=@Aa (x.blk<w.heap.size) (ac Htx.o.1 Hb.o.size);have Hyl:=@Aa (y.blk<w.heap.size) (ac Hty.o.1 Hb.o.size);have X1:=@Aa (w.cell? (x.blk,1)=x.ty.name) ((Hb.o.cell (p:=⟨x.blk,1,none⟩) Htx.o.1).trans Htx.o.2.2.2.1);have Y1:=@Aa (w.cell? (y.blk,1)=y.ty.name) ((Hb.o.cell (p:=⟨y.blk,1,none⟩) Hty.o.1).trans Hty.o.2.2.2.1);clear hst ih hS hT hm hxm hym htx hty hxt' hyt';go_enter func211,ntmps211;go_wp2_with fail;refine Jd [11,12,13,14,15,16,17,18,19,7,999]
  (fun i v W=>match i with|0=>v=x.blk|1=>v=x.blk|2=>v=(x.blk,1)|3=>v=x.ty.name|4=>v=y.blk|5=>v=y.blk|6=>v=(y.blk,1)|7=>v=y.ty.name|8=>v=.agg #[x.ty.name,y.ty.name]|9=>∃b,v=.pointer (some ⟨b,0,none⟩)|_=>True)
  (fun L U W=>Below w w W/\(L 9=true->∃b7,U 9=.pointer (some ⟨b7,0,none⟩)/\w.heap.size<=b7/\b7<W.heap.size/\W.there b7 0 2/\(L 10=true->W.rangeAt b7 0 [x.ty.name,y.ty.name]))) (⟨(Ao _ _).drew,fun h=>Bool.noConfusion h⟩) ?_ ?_
 ·repeat (first|exact Ak.nil|(refine Ak.cons ?_ ?_;rotate_left))
  all_goals
   rintro L U W hL hpre HR Hdep K hK;obtain⟨R1,R2⟩:=HR.o;have c1:W.cell? (x.blk,1)=x.ty.name:=(R1.cell (p:=⟨x.blk,1,none⟩) Hxl.o).trans X1.o;have c2:W.cell? (y.blk,1)=y.ty.name:=(R1.cell (p:=⟨y.blk,1,none⟩) Hyl.o).trans Y1.o;first|(simp[Region.binds]at hpre;done)|simp[Region.binds]at hpre|clear hpre
  iterate 9
   ·exact hD
  ·have h10:L 10=false:=Bb Hdep.o 10 9 rfl hL;go_simp;refine hK _ _ _ ⟨_,rfl⟩ Ac ⟨R1.alloc R1.size _,fun _=>⟨W.heap.size,rfl,R1.size,by simp,Bz W [a6,a6] _,fun h=>absurd (h10.symm.trans aR) aJ⟩⟩ (by simp[Act.put])
  ·obtain⟨l9,b9,u9⟩:L 9=true/\∃b,U 9=.pointer (some ⟨b,0,none⟩):=by
    first|exact hpre.1|exact hpre.2|exact hpre.2.1|exact⟨hpre.1.1,hpre.1.2⟩
   obtain⟨b7,hu,h1,h2,h3,_⟩:=R2 l9;have u8:U 8=.agg ([x.ty.name,y.ty.name]:List Value).toArray:=by first|exact hpre.1.2|exact hpre.2.1.2|exact hpre.2.2
   rw[if_pos cr];refine wp_store_mid 271 _ _ rfl b7 0 ([x.ty.name,y.ty.name]:List Value).toArray hu u8 h3 aN bh ?_;exact hK undef _ _ Ac Ac ⟨Ai _ h1 _ _ _ R1,fun _=>⟨b7,hu,h1,by rw[Ch];exact h2,ai h3 _ _ _,fun _=>aa _ _ _ _ h3⟩⟩ rfl
 rintro L U W hL hφ hR;clear hφ;obtain⟨hbw,hR2⟩:=hR;obtain⟨b7,u7,hb7,hb7l,_,hrg⟩:=hR2 (hL 9 aJ);have hrg:=hrg (hL 10 aJ);obtain⟨W1,hW1⟩:∃W1,W1=W:=⟨_,rfl⟩
 rw[<-hW1]at hbw hb7l hrg ⊢;simp only[u7];have Hb1:=Aa hbw;have Hst1:=Aa (Hst.o.below hbw);have k0:W1.cell? ⟨b7,0,none⟩=x.ty.name:=Ab hrg 0 rfl;have k1:W1.cell? ⟨b7,1,none⟩=y.ty.name:=Ab hrg 1 rfl;have e2:W1.cell? (w0,1,2)=some (.map (some w0.heap.size)):=Hst1.o.2.2.2.2.1;have Hky:=Aa (Tryz.keyPair (a:=x.ty.name) (b:=y.ty.name) aH aH);obtain⟨inm,hinm⟩:∃inm,decide ((x.ty.name,y.ty.name)∈m)=inm:=⟨_,rfl⟩
 have Hlook:=Aa (fun q=>show (Instr.lookup 163 (.map (some w0.heap.size)) (.agg #[x.ty.name,y.ty.name]) false).run prog (W1.drewN q)=.ok (.bool inm) (W1.drewN q)from by
  have:=Dp.lookup (Dp.below Hst1.o.2.2.2.2.2 (below_drewN (Ao _ _) q)) Tryz.keyPairs underlying163 (Tryz.zeroBool _) Hky.o;rw[this,Qg6 ⟨by show x.ty.name.length<=100;omega,by show y.ty.name.length<=100;omega⟩ Hmlen.o,hinm])
 have Hinm:=Aa hinm;have H7:=Aa hb7l;have HK7:=Aa hrg;clear hL hR2 hbw hrg hinm hW1 u7;go_wp2_with fail;refine Jd [20,21,22,23,24,25]
  (fun i v W=>match i with|0=>v=(w0,1,0)|1=>v=(w0,1,0)|2=>v=(w0,1,2)|3=>v=.map (some w0.heap.size)|4=>v=.agg #[x.ty.name,y.ty.name]|5=>v=.bool inm|_=>True)
  (fun L U W=>∃q,W=W1.drewN q) (⟨1,rfl⟩) ?_ ?_
 ·repeat (first|exact Ak.nil|(refine Ak.cons ?_ ?_;rotate_left))
  all_goals
   rintro L U W hL hpre HR Hdep K hK;obtain⟨q,rfl⟩:=HR.o;have hlq:=Hlook.o q;first|(simp[Region.binds]at hpre;done)|simp[Region.binds]at hpre|clear hpre
  iterate 6
   ·exact hD
 rintro L U W hL hφ hR;have e5:U 5=.bool inm:=hφ 5 aJ;simp only[e5];clear hφ;obtain⟨q2,rfl⟩:=hR;clear hL;obtain⟨W2,hW2⟩:∃W2,W2=W1.drewN q2:=⟨_,rfl⟩
 rw[<-hW2];have hb12:Below W1 W1 W2:=by rw[hW2];exact below_drewN (Ao _ _) q2
 have Hst2:=Aa (Hst1.o.below hb12);have Hb2:=Aa (Hb1.o.trans (hb12.mono Hb1.o.size));have k02:W2.cell? ⟨b7,0,none⟩=x.ty.name:=by rw[hW2];exact k0
 have k12:W2.cell? ⟨b7,1,none⟩=y.ty.name:=by rw[hW2];exact k1
 have e22:W2.cell? (w0,1,2)=some (.map (some w0.heap.size)):=Hst2.o.2.2.2.2.1;clear hW2 hb12 k0 k1 e2;cases inm with
 |true=>
  have HF2:=Aa (HF.o.trans (if_pos (of_decide_eq_true Hinm.o)));go_wp2_with fail;go_ret;rw[HF2.o];exact⟨rfl,Hst2.o,Cr Hb2.o _⟩
 |false=>
  have HF2:=Aa (HF.o.trans (if_neg (of_decide_eq_false Hinm.o)));have Hm2:=Aa (Hm.o.snoc hnx hny (of_decide_eq_false Hinm.o));have Hstore:=Aa (fun q=>Dp.store (Dp.below Hst2.o.2.2.2.2.2 (below_drewN (Ao _ _) q)) Tryz.keyPairs underlying163 (show m.length<maxLen by unfold maxLen;omega) (.bool true) Hky.o);clear hnx hny;go_wp2_with fail;refine Jd [26,27,28,29,30,999]
   (fun i v W=>match i with|0=>v=(w0,1,0)|1=>v=(w0,1,0)|2=>v=(w0,1,2)|3=>v=.map (some w0.heap.size)|4=>v=.agg #[x.ty.name,y.ty.name]|_=>True)
   (fun L U W=>(L 5=false->∃q,W=W2.drewN q)/\(L 5=true->Fc w0 pb1 pb2 W (m++[(x.ty.name,y.ty.name)])/\W2.grownBy W (some w0.heap.size))) (⟨fun _=>⟨1,rfl⟩,fun h=>Bool.noConfusion h⟩) ?_ ?_
  ·repeat (first|exact Ak.nil|(refine Ak.cons ?_ ?_;rotate_left))
   all_goals
    rintro L U W hL hpre HR Hdep K hK;obtain⟨R1,R2⟩:=HR.o;first|(simp[Region.binds]at hpre;done)|simp[Region.binds]at hpre|clear hpre
   iterate 3
    ·exact hD
   ·have h5:L 5=false:=Bb Hdep.o 5 3 rfl hL;exact lS
   ·have h5:L 5=false:=Bb Hdep.o 5 4 rfl hL;exact lS
   ·obtain⟨q,rfl⟩:=R1 hL;obtain⟨w',hrun,hF,hg⟩:=Hstore.o q;go_simp;exact hK undef _ _ Ac Ac ⟨fun h=>by simp at h,fun _=>⟨(Hst2.o.below (below_drewN (Ao _ _) q)).push hg hF,(Cr (below_drewN (Ao _ _) q) _).trans hg⟩⟩ aI
  rintro L U W hL hφ hR;clear hφ;obtain⟨hst3,hg3⟩:=hR.2 (hL 5 aJ);obtain⟨W3,hW3⟩:∃W3,W3=W:=⟨_,rfl⟩
  rw[<-hW3]at hst3 hg3 ⊢;have Hst3:=Aa hst3;have Hg3:=Aa ((Cr Hb2.o _).trans hg3);have x0:W3.cell? (x.blk,0)=some (.int .u8 (x.ty.sort.toNat:Int)):=(hst3.1.cell (p:=⟨x.blk,0,none⟩) Hxl0.o).trans Htx.o.2.2.1;have y0:W3.cell? (y.blk,0)=some (.int .u8 (y.ty.sort.toNat:Int)):=(hst3.1.cell (p:=⟨y.blk,0,none⟩) Hyl0.o).trans Hty.o.2.2.1;obtain⟨Ay,cy,hyc,hyr⟩:=Q5.range0 Hty.o;have y2:W3.cell? (y.blk,2)=some (.slice Ay y.ty.fields.length cy):=(hst3.1.cell (p:=⟨y.blk,2,none⟩) Hyl0.o).trans hyc;have Hyr:=Aa hyr;have Hyc:=Aa hyc;obtain⟨ns,hns⟩:∃ns,((x.ty.sort.toNat:Int) != (y.ty.sort.toNat:Int))=ns:=⟨_,rfl⟩
  have Hns:=Aa hns;clear hst3 hg3 hR hL hW3 k02 k12 e22 hyr hyc;go_wp2_with fail;refine Jd [31,32,33,34,35,36,37,38,39]
   (fun i v W=>match i with|0=>v=x.blk|1=>v=x.blk|2=>v=x.blk|3=>v=.int .u8 (x.ty.sort.toNat:Int)|4=>v=y.blk|5=>v=y.blk|6=>v=y.blk|7=>v=.int .u8 (y.ty.sort.toNat:Int)|8=>v=.bool ns|_=>True)
   (fun L U W=>∃q,W=W3.drewN q) (⟨1,rfl⟩) ?_ ?_
  ·repeat (first|exact Ak.nil|(refine Ak.cons ?_ ?_;rotate_left))
   all_goals
    rintro L U W hL hpre HR Hdep K hK;obtain⟨q,rfl⟩:=HR.o;first|(simp[Region.binds]at hpre;done)|simp[Region.binds]at hpre|clear hpre
   iterate 9
    ·go_simp;first|exact hK _ _ _ rfl Ac HR.o rfl|exact hK _ _ _ rfl Ac HR.o fM|exact hK undef _ _ Ac Ac HR.o fM|exact hK _ _ _ Ac Ac HR.o rfl|exact hK _ _ _ Ac Ac HR.o fM
  rintro L U W hL hφ hR;have e8:U 8=.bool ns:=hφ 8 aJ;simp only[e8];clear hφ;obtain⟨q3,rfl⟩:=hR;clear hL hns;obtain⟨W4,hW4⟩:∃W4,W4=W3.drewN q3:=⟨_,rfl⟩
  rw[<-hW4];have hb34:Below W3 W3 W4:=by rw[hW4];exact below_drewN (Ao _ _) q3
  have Hst4:=Aa (Hst3.o.below hb34);have Hg4:=Aa (Hg3.o.trans (Cr hb34 _));have y24:W4.cell? (y.blk,2)=some (.slice Ay y.ty.fields.length cy):=by rw[hW4];exact y2
  clear hW4 hb34 x0 y0 y2;cases ns with
  |true=>
   have HF3:=@Aa (evT (Ag xs) (Ag ys) (J2 (Ag xs) (Ag ys) n) x.ty y.ty (m++[(x.ty.name,y.ty.name)])=(false,m++[(x.ty.name,y.ty.name)])) (if_pos (by have:=Hns.o;simp at this;intro h;rw[h]at this;exact this rfl));go_wp2_with fail;go_ret;rw[HF2.o,HF3.o];exact⟨rfl,Hst4.o,Hg4.o⟩
  |false=>
   have hsu:x.ty.sort=y.ty.sort:=by have:=Hns.o;simp at this;exact UInt8.toNat_inj.1 aH
   have HF3:=@Aa (evT (Ag xs) (Ag ys) (J2 (Ag xs) (Ag ys) n) x.ty y.ty (m++[(x.ty.name,y.ty.name)])=Xo (Ag xs) (Ag ys) (J2 (Ag xs) (Ag ys) n) x.ty y.ty.sort y.ty.fields (m++[(x.ty.name,y.ty.name)])) (if_neg (by simp[hsu]));have Hsu:=Aa hsu;clear hsu;go_wp2_with fail
   go_loopw [45] (fun i wr=>∃(j:Nat) (m':List C9),i=.int .i64 j/\j<=y.ty.fields.length/\Hid (evT (Ag xs) (Ag ys) (J2 (Ag xs) (Ag ys) n) x.ty y.ty (m++[(x.ty.name,y.ty.name)])=Xo (Ag xs) (Ag ys) (J2 (Ag xs) (Ag ys) n) x.ty y.ty.sort (y.ty.fields.drop j) m') /\
    Hid (Fc w0 pb1 pb2 wr m')/\Hid (w.grownBy wr (some w0.heap.size))/\Hid (Kt (Ag xs) (Ag ys) m')/\m.length+1<=m'.length) (fun i _=>y.ty.fields.length - (intOf i).toNat)
   case atStart=>exact⟨0,_,rfl,ag _,HF3.o,Hst4.o,Hg4.o,Hm2.o,by simp⟩
   case round=>
    obtain⟨j,m',rfl,hj,heq,hst',hg',hm',hml'⟩:=hrel;have j1:(0:Int)<=(j:Int):=aH;have y2r:wr.cell? (y.blk,2)=some (.slice Ay y.ty.fields.length cy):=(hst'.out.1.cell (p:=⟨y.blk,2,none⟩) Hyl0.o).trans Hyc.o;have y0r:wr.cell? (y.blk,0)=some (.int .u8 (y.ty.sort.toNat:Int)):=(hst'.out.1.cell (p:=⟨y.blk,0,none⟩) Hyl0.o).trans Hty.o.2.2.1;by_cases hlt:j<y.ty.fields.length
    ·have j2:(j:Int)<(y.ty.fields.length:Int):=aH;have Hstep:=Aa (heq.o.trans (Qei _ _ _ x.ty y.ty.sort y.ty.fields j hlt m'));obtain⟨bb,off,rfl,hbb,hrg⟩:=Hyr.o j hlt;have Hgm:=Aa (ae hlt);generalize y.ty.fields[j]=g at hrg Hstep Hgm;have Rg:=Aa hrg;have Bg:=Aa hbb;have g0:wr.cell? ⟨bb,off+j*6,none⟩=(g.tag:Int):=by simpa using Ab (Ah hrg hbb hst'.out.1) 0 rfl
     have Hgo:=Aa (Huo.o.2.2.1.1 g Hgm.o);have hgt:g.tag<=200:=Hgo.o.2.1;clear hrg hbb;go_wp2_with fail;refine(Ke w0 x Htx.o g.tag wr hst'.out.1 aH).mono ?_;rintro e w5 ⟨fv,rfl,hfp,rfl⟩;have hfm:=fun f (h:Au x.ty.fields g.tag=some f)=>Z4 h;have Hfm:=Aa hfm;clear hfm;generalize Au x.ty.fields g.tag=o at hfp Hstep Hfm;cases o with
     |none=>
      have hfv:fv=.pointer none:=hfp;subst hfv;clear hfp;by_cases h82:y.ty.sort=82
      ·have t82:((y.ty.sort.toNat:Int) == 82)=true:=Bj (d:=82) h82;have Hs2:=Aa (Hstep.o.trans (if_pos h82));clear h82;go_wp2_with fail;go_roundw
       case rel=>exact⟨j+1,m',by go_num,by omega,Hs2.o,hst'.out,hg'.out,hm'.out,hml'⟩
       case measure=>simp[intOf];omega
      have t82:((y.ty.sort.toNat:Int) == 82)=false:=Ap (d:=82) h82;have Hs2:=Aa (Hstep.o.trans (if_neg h82));clear h82;go_wp2_with fail;refine Jd [82,83,84,85,86,87,88,89,90,91,92,93,94,95,96,81]
       (fun i v W=>match i with|0=>v=.pointer none|1=>v=.bool true|2=>v=.bool true|3=>v=undef|4=>v=undef|5=>v=undef|6=>v=undef|7=>v=undef|8=>v=undef|9=>v=undef|10=>v=undef|11=>v=undef|12=>v=undef|13=>v=undef|14=>v=.bool true|15=>v=.bool true|_=>True)
       (fun L U W=>∃q,W=wr.drewN q) (⟨1,rfl⟩) ?_ ?_
      ·repeat (first|exact Ak.nil|(refine Ak.cons ?_ ?_;rotate_left))
       all_goals
        rintro L U W hL hpre HR Hdep K hK;obtain⟨q,rfl⟩:=HR.o;first|(simp[Region.binds]at hpre;done)|simp[Region.binds]at hpre|clear hpre
       iterate 16
        ·exact hD
      rintro L U W hL hφ hR;have e15:U 15=.bool true:=hφ 15 aJ;simp only[e15];clear hφ;obtain⟨q,rfl⟩:=hR;clear hL;go_wp2_with fail;go_ret;rw[HF2.o,Hs2.o];exact⟨rfl,hst'.out.below (below_drewN (Ao _ _) q),hg'.out.trans (Cr (below_drewN (Ao _ _) q) _)⟩
     |some f=>
      obtain⟨bf,of,hfv,hbf,hrf⟩:=hfp;subst hfv
      have Rf:=Aa (show w0.rangeAt bf of (Rt f)from fun k v hv=>by
       have:=hrf k v hv;rwa [hst'.out.1.cell (p:=⟨bf,of+k,none⟩) hbf]at this)
      have Bf:=Aa hbf;have Hfm2:=Aa (Hfm.o f rfl);clear hrf hbf Hfm;by_cases h69:y.ty.sort=69
      ·have t69:((y.ty.sort.toNat:Int) == 69)=true:=Bj (d:=69) h69;have Hs2:=Aa (Hstep.o.trans (if_pos h69));clear h69;go_wp2_with fail;go_roundw
       case rel=>exact⟨j+1,m',by go_num,by omega,Hs2.o,hst'.out,hg'.out,hm'.out,hml'⟩
       case measure=>simp[intOf];omega
      have t69:((y.ty.sort.toNat:Int) == 69)=false:=Ap (d:=69) h69;have Hs2:=Aa (Hstep.o.trans (if_neg h69));have h69x:x.ty.sort≠69:=by rw[Hsu.o];exact h69
      have hfo:=Hto.o.2.2.1.1 f Hfm2.o;have Hfk:=Aa (hfo.2.2.2.2 h69x).1;have Hgk:=Aa (Hgo.o.2.2.2.2 h69).1;have Hfr:=Aa (Htk.o h69x f Hfm2.o);have Hgr2:=Aa (Huk.o h69 g Hgm.o);have hfg:=Fq hfo;have hgg:=Fq Hgo.o;have Hcall:=Aa (fun W (h:Fc w0 pb1 pb2 W m')=>Ih.o f.kind g.kind m' W Hfk.o Hgk.o Hfr.o Hgr2.o hm'.out aH h);unfold D9 at Hcall;have Hof1:=Aa (fun W (h:Below w0 w0 W)=>Rj _ xs HS.o f bf of W (Hx.o.below h) (Ah Rf.o Bf.o h) Hfk.o Hfr.o aH);have Hof2:=Aa (fun W (h:Below w0 w0 W)=>Rj _ ys HT.o g bb (off+j*6) W (Hy.o.below h) (Ah Rg.o Bg.o h) Hgk.o Hgr2.o aH);obtain⟨hma,hmb⟩:=Hgr.o f.kind g.kind m' hm'.out;have Hma:=Aa hma;have Hmb:=Aa hmb;have H69:=Aa h69;clear hma hmb hfo h69x h69;go_wp2_with fail;generalize hr:J2 (Ag xs) (Ag ys) n f.kind g.kind m'=r at *;obtain⟨r1,r2⟩:=r;simp only[]at Hma Hmb;clear hr;refine Jd [82,83,84,85,86,87,88,89,90,91,92,93,94,95,96,81]
       (fun i v W=>match i with|0=>v=.pointer (some ⟨bf,of,none⟩)|1=>v=.bool false|2=>v=.bool false|3=>v=(w0,1,0)|4=>v=.pointer (some ⟨bf,of,none⟩)|5=>v=.pointer (some ⟨bf,of,none⟩)|6=>v=.pointer (some ⟨bf,of+2,none⟩)|7=>v=.agg #[f.kind.signs,f.kind.base,f.kind.name]|8=>v=.pointer (some ⟨bb,off+j*6,none⟩)|9=>v=.pointer (some ⟨bb,off+j*6,none⟩)|10=>v=.pointer (some ⟨bb,off+j*6+2,none⟩)|11=>v=.agg #[g.kind.signs,g.kind.base,g.kind.name]|12=>v=.bool r1|13=>v=.bool (!r1)|14=>v=.bool (!r1)|15=>v=.bool (!r1)|_=>True)
       (fun L U W=>∃mm,Fc w0 pb1 pb2 W mm/\wr.grownBy W (some w0.heap.size)/\(L 12=true->mm=r2)/\(L 12=false->mm=m')) (⟨m',hst'.out.below ((Ao _ _).drew),Cr ((Ao _ _).drew) _,fun h=>Bool.noConfusion h,fun _=>rfl⟩) ?_ ?_
      ·repeat (first|exact Ak.nil|(refine Ak.cons ?_ ?_;rotate_left))
       all_goals
        rintro L U W hL hpre HR Hdep K hK;obtain⟨mm,ha9,hk9,r5,r6⟩:=HR.o;have f2:W.cell? ⟨bf,of+2,none⟩=f.kind.signs:=Ab (Ah Rf.o Bf.o ha9.1) 2 rfl;have f3:W.cell? ⟨bf,of+3,none⟩=f.kind.base:=Ab (Ah Rf.o Bf.o ha9.1) 3 rfl;have f4:W.cell? ⟨bf,of+4,none⟩=f.kind.name:=Ab (Ah Rf.o Bf.o ha9.1) 4 rfl;have f3':W.cell? ⟨bf,of+2+1,none⟩=_:=f3;have f4':W.cell? ⟨bf,of+2+1+1,none⟩=_:=f4;have f4'':W.cell? ⟨bf,of+2+2,none⟩=_:=f4;have g2:W.cell? ⟨bb,off+j*6+2,none⟩=g.kind.signs:=Ab (Ah Rg.o Bg.o ha9.1) 2 rfl;have g3:W.cell? ⟨bb,off+j*6+3,none⟩=g.kind.base:=Ab (Ah Rg.o Bg.o ha9.1) 3 rfl;have g4:W.cell? ⟨bb,off+j*6+4,none⟩=g.kind.name:=Ab (Ah Rg.o Bg.o ha9.1) 4 rfl;have g3':W.cell? ⟨bb,off+j*6+2+1,none⟩=_:=g3;have g4':W.cell? ⟨bb,off+j*6+2+1+1,none⟩=_:=g4;have g4'':W.cell? ⟨bb,off+j*6+2+2,none⟩=_:=g4;first|(simp[Region.binds]at hpre;done)|simp[Region.binds]at hpre|clear hpre
       iterate 12
        ·exact hD
       ·exact j0
       iterate 3
        ·exact hD
      rintro L U W hL hφ hR;have e15:U 15=.bool (!r1):=hφ 15 aJ;simp only[e15];clear hφ;obtain⟨mm,ha9,hk9,h1,_⟩:=hR;obtain rfl:=h1 (hL 12 aJ);have Ha9:=Aa ha9;have Hk9:=Aa (hg'.out.trans hk9);clear hL ha9 hk9 h1;cases r1 with
      |false=>
       have Hs3:=Aa (Hs2.o.trans (if_pos rfl));go_wp2_with fail;go_ret;rw[HF2.o,Hs3.o];exact⟨rfl,Ha9.o,Hk9.o⟩
      |true=>
       have Hs3:=Aa (Hs2.o.trans (if_neg aK));obtain⟨W9,hW9⟩:∃W9,W9=W:=⟨_,rfl⟩
       rw[<-hW9]at Ha9 Hk9;have Hst9:=Aa Ha9.o;have Y0w:=Aa Hty.o.2.2.1;by_cases h82:y.ty.sort=82
       ·have t82:((y.ty.sort.toNat:Int) == 82)=true:=Bj (d:=82) h82;have H82:=Aa h82;clear h82;obtain⟨nb,hnb⟩:∃nb,(!(G9 (Ag xs) f == G9 (Ag ys) g))=nb:=⟨_,rfl⟩
        have Hnb:=Aa hnb;go_wp2_with fail;rw[<-hW9];clear hW9;refine Jd [98,99,100,101,102,103,104,105,106,107,108,109,110,111,112,113,114,115,116,117,97]
         (fun i v W=>match i with|0=>v=y.blk|1=>v=y.blk|2=>v=y.blk|3=>v=.int .u8 (y.ty.sort.toNat:Int)|4=>v=.bool true|5=>v=.bool true|6=>v=(w0,1,0)|7=>v=(w0,1,0)|8=>v=(w0,1,0)|9=>v=pb1|10=>v=.pointer (some ⟨bf,of,none⟩)|11=>v=.string ⟨(G9 (Ag xs) f).toArray⟩|12=>v=(w0,1,0)|13=>v=(w0,1,0)|14=>v=(w0,1,1)|15=>v=pb2|16=>v=.pointer (some ⟨bb,off+j*6,none⟩)|17=>v=.string ⟨(G9 (Ag ys) g).toArray⟩|18=>v=.bool nb|19=>v=.bool nb|20=>v=.bool nb|_=>True)
         (fun L U W=>Below W9 W9 W) ((Ao _ _).drew) ?_ ?_
        ·repeat (first|exact Ak.nil|(refine Ak.cons ?_ ?_;rotate_left))
         all_goals
          rintro L U W hL hpre HR Hdep K hK;have ha9:=Hst9.o.below HR.o;have a0:W.cell? (w0,1,0)=pb1:=ha9.2.2.1;have a1:W.cell? (w0,1,1)=pb2:=ha9.2.2.2.1;have y0:W.cell? (y.blk,0)=some (.int .u8 (y.ty.sort.toNat:Int)):=(ha9.1.cell (p:=⟨y.blk,0,none⟩) Hyl0.o).trans Y0w.o;first|(simp[Region.binds]at hpre;done)|simp[Region.binds]at hpre|clear hpre
         iterate 11
          ·exact ik
         ·go_simp;refine(Hof1.o W ha9.1).mono ?_;rintro e w5 ⟨rfl,hb5⟩;exact lT
         iterate 5
          ·exact ik
         ·go_simp;refine(Hof2.o W ha9.1).mono ?_;rintro e w5 ⟨rfl,hb5⟩;exact lT
         iterate 3
          ·exact ik
        rintro L U W hL hφ hR;have e20:U 20=.bool nb:=hφ 20 aJ;simp only[e20];clear hφ;have Hbw:=Aa hR;clear hL hR hnb;cases nb with
        |true=>
         have Hs4:=Aa (Hs3.o.trans (if_pos ⟨H82.o,by have:=Hnb.o;simpa using this⟩));go_wp2_with fail;go_ret;rw[HF2.o,Hs4.o];exact⟨rfl,Ha9.o.below Hbw.o,Hk9.o.trans (Cr Hbw.o _)⟩
        |false=>
         have Hs4:=Aa (Hs3.o.trans (if_neg (fun h=>h.2 (by have:=Hnb.o;simpa using this))));go_wp2_with fail;go_roundw
         case rel=>exact⟨j+1,mm,by go_num,by omega,Hs4.o,Ha9.o.below Hbw.o,Hk9.o.trans (Cr Hbw.o _),Hma.o,by obtain⟨l,hl⟩:=Hmb.o;rw[hl,ah];omega⟩
         case measure=>simp[intOf];omega
       have t82:((y.ty.sort.toNat:Int) == 82)=false:=Ap (d:=82) h82;have Hs4:=Aa (Hs3.o.trans (if_neg (fun h=>h82 h.1)));clear h82;go_wp2_with fail;rw[<-hW9];clear hW9;refine Jd [98,99,100,101,102,103,104,105,106,107,108,109,110,111,112,113,114,115,116,117,97]
        (fun i v W=>match i with|0=>v=y.blk|1=>v=y.blk|2=>v=y.blk|3=>v=.int .u8 (y.ty.sort.toNat:Int)|4=>v=.bool false|5=>v=.bool false|6=>v=undef|7=>v=undef|8=>v=undef|9=>v=undef|10=>v=undef|11=>v=undef|12=>v=undef|13=>v=undef|14=>v=undef|15=>v=undef|16=>v=undef|17=>v=undef|18=>v=undef|19=>v=.bool false|20=>v=.bool false|_=>True)
        (fun L U W=>Below W9 W9 W) ((Ao _ _).drew) ?_ ?_
       ·repeat (first|exact Ak.nil|(refine Ak.cons ?_ ?_;rotate_left))
        all_goals
         rintro L U W hL hpre HR Hdep K hK;have ha9:=Hst9.o.below HR.o;have a0:W.cell? (w0,1,0)=pb1:=ha9.2.2.1;have a1:W.cell? (w0,1,1)=pb2:=ha9.2.2.2.1;have y0:W.cell? (y.blk,0)=some (.int .u8 (y.ty.sort.toNat:Int)):=(ha9.1.cell (p:=⟨y.blk,0,none⟩) Hyl0.o).trans Y0w.o;first|(simp[Region.binds]at hpre;done)|simp[Region.binds]at hpre|clear hpre
        iterate 21
         ·exact hD
       rintro L U W hL hφ hR;have e20:U 20=.bool false:=hφ 20 aJ;simp only[e20];clear hφ;have Hbw:=Aa hR;clear hL hR;go_wp2_with fail;go_roundw
       case rel=>exact⟨j+1,mm,by go_num,by omega,Hs4.o,Ha9.o.below Hbw.o,Hk9.o.trans (Cr Hbw.o _),Hma.o,by obtain⟨l,hl⟩:=Hmb.o;rw[hl,ah];omega⟩
       case measure=>simp[intOf];omega
    ·obtain rfl:j=y.ty.fields.length:=aH;have Hend:=Aa (heq.o.trans (Qgu _ _ _ x.ty y.ty.sort y.ty.fields m'));go_wp2_with fail;go_ret;rw[HF2.o,Hend.o];exact⟨rfl,hst'.out,hg'.out⟩
end
end Go.Proofs.YtmmhmlmfhpfgbaaGreatDoor
