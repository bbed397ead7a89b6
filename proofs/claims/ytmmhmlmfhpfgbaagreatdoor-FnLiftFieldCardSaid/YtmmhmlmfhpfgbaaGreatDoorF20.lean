/- Texts joined. Conditions: as each theorem names them. -/
import Derived.Test.YtmmhmlmfhpfgbaaGreatDoorF19
set_option maxRecDepth 100000
set_option maxHeartbeats 32000000
set_option linter.unusedVariables false
set_option linter.unusedSimpArgs false
namespace Go.Proofs.YtmmhmlmfhpfgbaaGreatDoor
open Go.RowKit Go.Proofs.Tryz
section
attribute [local go_sem] Qoe Qnf Qmu Qk2 ByteArray.mk_append_mk
theorem Qei(S T:List Ty)(K:Kd->Kd->List C9->Bool × List C9)(t:Ty)(st:UInt8)(gs:List Fd)(j:Nat)(hj:j<gs.length)(m:List C9):
  Xo S T K t st (gs.drop j) m=(match Au t.fields gs[j].tag with
   |none=>if st=82 then Xo S T K t st (gs.drop (j+1)) m else(false,m)
   |some f=>if st=69 then Xo S T K t st (gs.drop (j+1)) m else
    if (K f.kind gs[j].kind m).1=false then(false,(K f.kind gs[j].kind m).2)
    else if st=82/\G9 S f≠G9 T gs[j]then(false,(K f.kind gs[j].kind m).2)
    else Xo S T K t st (gs.drop (j+1)) (K f.kind gs[j].kind m).2):=by
 rw[List.drop_eq_getElem_cons hj];rfl
theorem Qgu(S T:List Ty)(K:Kd->Kd->List C9->Bool × List C9)(t:Ty)(st:UInt8)(gs:List Fd)(m:List C9):Xo S T K t st (gs.drop gs.length) m=(true,m):=by rw[List.drop_length];rfl
theorem Qgj(w0:World)(v1 v2:Value)(xs ys:List (Ty × Value))(hx:Gb w0 v1 xs)(hy:Gb w0 v2 ys)(hS:G7 (Ad xs))(hT:G7 (Ad ys))(n:Nat)(t u:Ty)(tv uv:Value)(htm:(t,tv)∈xs)(hum:(u,uv)∈ys)
  (ih:∀a b m W mv,Ck a->Ck b->B6 (Ad xs) a->B6 (Ad ys) b->Kt (Ad xs) (Ad ys) m->64<n+m.length->Gp w0 v1 v2 W m mv ->
   Calls prog 170 #[w0.heap.size,.string ⟨(Ax a).toArray⟩,.string ⟨(Ax b).toArray⟩] W (Z7 w0 v1 v2 (J2 (Ad xs) (Ad ys) n a b m) W mv))
  (m:List C9) (hm:Kt (Ad xs) (Ad ys) m) (hn:64<n+m.length) (w:World) (mv:Value) (hst:Gp w0 v1 v2 w m mv):
  Calls prog 212 #[w0.heap.size,Kx t tv,Kx u uv] w (Z7 w0 v1 v2 (evT (Ad xs) (Ad ys) (J2 (Ad xs) (Ad ys) n) t u m) w mv):=by
 have HF:=@Aa (evT (Ad xs) (Ad ys) (J2 (Ad xs) (Ad ys) n) t u m=if t.sort≠u.sort then(false,m)else Xo (Ad xs) (Ad ys) (J2 (Ad xs) (Ad ys) n) t u.sort u.fields m) rfl;have Hst:=Aa hst;have Hx:=Aa hx;have Hy:=Aa hy;have Ih:=Aa ih;have HS:=Aa hS;have HT:=Aa hT;have Hgr:=Aa (Nu (Ad xs) (Ad ys) n);have Hto:=Aa (hS.1.1 t (ap (f:=(·.1)) htm));have Huo:=Aa (hT.1.1 u (ap (f:=(·.1)) hum));have Htk:=Aa (hS.2.1 t (ap (f:=(·.1)) htm));have Huk:=Aa (hT.2.1 u (ap (f:=(·.1)) hum));have Hm:=Aa hm;have htf:Dq w0 tv t.fields:=by obtain⟨_,_,_,_,_,hf⟩:=hx;exact hf _ htm
 have huf:Dq w0 uv u.fields:=by obtain⟨_,_,_,_,_,hf⟩:=hy;exact hf _ hum
 have Htf:=Aa htf;obtain⟨A1,c1,rfl,hxl,_⟩:=hx;obtain⟨A2,c2,rfl,hyl,_⟩:=hy;obtain⟨A3,n3,c3,rfl⟩:=Ed hst.2.2.2.2.2.2;obtain⟨A4,c4,rfl,_,_⟩:=htf;obtain⟨A5,c5,rfl,_,hrow5⟩:=huf;have Hrow5:=Aa hrow5;have hsz0:w0.heap.size<w.heap.size:=hst.size;have Hfar:=Aa hst.far;clear hst ih hS hT hm htm hum hrow5;unfold Kx;go_enter func212,ntmps212;by_cases hsu:t.sort=u.sort
 ·have t1:((t.sort.toNat:Int) != (u.sort.toNat:Int))=false:=by simp[hsu]
  have t2:((t.sort.toNat:Int) == (u.sort.toNat:Int))=true:=by simp[hsu]
  have HF2:=Aa (HF.o.trans (if_neg (by simp[hsu])));have Hsu:=Aa hsu;clear hsu;go_wp2_with fail;obtain⟨W2,hW2⟩:∃W2,W2=(w.alloc (.cells #[.int .u8 (t.sort.toNat:Int),t.name,.slice A4 t.fields.length c4] 143)).alloc (.cells #[.int .u8 (u.sort.toNat:Int),u.name,.slice A5 u.fields.length c5] 143):=⟨_,rfl⟩
  rw[<-hW2];have X4:=@Aa (W2.rangeAt w 0 [.int .u8 (t.sort.toNat:Int),t.name,.slice A4 t.fields.length c4]) (by rw[hW2];exact Ah (Bo w [.int .u8 (t.sort.toNat:Int),t.name,.slice A4 t.fields.length c4] _) (Nat.lt_succ_self _) ((Ao _ _).alloc aK _));have X5:=@Aa (W2.rangeAt (w.heap.size+1) 0 [.int .u8 (u.sort.toNat:Int),u.name,.slice A5 u.fields.length c5]) (by rw[hW2];have:=Bo (w.alloc (.cells #[.int .u8 (t.sort.toNat:Int),t.name,.slice A4 t.fields.length c4] 143)) [.int .u8 (u.sort.toNat:Int),u.name,.slice A5 u.fields.length c5] 143;simpa using this);have hb2:Below w w W2:=gX;have Hst2:=Aa (Hst.o.below hb2);have Hk2:=Aa (Ex.of_below (ab:=w0.heap.size) (mv:=.slice A3 n3 c3) hb2);have hz2:W2.heap.size=w.heap.size+2:=by rw[hW2];simp
  clear hW2 hb2
  go_loopw [7] (fun i wr=>∃(j:Nat) (m':List C9) (mv':Value),i=.int .i64 j/\j<=u.fields.length/\Hid (evT (Ad xs) (Ad ys) (J2 (Ad xs) (Ad ys) n) t u m=Xo (Ad xs) (Ad ys) (J2 (Ad xs) (Ad ys) n) t u.sort (u.fields.drop j) m') /\
   Hid (Gp w0 (.slice A1 xs.length c1) (.slice A2 ys.length c2) wr m' mv')/\Hid (Ex w0.heap.size (.slice A3 n3 c3) W2 wr mv')/\Hid (Kt (Ad xs) (Ad ys) m')/\m.length<=m'.length) (fun i _=>u.fields.length - (intOf i).toNat)
  case atStart=>exact⟨0,m,_,rfl,ag _,HF2.o,Hst2.o,Ex.refl _ _ _,Hm.o,An _⟩
  case round=>
   obtain⟨j,m',mv',rfl,hj,heq,hst',hk',hm',hml⟩:=hrel;have j1:(0:Int)<=(j:Int):=aH;obtain⟨A3',n3',c3',rfl⟩:=Ed hst'.out.2.2.2.2.2.2;have Hmv:=@Aa ((Value.slice A3' n3' c3').ownBlock=(Value.slice A3 n3 c3).ownBlock\/∃k,(Value.slice A3' n3' c3').ownBlock=some k/\W2.heap.size<=k) hk'.out.own
   have Hne4:=Aa (show ∀b,w.heap.size<=b->b<W2.heap.size->some b≠(Value.slice A3' n3' c3').ownBlock from fun b h1 h2 e=>by
    rcases Hmv.o with h|⟨k,h,hk⟩
    ·rw[h]at e;exact Hfar.o b h1 e
    rw[h]at e;injection e with e;omega)
   have x4:=Ex.range hk'.out X4.o (show w.heap.size<W2.heap.size by omega) (show w.heap.size≠w0.heap.size by omega) (Hfar.o _ (An _));have x5:=Ex.range hk'.out X5.o (show w.heap.size+1<W2.heap.size by omega) (show w.heap.size+1≠w0.heap.size by omega) (Hfar.o _ aH);have x40:wr.cell? (w,0)=some (.int .u8 (t.sort.toNat:Int)):=by simpa using Ab x4 0 rfl
   have x41:wr.cell? (w,1)=t.name:=by simpa using Ab x4 1 rfl
   have x42:wr.cell? (w,2)=some (.slice A4 t.fields.length c4):=by simpa using Ab x4 2 rfl
   have x52:wr.cell? (w,1,2)=some (.slice A5 u.fields.length c5):=by simpa using Ab x5 2 rfl
   have hzr:W2.heap.size<=wr.heap.size:=hk'.out.size;clear x4 x5;by_cases hlt:j<u.fields.length
   ·have j2:(j:Int)<(u.fields.length:Int):=aH;have Hstep:=Aa (heq.o.trans (Qei _ _ _ t u.sort u.fields j hlt m'));obtain⟨bb,off,rfl,hbb,g0,g1,g2,g3⟩:=Dq.at_ (Hrow5.o.below hst'.out.1) hlt;have Hgm:=Aa (ae hlt);generalize u.fields[j]=g at g0 g1 g2 g3 Hstep Hgm;have Hgo:=Aa (Huo.o.2.2.1.1 g Hgm.o);have hgt:g.tag<=200:=Hgo.o.2.1;have Hft:=Aa (fun W (h:Below w0 w0 W)=>Sx (.int .u8 (t.sort.toNat:Int)) t.name (.slice A4 t.fields.length c4) t.fields g.tag W (Htf.o.below h) aH);have hbn:¬(bb=wr.heap.size):=aH;have hwn:¬(w.heap.size=wr.heap.size):=aH;have hwn1:¬(w.heap.size+1=wr.heap.size):=aH;have hwl:w.heap.size<wr.heap.size:=aH;have hwl1:w.heap.size+1<wr.heap.size:=aH;go_wp2_with fail;have Hw5:=@Aa (Below w0 w0 (wr.alloc (.cells #[(g.tag:Int),g.name,.string ⟨(Ax g.kind).toArray⟩,g.given] 157))) (hst'.out.1.alloc aH _);refine(Hft.o _ Hw5.o).mono ?_;rintro e w5 ⟨rfl,hb5⟩;have Hb5:=@Aa (Below wr wr w5) (((Ao _ _).alloc (An _) _).trans (hb5.mono aK));have X8:=@Aa (w5.rangeAt wr 0 [(g.tag:Int),g.name,.string ⟨(Ax g.kind).toArray⟩,g.given]) (Ah (Bo wr [(g.tag:Int),g.name,.string ⟨(Ax g.kind).toArray⟩,g.given] _) aK hb5);have hz5:wr.heap.size<w5.heap.size:=by have:=hb5.size;simp at this;omega
    have y40:w5.cell? (w,0)=some (.int .u8 (t.sort.toNat:Int)):=(Hb5.o.cell (p:=⟨w.heap.size,0,none⟩) hwl).trans x40;have hwl5:w.heap.size<w5.heap.size:=aH;have hwn5:¬(w.heap.size=w5.heap.size):=aH;have Hst5:=Aa (hst'.out.below Hb5.o);have Hk5:=Aa (hk'.out.trans (Ex.of_below Hb5.o));have Hsu2:=@Aa (u.sort=t.sort) Hsu.o.symm;rw[Hsu2.o]at Hstep;clear hb5 x40 x41 x42 x52 g0 g1 g2 g3;cases hfo:Au t.fields g.tag with
    |none=>
     unfold sfR sf0;rw[hfo]at Hstep;clear hfo;by_cases h82:t.sort=82
     ·have t82:((t.sort.toNat:Int) != 82)=false:=gq;have t82':((t.sort.toNat:Int) == 82)=true:=Bj (d:=82) h82;have Hs2:=@Aa (evT (Ad xs) (Ad ys) (J2 (Ad xs) (Ad ys) n) t u m=Xo (Ad xs) (Ad ys) (J2 (Ad xs) (Ad ys) n) t t.sort (u.fields.drop (j+1)) m') (by rw[Hstep.o];exact if_pos h82);clear h82;go_wp2_with fail;go_roundw
      case rel=>exact⟨j+1,m',_,by go_num,by omega,by rw[Hsu2.o];exact Hs2.o,Hst5.o.below ((Ao _ _).alloc (An _) _),Hk5.o.trans (Ex.of_below ((Ao _ _).alloc (An _) _)),hm'.out,hml⟩
      case measure=>simp[intOf];omega
     have t82:((t.sort.toNat:Int) != 82)=true:=gp;have t82':((t.sort.toNat:Int) == 82)=false:=Ap (d:=82) h82;have Hs2:=@Aa (evT (Ad xs) (Ad ys) (J2 (Ad xs) (Ad ys) n) t u m=(false,m')) (by rw[Hstep.o];exact if_neg h82);clear h82;go_wp2_with fail;go_ret;rw[Hs2.o];exact⟨rfl,_,Hst5.o.below ((Ao _ _).alloc (An _) _),(Hk2.o.trans Hk5.o).trans (Ex.of_below ((Ao _ _).alloc (An _) _))⟩
    |some f=>
     have Hfm:=Aa (Z4 hfo);unfold sfR sfV;rw[hfo]at Hstep;clear hfo;by_cases h69:t.sort=69
     ·have t69:((t.sort.toNat:Int) == 69)=true:=Bj (d:=69) h69;have t69':((t.sort.toNat:Int) != 69)=false:=cD;have Hs2:=@Aa (evT (Ad xs) (Ad ys) (J2 (Ad xs) (Ad ys) n) t u m=Xo (Ad xs) (Ad ys) (J2 (Ad xs) (Ad ys) n) t t.sort (u.fields.drop (j+1)) m') (by rw[Hstep.o];exact if_pos h69);clear h69;go_wp2_with fail;go_roundw
      case rel=>exact⟨j+1,m',_,by go_num,by omega,by rw[Hsu2.o];exact Hs2.o,Hst5.o.below ((Ao _ _).alloc (An _) _),Hk5.o.trans (Ex.of_below ((Ao _ _).alloc (An _) _)),hm'.out,hml⟩
      case measure=>simp[intOf];omega
     have t69:((t.sort.toNat:Int) == 69)=false:=Ap (d:=69) h69;have t69':((t.sort.toNat:Int) != 69)=true:=cC;have Hs2:=Aa (Hstep.o.trans (if_neg h69));have hfo:=Hto.o.2.2.1.1 f Hfm.o;have Hfk:=Aa (hfo.2.2.2.2 h69).1;have Hgk:=Aa (Hgo.o.2.2.2.2 (by rw[Hsu2.o];exact h69)).1;have Hfr:=Aa (Htk.o h69 f Hfm.o);have Hgr2:=Aa (Huk.o (by rw[Hsu2.o];exact h69) g Hgm.o);have hfg:=Fq hfo;have hgg:=Fq Hgo.o;have Hcall:=Aa (fun W (h:Gp w0 (.slice A1 xs.length c1) (.slice A2 ys.length c2) W m' (.slice A3' n3' c3'))=>Ih.o f.kind g.kind m' W _ Hfk.o Hgk.o Hfr.o Hgr2.o hm'.out aH h);have Hst1:=Aa (fun W (h:Below w0 w0 W)=>Mr _ xs HS.o f W (Hx.o.below h) Hfk.o Hfr.o aH);have Hst2':=Aa (fun W (h:Below w0 w0 W)=>Mr _ ys HT.o g W (Hy.o.below h) Hgk.o Hgr2.o aH);obtain⟨hma,hmb⟩:=Hgr.o f.kind g.kind m' hm'.out;have Hma:=Aa hma;have Hmb:=Aa hmb;go_wp2_with fail;obtain⟨W9,hW9⟩:∃W9,W9=w5.alloc (.cells #[(f.tag:Int),f.name,.string ⟨(Ax f.kind).toArray⟩,f.given] 157):=⟨_,rfl⟩
     rw[<-hW9];have X9:=@Aa (W9.rangeAt w5 0 [(f.tag:Int),f.name,.string ⟨(Ax f.kind).toArray⟩,f.given]) (by rw[hW9];exact Bo w5 [(f.tag:Int),f.name,.string ⟨(Ax f.kind).toArray⟩,f.given] _);have Hb9:=@Aa (Below w5 w5 W9) gA;have hz9:W9.heap.size=w5.heap.size+1:=by rw[hW9];simp
     have Hst9:=Aa (Hst5.o.below Hb9.o);have Hk9:=Aa (Hk5.o.trans (Ex.of_below Hb9.o));have X8':=Aa (Ah X8.o hz5 Hb9.o);have y40':W9.cell? (w,0)=some (.int .u8 (t.sort.toNat:Int)):=(Hb9.o.cell (p:=⟨w.heap.size,0,none⟩) hwl5).trans y40;have q90:=Aa (by simpa using Ab X9.o 0 rfl:W9.cell? (w5,0)=(f.tag:Int));have q91:=Aa (by simpa using Ab X9.o 1 rfl:W9.cell? (w5,1)=f.name);have q92:=Aa (by simpa using Ab X9.o 2 rfl:W9.cell? (w5,2)=some (.string ⟨(Ax f.kind).toArray⟩));have q93:=Aa (by simpa using Ab X9.o 3 rfl:W9.cell? (w5,3)=f.given);have q80:=Aa (by simpa using Ab X8'.out 0 rfl:W9.cell? (wr,0)=(g.tag:Int));have q81:=Aa (by simpa using Ab X8'.out 1 rfl:W9.cell? (wr,1)=g.name);have q82:=Aa (by simpa using Ab X8'.out 2 rfl:W9.cell? (wr,2)=some (.string ⟨(Ax g.kind).toArray⟩));have q83:=Aa (by simpa using Ab X8'.out 3 rfl:W9.cell? (wr,3)=g.given);have q40:=Aa y40';have b91:w5.heap.size<W9.heap.size:=aH;have b92:w5.heap.size≠w0.heap.size:=aH;have b93:some w5.heap.size≠(Value.slice A3' n3' c3').ownBlock:=hst'.out.far _ aH;have b81:wr.heap.size<W9.heap.size:=aH;have b82:wr.heap.size≠w0.heap.size:=aH;have b83:some wr.heap.size≠(Value.slice A3' n3' c3').ownBlock:=hst'.out.far _ aH;have b41:w.heap.size<W9.heap.size:=aH;have b42:w.heap.size≠w0.heap.size:=aH;have b43:some w.heap.size≠(Value.slice A3' n3' c3').ownBlock:=Hne4.o _ (An _) aH;have B91:=Aa b91;have B92:=Aa b92;have B93:=Aa b93;have B81:=Aa b81;have B82:=Aa b82;have B83:=Aa b83;have B41:=Aa b41;have B42:=Aa b42;have B43:=Aa b43;clear hW9 y40 y40' hma hmb hfo hwn hwn1 hwn5 hbn b91 b92 b93 b81 b82 b83 b41 b42 b43;generalize hr:J2 (Ad xs) (Ad ys) n f.kind g.kind m'=r at *;obtain⟨r1',r2⟩:=r;simp only[]at Hma Hmb;cases r1' with
     |false=>
      have Hs3:=@Aa (evT (Ad xs) (Ad ys) (J2 (Ad xs) (Ad ys) n) t u m=(false,r2)) (Hs2.o.trans (if_pos rfl));refine Jd [51,52,53,54,55,56,57,58,59,60,61,62,63,64,65,66,67,68,69,70,71,72,73,74,75,76,77]
       (fun i v W=>match i with|0=>v=w0.heap.size|1=>v=(w5,2)|2=>v=.string ⟨(Ax f.kind).toArray⟩|3=>v=(wr,2)|4=>v=.string ⟨(Ax g.kind).toArray⟩|5=>v=.bool false|6=>v=.bool true|7=>v=.bool true|8=>v=undef|9=>v=undef|10=>v=undef|11=>v=undef|12=>v=undef|13=>v=undef|14=>v=undef|15=>v=undef|16=>v=undef|17=>v=undef|18=>v=undef|19=>v=undef|20=>v=undef|21=>v=undef|22=>v=undef|23=>v=undef|24=>v=undef|25=>v=undef|26=>v=.bool true|_=>True)
       (fun L U W=>∃mm mv9,Gp w0 (.slice A1 xs.length c1) (.slice A2 ys.length c2) W mm mv9/\Ex w0.heap.size (.slice A3' n3' c3') W9 W mv9/\(L 5=true->mm=r2)/\(L 5=false->mm=m'/\mv9=(.slice A3' n3' c3'))) (⟨m',(.slice A3' n3' c3'),Hst9.o.below ((Ao _ _).drew),Ex.of_below ((Ao _ _).drew),fun h=>Bool.noConfusion h,fun _=>⟨rfl,rfl⟩⟩) ?_ ?_
      ·exact i9
      rintro L U W hL hφ hR;have e26:U 26=.bool true:=hφ 26 aJ;simp only[e26];clear hφ;obtain⟨mm,mv9,ha9,hk9,h1,_⟩:=hR;obtain rfl:=h1 (hL 5 aJ);have Ha9:=Aa ha9;have Hka:=Aa ((Hk2.o.trans Hk9.o).trans hk9);clear hL ha9 hk9 h1;go_wp2_with fail;go_ret;rw[Hs3.o];exact⟨rfl,mv9,Ha9.o,Hka.o⟩
     |true=>
      have Hs3:=Aa (Hs2.o.trans (if_neg aK));by_cases h82:t.sort=82
      ·have t82:((t.sort.toNat:Int) == 82)=true:=Bj (d:=82) h82;have H82:=Aa h82;clear h82;obtain⟨nb,hnb⟩:∃nb,(!(G9 (Ad xs) f == G9 (Ad ys) g))=nb:=⟨_,rfl⟩
       have Hnb:=Aa hnb;refine Jd [51,52,53,54,55,56,57,58,59,60,61,62,63,64,65,66,67,68,69,70,71,72,73,74,75,76,77]
        (fun i v W=>match i with|0=>v=w0.heap.size|1=>v=(w5,2)|2=>v=.string ⟨(Ax f.kind).toArray⟩|3=>v=(wr,2)|4=>v=.string ⟨(Ax g.kind).toArray⟩|5=>v=.bool true|6=>v=.bool false|7=>v=.bool false|8=>v=w.heap.size|9=>v=.int .u8 (t.sort.toNat:Int)|10=>v=.bool true|11=>v=.bool true|12=>v=w0.heap.size|13=>v=w0.heap.size|14=>v=w0.heap.size|15=>v=.slice A1 xs.length c1|16=>v=.agg #[(f.tag:Int),f.name,.string ⟨(Ax f.kind).toArray⟩,f.given]|17=>v=.string ⟨(G9 (Ad xs) f).toArray⟩|18=>v=w0.heap.size|19=>v=w0.heap.size|20=>v=(w0,1)|21=>v=.slice A2 ys.length c2|22=>v=.agg #[(g.tag:Int),g.name,.string ⟨(Ax g.kind).toArray⟩,g.given]|23=>v=.string ⟨(G9 (Ad ys) g).toArray⟩|24=>v=.bool nb|25=>v=.bool nb|26=>v=.bool nb|_=>True)
        (fun L U W=>∃mm mv9,Gp w0 (.slice A1 xs.length c1) (.slice A2 ys.length c2) W mm mv9/\Ex w0.heap.size (.slice A3' n3' c3') W9 W mv9/\(L 5=true->mm=r2)/\(L 5=false->mm=m'/\mv9=(.slice A3' n3' c3'))) (⟨m',(.slice A3' n3' c3'),Hst9.o.below ((Ao _ _).drew),Ex.of_below ((Ao _ _).drew),fun h=>Bool.noConfusion h,fun _=>⟨rfl,rfl⟩⟩) ?_ ?_
       ·repeat (first|exact Ak.nil|(refine Ak.cons ?_ ?_;rotate_left))
        all_goals
         rintro L U W hL hpre HR Hdep K hK;obtain⟨mm,mv9,ha9,hk9,r1,r5⟩:=HR.o;have a0:W.cell? (w0,0)=some (.slice A1 xs.length c1):=ha9.2.2.1;have a1:W.cell? (w0,1)=some (.slice A2 ys.length c2):=ha9.2.2.2.1;have f0:W.cell? (w5,0)=(f.tag:Int):=(hk9.cell B91.o B92.o B93.o).trans q90.o;have f1:W.cell? (w5,1)=f.name:=(hk9.cell B91.o B92.o B93.o).trans q91.o;have f2:W.cell? (w5,2)=some (.string ⟨(Ax f.kind).toArray⟩):=(hk9.cell B91.o B92.o B93.o).trans q92.o;have f3:W.cell? (w5,3)=f.given:=(hk9.cell B91.o B92.o B93.o).trans q93.o;have g0:W.cell? (wr,0)=(g.tag:Int):=(hk9.cell B81.o B82.o B83.o).trans q80.o;have g1:W.cell? (wr,1)=g.name:=(hk9.cell B81.o B82.o B83.o).trans q81.o;have g2:W.cell? (wr,2)=some (.string ⟨(Ax g.kind).toArray⟩):=(hk9.cell B81.o B82.o B83.o).trans q82.o;have g3:W.cell? (wr,3)=g.given:=(hk9.cell B81.o B82.o B83.o).trans q83.o;have s0:W.cell? (w,0)=some (.int .u8 (t.sort.toNat:Int)):=(hk9.cell B41.o B42.o B43.o).trans q40.o;first|(simp[Region.binds]at hpre;done)|simp[Region.binds]at hpre|clear hpre
        iterate 5
         ·exact ik
        ·exact iF
        iterate 11
         ·exact ik
        ·go_simp;refine(Hst1.o W ha9.1).mono ?_;rintro e w5 ⟨rfl,hb5⟩;exact kM
        iterate 5
         ·exact ik
        ·go_simp;refine(Hst2'.out W ha9.1).mono ?_;rintro e w5 ⟨rfl,hb5⟩;exact kM
        iterate 3
         ·exact ik
       rintro L U W hL hφ hR;have e26:U 26=.bool nb:=hφ 26 aJ;simp only[e26];clear hφ;clear hnb;obtain⟨mm,mv9,ha9,hk9,h1,_⟩:=hR;obtain rfl:=h1 (hL 5 aJ);have Ha9:=Aa ha9;have Hka:=Aa (Hk9.o.trans hk9);clear hL ha9 hk9 h1;cases nb with
       |true=>
        have Hs4:=Aa (Hs3.o.trans (if_pos ⟨H82.o,by have:=Hnb.o;simpa using this⟩));go_wp2_with fail;go_ret;rw[Hs4.o];exact⟨rfl,mv9,Ha9.o,Hk2.o.trans Hka.o⟩
       |false=>
        have Hs4:=Aa (Hs3.o.trans (if_neg (fun h=>h.2 (by have:=Hnb.o;simpa using this))));go_wp2_with fail;go_roundw
        case rel=>exact⟨j+1,mm,mv9,by go_num,by omega,by rw[Hsu2.o];exact Hs4.o,Ha9.o,Hka.o,Hma.o,by obtain⟨l,hl⟩:=Hmb.o;rw[hl,ah];omega⟩
        case measure=>simp[intOf];omega
      have t82:((t.sort.toNat:Int) == 82)=false:=Ap (d:=82) h82;have Hs4:=Aa (Hs3.o.trans (if_neg (fun h=>h82 h.1)));clear h82;refine Jd [51,52,53,54,55,56,57,58,59,60,61,62,63,64,65,66,67,68,69,70,71,72,73,74,75,76,77]
       (fun i v W=>match i with|0=>v=w0.heap.size|1=>v=(w5,2)|2=>v=.string ⟨(Ax f.kind).toArray⟩|3=>v=(wr,2)|4=>v=.string ⟨(Ax g.kind).toArray⟩|5=>v=.bool true|6=>v=.bool false|7=>v=.bool false|8=>v=w.heap.size|9=>v=.int .u8 (t.sort.toNat:Int)|10=>v=.bool false|11=>v=.bool false|12=>v=undef|13=>v=undef|14=>v=undef|15=>v=undef|16=>v=undef|17=>v=undef|18=>v=undef|19=>v=undef|20=>v=undef|21=>v=undef|22=>v=undef|23=>v=undef|24=>v=undef|25=>v=.bool false|26=>v=.bool false|_=>True)
       (fun L U W=>∃mm mv9,Gp w0 (.slice A1 xs.length c1) (.slice A2 ys.length c2) W mm mv9/\Ex w0.heap.size (.slice A3' n3' c3') W9 W mv9/\(L 5=true->mm=r2)/\(L 5=false->mm=m'/\mv9=(.slice A3' n3' c3'))) (⟨m',(.slice A3' n3' c3'),Hst9.o.below ((Ao _ _).drew),Ex.of_below ((Ao _ _).drew),fun h=>Bool.noConfusion h,fun _=>⟨rfl,rfl⟩⟩) ?_ ?_
      ·exact i9
      rintro L U W hL hφ hR;have e26:U 26=.bool false:=hφ 26 aJ;simp only[e26];clear hφ;obtain⟨mm,mv9,ha9,hk9,h1,_⟩:=hR;obtain rfl:=h1 (hL 5 aJ);have Ha9:=Aa ha9;have Hka:=Aa (Hk9.o.trans hk9);clear hL ha9 hk9 h1;go_wp2_with fail;go_roundw
      case rel=>exact⟨j+1,mm,mv9,by go_num,by omega,by rw[Hsu2.o];exact Hs4.o,Ha9.o,Hka.o,Hma.o,by obtain⟨l,hl⟩:=Hmb.o;rw[hl,ah];omega⟩
      case measure=>simp[intOf];omega
   ·obtain rfl:j=u.fields.length:=aH;have Hend:=Aa (heq.o.trans (Qgu _ _ _ t u.sort u.fields m'));go_wp2_with fail;go_ret;rw[Hend.o];exact⟨rfl,_,hst'.out,Hk2.o.trans hk'.out⟩
 have t1:((t.sort.toNat:Int) != (u.sort.toNat:Int))=true:=by simp;intro h;exact hsu (UInt8.toNat_inj.1 aH)
 have t2:((t.sort.toNat:Int) == (u.sort.toNat:Int))=false:=by simpa using t1
 have HF2:=Aa (HF.o.trans (if_pos hsu));clear hsu;go_wp2_with fail;go_ret;rw[HF2.o];exact⟨rfl,_,Hst.o.below (((Ao _ _).alloc (An _) _).alloc aK _),Ex.of_below (((Ao _ _).alloc (An _) _).alloc aK _)⟩
end
end Go.Proofs.YtmmhmlmfhpfgbaaGreatDoor
