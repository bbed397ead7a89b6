/- Texts joined. Conditions: as each theorem names them. -/
import Derived.Test.YtkgkoicedddkmaaGreatDoorR21
set_option maxRecDepth 100000
set_option maxHeartbeats 32000000
set_option linter.unusedVariables false
set_option linter.unusedSimpArgs false
namespace Go.Proofs.YtkgkoicedddkmaaGreatDoor
open Go.RowKit Go.Proofs.Tryz
section
attribute [local go_sem] Qiz Qii Qib Qgw ByteArray.mk_append_mk
theorem Zw(S T:List Ty)(K:Kd->Kd->List Cv->Bool × List Cv)(t:Ty)(st:UInt8)(gs:List Fd)(j:Nat)(hj:j<gs.length)(m:List Cv):
  S7 S T K t st (gs.drop j) m=(match Au t.fields gs[j].tag with
   |none=>if st=82 then S7 S T K t st (gs.drop (j+1)) m else(false,m)
   |some f=>if st=69 then S7 S T K t st (gs.drop (j+1)) m else
    if (K f.kind gs[j].kind m).1=false then(false,(K f.kind gs[j].kind m).2)
    else if st=82/\Jp S f≠Jp T gs[j]then(false,(K f.kind gs[j].kind m).2)
    else S7 S T K t st (gs.drop (j+1)) (K f.kind gs[j].kind m).2):=by
 rw[List.drop_eq_getElem_cons hj];rfl
theorem Qdc(S T:List Ty)(K:Kd->Kd->List Cv->Bool × List Cv)(t:Ty)(st:UInt8)(gs:List Fd)(m:List Cv):S7 S T K t st (gs.drop gs.length) m=(true,m):=by rw[List.drop_length];rfl
theorem Qi7{fs:List Fd}{n:Nat}{f:Fd}(h:Au fs n=some f):f∈fs:=List.mem_of_find?_eq_some h
theorem Jf{st:UInt8}{f:Fd}(h:Sb st f):f.given.length<=14:=by
 by_cases hs:st=69
 ·rw[(h.2.2.2.1 hs).2];simp
 by_cases hg:f.given=[]
 ·rw[hg];simp
 have:=((h.2.2.2.2 hs).2 hg).2.2;unfold Bz at this;split at this
 ·exact ju
 split at this
 ·exact j9
 split at this
 ·simp only[decide_eq_true_eq]at this;rw[this];simp
 cases this
theorem Qbz(w0:World)(v1 v2:Value)(xs ys:List (Ty × Value))(hx:Jq w0 v1 xs)(hy:Jq w0 v2 ys)(hS:Jc (Af xs))(hT:Jc (Af ys))(n:Nat)(t u:Ty)(tv uv:Value)(htm:(t,tv)∈xs)(hum:(u,uv)∈ys)
  (ih:∀a b m W mv,Cw a->Cw b->Bx (Af xs) a->Bx (Af ys) b->Jt (Af xs) (Af ys) m->64<n+m.length->Fi w0 v1 v2 W m mv ->
   Calls prog 42 #[w0.heap.size,.string ⟨(Bj a).toArray⟩,.string ⟨(Bj b).toArray⟩] W (Vj w0 v1 v2 (Pm (Af xs) (Af ys) n a b m) W mv))
  (m:List Cv) (hm:Jt (Af xs) (Af ys) m) (hn:64<n+m.length) (w:World) (mv:Value) (hst:Fi w0 v1 v2 w m mv):
  Calls prog 66 #[w0.heap.size,Kx t tv,Kx u uv] w (Vj w0 v1 v2 (Yb (Af xs) (Af ys) (Pm (Af xs) (Af ys) n) t u m) w mv):=by
 have HF:=@Aa (Yb (Af xs) (Af ys) (Pm (Af xs) (Af ys) n) t u m=if t.sort≠u.sort then(false,m)else S7 (Af xs) (Af ys) (Pm (Af xs) (Af ys) n) t u.sort u.fields m) rfl;have Hst:=Aa hst;have Hx:=Aa hx;have Hy:=Aa hy;have Ih:=Aa ih;have HS:=Aa hS;have HT:=Aa hT;have Hgr:=Aa (Ms (Af xs) (Af ys) n);have Hto:=Aa (hS.1.1 t (ap (f:=(·.1)) htm));have Huo:=Aa (hT.1.1 u (ap (f:=(·.1)) hum));have Htk:=Aa (hS.2.1 t (ap (f:=(·.1)) htm));have Huk:=Aa (hT.2.1 u (ap (f:=(·.1)) hum));have Hm:=Aa hm;have htf:Er w0 tv t.fields:=by obtain⟨_,_,_,_,_,hf⟩:=hx;exact hf _ htm
 have huf:Er w0 uv u.fields:=by obtain⟨_,_,_,_,_,hf⟩:=hy;exact hf _ hum
 have Htf:=Aa htf;obtain⟨A1,c1,rfl,hxl,_⟩:=hx;obtain⟨A2,c2,rfl,hyl,_⟩:=hy;obtain⟨A3,n3,c3,rfl⟩:=J6 hst.2.2.2.2.2.2;obtain⟨A4,c4,rfl,_,_⟩:=htf;obtain⟨A5,c5,rfl,_,hrow5⟩:=huf;have Hrow5:=Aa hrow5;have hsz0:w0.heap.size<w.heap.size:=hst.size;have Hfar:=Aa hst.far;clear hst ih hS hT hm htm hum hrow5;unfold Kx;go_enter func66,ntmps66;by_cases hsu:t.sort=u.sort
 ·have t1:((t.sort.toNat:Int) != (u.sort.toNat:Int))=false:=by simp[hsu]
  have t2:((t.sort.toNat:Int) == (u.sort.toNat:Int))=true:=by simp[hsu]
  have HF2:=Aa (HF.o.trans (if_neg (by simp[hsu])));have Hsu:=Aa hsu;clear hsu;go_wp2_with fail;obtain⟨W2,hW2⟩:∃W2,W2=(w.alloc (.cells #[.int .u8 (t.sort.toNat:Int),t.name,.slice A4 t.fields.length c4] 100)).alloc (.cells #[.int .u8 (u.sort.toNat:Int),u.name,.slice A5 u.fields.length c5] 100):=⟨_,rfl⟩
  rw[<-hW2];have X4:=@Aa (W2.rangeAt w 0 [.int .u8 (t.sort.toNat:Int),t.name,.slice A4 t.fields.length c4]) (by rw[hW2];exact Aj (Bw w [.int .u8 (t.sort.toNat:Int),t.name,.slice A4 t.fields.length c4] _) (Nat.lt_succ_self _) ((Aq _ _).alloc aL _));have X5:=@Aa (W2.rangeAt (w.heap.size+1) 0 [.int .u8 (u.sort.toNat:Int),u.name,.slice A5 u.fields.length c5]) (by rw[hW2];have:=Bw (w.alloc (.cells #[.int .u8 (t.sort.toNat:Int),t.name,.slice A4 t.fields.length c4] 100)) [.int .u8 (u.sort.toNat:Int),u.name,.slice A5 u.fields.length c5] 100;simpa using this);have hb2:Below w w W2:=gR;have Hst2:=Aa (Hst.o.below hb2);have Hk2:=Aa (D8.of_below (ab:=w0.heap.size) (mv:=.slice A3 n3 c3) hb2);have hz2:W2.heap.size=w.heap.size+2:=by rw[hW2];simp
  clear hW2 hb2
  go_loopw [7] (fun i wr=>∃(j:Nat) (m':List Cv) (mv':Value),i=.int .i64 j/\j<=u.fields.length/\Hid (Yb (Af xs) (Af ys) (Pm (Af xs) (Af ys) n) t u m=S7 (Af xs) (Af ys) (Pm (Af xs) (Af ys) n) t u.sort (u.fields.drop j) m') /\
   Hid (Fi w0 (.slice A1 xs.length c1) (.slice A2 ys.length c2) wr m' mv')/\Hid (D8 w0.heap.size (.slice A3 n3 c3) W2 wr mv')/\Hid (Jt (Af xs) (Af ys) m')/\m.length<=m'.length) (fun i _=>u.fields.length - (intOf i).toNat)
  case atStart=>exact⟨0,m,_,rfl,ag _,HF2.o,Hst2.o,D8.refl _ _ _,Hm.o,Ap _⟩
  case round=>
   obtain⟨j,m',mv',rfl,hj,heq,hst',hk',hm',hml⟩:=hrel;have j1:(0:Int)<=(j:Int):=aH;obtain⟨A3',n3',c3',rfl⟩:=J6 hst'.out.2.2.2.2.2.2;have Hmv:=@Aa ((Value.slice A3' n3' c3').ownBlock=(Value.slice A3 n3 c3).ownBlock\/∃k,(Value.slice A3' n3' c3').ownBlock=some k/\W2.heap.size<=k) hk'.out.own
   have Hne4:=Aa (show ∀b,w.heap.size<=b->b<W2.heap.size->some b≠(Value.slice A3' n3' c3').ownBlock from fun b h1 h2 e=>by
    rcases Hmv.o with h|⟨k,h,hk⟩
    ·rw[h]at e;exact Hfar.o b h1 e
    rw[h]at e;injection e with e;omega)
   have x4:=D8.range hk'.out X4.o (show w.heap.size<W2.heap.size by omega) (show w.heap.size≠w0.heap.size by omega) (Hfar.o _ (Ap _));have x5:=D8.range hk'.out X5.o (show w.heap.size+1<W2.heap.size by omega) (show w.heap.size+1≠w0.heap.size by omega) (Hfar.o _ aH);have x40:wr.cell? (w,0)=some (.int .u8 (t.sort.toNat:Int)):=by simpa using Ab x4 0 rfl
   have x41:wr.cell? (w,1)=t.name:=by simpa using Ab x4 1 rfl
   have x42:wr.cell? (w,2)=some (.slice A4 t.fields.length c4):=by simpa using Ab x4 2 rfl
   have x52:wr.cell? (w,1,2)=some (.slice A5 u.fields.length c5):=by simpa using Ab x5 2 rfl
   have hzr:W2.heap.size<=wr.heap.size:=hk'.out.size;clear x4 x5;by_cases hlt:j<u.fields.length
   ·have j2:(j:Int)<(u.fields.length:Int):=aH;have Hstep:=Aa (heq.o.trans (Zw _ _ _ t u.sort u.fields j hlt m'));obtain⟨bb,off,rfl,hbb,g0,g1,g2,g3⟩:=Er.at_ (Hrow5.o.below hst'.out.1) hlt;have Hgm:=Aa (ae hlt);generalize u.fields[j]=g at g0 g1 g2 g3 Hstep Hgm;have Hgo:=Aa (Huo.o.2.2.1.1 g Hgm.o);have hgt:g.tag<=200:=Hgo.o.2.1;have Hft:=Aa (fun W (h:Below w0 w0 W)=>Qd (.int .u8 (t.sort.toNat:Int)) t.name (.slice A4 t.fields.length c4) t.fields g.tag W (Htf.o.below h) aH);have hbn:¬(bb=wr.heap.size):=aH;have hwn:¬(w.heap.size=wr.heap.size):=aH;have hwn1:¬(w.heap.size+1=wr.heap.size):=aH;have hwl:w.heap.size<wr.heap.size:=aH;have hwl1:w.heap.size+1<wr.heap.size:=aH;go_wp2_with fail;have Hw5:=@Aa (Below w0 w0 (wr.alloc (.cells #[(g.tag:Int),g.name,.string ⟨(Bj g.kind).toArray⟩,g.given] 104))) (hst'.out.1.alloc aH _);refine(Hft.o _ Hw5.o).mono ?_;rintro e w5 ⟨rfl,hb5⟩;have Hb5:=@Aa (Below wr wr w5) (((Aq _ _).alloc (Ap _) _).trans (hb5.mono aL));have X8:=@Aa (w5.rangeAt wr 0 [(g.tag:Int),g.name,.string ⟨(Bj g.kind).toArray⟩,g.given]) (Aj (Bw wr [(g.tag:Int),g.name,.string ⟨(Bj g.kind).toArray⟩,g.given] _) aL hb5);have hz5:wr.heap.size<w5.heap.size:=gz;have y40:w5.cell? (w,0)=some (.int .u8 (t.sort.toNat:Int)):=(Hb5.o.cell (p:=⟨w.heap.size,0,none⟩) hwl).trans x40;have hwl5:w.heap.size<w5.heap.size:=aH;have hwn5:¬(w.heap.size=w5.heap.size):=aH;have Hst5:=Aa (hst'.out.below Hb5.o);have Hk5:=Aa (hk'.out.trans (D8.of_below Hb5.o));have Hsu2:=@Aa (u.sort=t.sort) Hsu.o.symm;rw[Hsu2.o]at Hstep;clear hb5 x40 x41 x42 x52 g0 g1 g2 g3;cases hfo:Au t.fields g.tag with
    |none=>
     unfold sfR sf0;rw[hfo]at Hstep;clear hfo;by_cases h82:t.sort=82
     ·have t82:((t.sort.toNat:Int) != 82)=false:=by have:=Be (d:=82) h82;simpa using this
      have t82':((t.sort.toNat:Int) == 82)=true:=Be (d:=82) h82;have Hs2:=@Aa (Yb (Af xs) (Af ys) (Pm (Af xs) (Af ys) n) t u m=S7 (Af xs) (Af ys) (Pm (Af xs) (Af ys) n) t t.sort (u.fields.drop (j+1)) m') (by rw[Hstep.o];exact if_pos h82);clear h82;go_wp2_with fail;go_roundw
      case rel=>exact⟨j+1,m',_,by go_num,by omega,by rw[Hsu2.o];exact Hs2.o,Hst5.o.below ((Aq _ _).alloc (Ap _) _),Hk5.o.trans (D8.of_below ((Aq _ _).alloc (Ap _) _)),hm'.out,hml⟩
      case measure=>simp[intOf];omega
     have t82:((t.sort.toNat:Int) != 82)=true:=by have:=Am (d:=82) h82;simpa using this
     have t82':((t.sort.toNat:Int) == 82)=false:=Am (d:=82) h82;have Hs2:=@Aa (Yb (Af xs) (Af ys) (Pm (Af xs) (Af ys) n) t u m=(false,m')) (by rw[Hstep.o];exact if_neg h82);clear h82;go_wp2_with fail;go_ret;rw[Hs2.o];exact⟨rfl,_,Hst5.o.below ((Aq _ _).alloc (Ap _) _),(Hk2.o.trans Hk5.o).trans (D8.of_below ((Aq _ _).alloc (Ap _) _))⟩
    |some f=>
     have Hfm:=Aa (Qi7 hfo);unfold sfR sfV;rw[hfo]at Hstep;clear hfo;by_cases h69:t.sort=69
     ·have t69:((t.sort.toNat:Int) == 69)=true:=Be (d:=69) h69;have t69':((t.sort.toNat:Int) != 69)=false:=by have:=Be (d:=69) h69;simpa using this
      have Hs2:=@Aa (Yb (Af xs) (Af ys) (Pm (Af xs) (Af ys) n) t u m=S7 (Af xs) (Af ys) (Pm (Af xs) (Af ys) n) t t.sort (u.fields.drop (j+1)) m') (by rw[Hstep.o];exact if_pos h69);clear h69;go_wp2_with fail;go_roundw
      case rel=>exact⟨j+1,m',_,by go_num,by omega,by rw[Hsu2.o];exact Hs2.o,Hst5.o.below ((Aq _ _).alloc (Ap _) _),Hk5.o.trans (D8.of_below ((Aq _ _).alloc (Ap _) _)),hm'.out,hml⟩
      case measure=>simp[intOf];omega
     have t69:((t.sort.toNat:Int) == 69)=false:=Am (d:=69) h69;have t69':((t.sort.toNat:Int) != 69)=true:=by have:=Am (d:=69) h69;simpa using this
     have Hs2:=Aa (Hstep.o.trans (if_neg h69));have hfo:=Hto.o.2.2.1.1 f Hfm.o;have Hfk:=Aa (hfo.2.2.2.2 h69).1;have Hgk:=Aa (Hgo.o.2.2.2.2 (by rw[Hsu2.o];exact h69)).1;have Hfr:=Aa (Htk.o h69 f Hfm.o);have Hgr2:=Aa (Huk.o (by rw[Hsu2.o];exact h69) g Hgm.o);have hfg:=Jf hfo;have hgg:=Jf Hgo.o;have Hcall:=Aa (fun W (h:Fi w0 (.slice A1 xs.length c1) (.slice A2 ys.length c2) W m' (.slice A3' n3' c3'))=>Ih.o f.kind g.kind m' W _ Hfk.o Hgk.o Hfr.o Hgr2.o hm'.out aH h);have Hst1:=Aa (fun W (h:Below w0 w0 W)=>Nc _ xs HS.o f W (Hx.o.below h) Hfk.o Hfr.o aH);have Hst2':=Aa (fun W (h:Below w0 w0 W)=>Nc _ ys HT.o g W (Hy.o.below h) Hgk.o Hgr2.o aH);obtain⟨hma,hmb⟩:=Hgr.o f.kind g.kind m' hm'.out;have Hma:=Aa hma;have Hmb:=Aa hmb;go_wp2_with fail;obtain⟨W9,hW9⟩:∃W9,W9=w5.alloc (.cells #[(f.tag:Int),f.name,.string ⟨(Bj f.kind).toArray⟩,f.given] 104):=⟨_,rfl⟩
     rw[<-hW9];have X9:=@Aa (W9.rangeAt w5 0 [(f.tag:Int),f.name,.string ⟨(Bj f.kind).toArray⟩,f.given]) (by rw[hW9];exact Bw w5 [(f.tag:Int),f.name,.string ⟨(Bj f.kind).toArray⟩,f.given] _);have Hb9:=@Aa (Below w5 w5 W9) (by rw[hW9];exact(Aq _ _).alloc (Ap _) _);have hz9:W9.heap.size=w5.heap.size+1:=by rw[hW9];simp
     have Hst9:=Aa (Hst5.o.below Hb9.o);have Hk9:=Aa (Hk5.o.trans (D8.of_below Hb9.o));have X8':=Aa (Aj X8.o hz5 Hb9.o);have y40':W9.cell? (w,0)=some (.int .u8 (t.sort.toNat:Int)):=(Hb9.o.cell (p:=⟨w.heap.size,0,none⟩) hwl5).trans y40;have q90:=Aa (by simpa using Ab X9.o 0 rfl:W9.cell? (w5,0)=(f.tag:Int));have q91:=Aa (by simpa using Ab X9.o 1 rfl:W9.cell? (w5,1)=f.name);have q92:=Aa (by simpa using Ab X9.o 2 rfl:W9.cell? (w5,2)=some (.string ⟨(Bj f.kind).toArray⟩));have q93:=Aa (by simpa using Ab X9.o 3 rfl:W9.cell? (w5,3)=f.given);have q80:=Aa (by simpa using Ab X8'.out 0 rfl:W9.cell? (wr,0)=(g.tag:Int));have q81:=Aa (by simpa using Ab X8'.out 1 rfl:W9.cell? (wr,1)=g.name);have q82:=Aa (by simpa using Ab X8'.out 2 rfl:W9.cell? (wr,2)=some (.string ⟨(Bj g.kind).toArray⟩));have q83:=Aa (by simpa using Ab X8'.out 3 rfl:W9.cell? (wr,3)=g.given);have q40:=Aa y40';have b91:w5.heap.size<W9.heap.size:=aH;have b92:w5.heap.size≠w0.heap.size:=aH;have b93:some w5.heap.size≠(Value.slice A3' n3' c3').ownBlock:=hst'.out.far _ aH;have b81:wr.heap.size<W9.heap.size:=aH;have b82:wr.heap.size≠w0.heap.size:=aH;have b83:some wr.heap.size≠(Value.slice A3' n3' c3').ownBlock:=hst'.out.far _ aH;have b41:w.heap.size<W9.heap.size:=aH;have b42:w.heap.size≠w0.heap.size:=aH;have b43:some w.heap.size≠(Value.slice A3' n3' c3').ownBlock:=Hne4.o _ (Ap _) aH;have B91:=Aa b91;have B92:=Aa b92;have B93:=Aa b93;have B81:=Aa b81;have B82:=Aa b82;have B83:=Aa b83;have B41:=Aa b41;have B42:=Aa b42;have B43:=Aa b43;clear hW9 y40 y40' hma hmb hfo hwn hwn1 hwn5 hbn b91 b92 b93 b81 b82 b83 b41 b42 b43;generalize hr:Pm (Af xs) (Af ys) n f.kind g.kind m'=r at *;obtain⟨r1',r2⟩:=r;simp only[]at Hma Hmb;cases r1' with
     |false=>
      have Hs3:=@Aa (Yb (Af xs) (Af ys) (Pm (Af xs) (Af ys) n) t u m=(false,r2)) (Hs2.o.trans (if_pos rfl));refine Ge [51,52,53,54,55,56,57,58,59,60,61,62,63,64,65,66,67,68,69,70,71,72,73,74,75,76,77]
       (fun i v W=>match i with|0=>v=w0.heap.size|1=>v=(w5,2)|2=>v=.string ⟨(Bj f.kind).toArray⟩|3=>v=(wr,2)|4=>v=.string ⟨(Bj g.kind).toArray⟩|5=>v=.bool false|6=>v=.bool true|7=>v=.bool true|8=>v=undef|9=>v=undef|10=>v=undef|11=>v=undef|12=>v=undef|13=>v=undef|14=>v=undef|15=>v=undef|16=>v=undef|17=>v=undef|18=>v=undef|19=>v=undef|20=>v=undef|21=>v=undef|22=>v=undef|23=>v=undef|24=>v=undef|25=>v=undef|26=>v=.bool true|_=>True)
       (fun L U W=>∃mm mv9,Fi w0 (.slice A1 xs.length c1) (.slice A2 ys.length c2) W mm mv9/\D8 w0.heap.size (.slice A3' n3' c3') W9 W mv9/\(L 5=true->mm=r2)/\(L 5=false->mm=m'/\mv9=(.slice A3' n3' c3'))) (⟨m',(.slice A3' n3' c3'),Hst9.o.below ((Aq _ _).drew),D8.of_below ((Aq _ _).drew),fun h=>Bool.noConfusion h,fun _=>⟨rfl,rfl⟩⟩) ?_ ?_
      ·exact i9
      rintro L U W hL hφ hR;have e26:U 26=.bool true:=hφ 26 aK;simp only[e26];clear hφ;obtain⟨mm,mv9,ha9,hk9,h1,_⟩:=hR;obtain rfl:=h1 (hL 5 aK);have Ha9:=Aa ha9;have Hka:=Aa ((Hk2.o.trans Hk9.o).trans hk9);clear hL ha9 hk9 h1;go_wp2_with fail;go_ret;rw[Hs3.o];exact⟨rfl,mv9,Ha9.o,Hka.o⟩
     |true=>
      have Hs3:=Aa (Hs2.o.trans (if_neg aL));by_cases h82:t.sort=82
      ·have t82:((t.sort.toNat:Int) == 82)=true:=Be (d:=82) h82;have H82:=Aa h82;clear h82;obtain⟨nb,hnb⟩:∃nb,(!(Jp (Af xs) f == Jp (Af ys) g))=nb:=⟨_,rfl⟩
       have Hnb:=Aa hnb;refine Ge [51,52,53,54,55,56,57,58,59,60,61,62,63,64,65,66,67,68,69,70,71,72,73,74,75,76,77]
        (fun i v W=>match i with|0=>v=w0.heap.size|1=>v=(w5,2)|2=>v=.string ⟨(Bj f.kind).toArray⟩|3=>v=(wr,2)|4=>v=.string ⟨(Bj g.kind).toArray⟩|5=>v=.bool true|6=>v=.bool false|7=>v=.bool false|8=>v=w.heap.size|9=>v=.int .u8 (t.sort.toNat:Int)|10=>v=.bool true|11=>v=.bool true|12=>v=w0.heap.size|13=>v=w0.heap.size|14=>v=w0.heap.size|15=>v=.slice A1 xs.length c1|16=>v=.agg #[(f.tag:Int),f.name,.string ⟨(Bj f.kind).toArray⟩,f.given]|17=>v=.string ⟨(Jp (Af xs) f).toArray⟩|18=>v=w0.heap.size|19=>v=w0.heap.size|20=>v=(w0,1)|21=>v=.slice A2 ys.length c2|22=>v=.agg #[(g.tag:Int),g.name,.string ⟨(Bj g.kind).toArray⟩,g.given]|23=>v=.string ⟨(Jp (Af ys) g).toArray⟩|24=>v=.bool nb|25=>v=.bool nb|26=>v=.bool nb|_=>True)
        (fun L U W=>∃mm mv9,Fi w0 (.slice A1 xs.length c1) (.slice A2 ys.length c2) W mm mv9/\D8 w0.heap.size (.slice A3' n3' c3') W9 W mv9/\(L 5=true->mm=r2)/\(L 5=false->mm=m'/\mv9=(.slice A3' n3' c3'))) (⟨m',(.slice A3' n3' c3'),Hst9.o.below ((Aq _ _).drew),D8.of_below ((Aq _ _).drew),fun h=>Bool.noConfusion h,fun _=>⟨rfl,rfl⟩⟩) ?_ ?_
       ·repeat (first|exact Ah.nil|(refine Ah.cons ?_ ?_;rotate_left))
        all_goals
         rintro L U W hL hpre HR Hdep K hK;obtain⟨mm,mv9,ha9,hk9,r1,r5⟩:=HR.o;have a0:W.cell? (w0,0)=some (.slice A1 xs.length c1):=ha9.2.2.1;have a1:W.cell? (w0,1)=some (.slice A2 ys.length c2):=ha9.2.2.2.1;have f0:W.cell? (w5,0)=(f.tag:Int):=(hk9.cell B91.o B92.o B93.o).trans q90.o;have f1:W.cell? (w5,1)=f.name:=(hk9.cell B91.o B92.o B93.o).trans q91.o;have f2:W.cell? (w5,2)=some (.string ⟨(Bj f.kind).toArray⟩):=(hk9.cell B91.o B92.o B93.o).trans q92.o;have f3:W.cell? (w5,3)=f.given:=(hk9.cell B91.o B92.o B93.o).trans q93.o;have g0:W.cell? (wr,0)=(g.tag:Int):=(hk9.cell B81.o B82.o B83.o).trans q80.o;have g1:W.cell? (wr,1)=g.name:=(hk9.cell B81.o B82.o B83.o).trans q81.o;have g2:W.cell? (wr,2)=some (.string ⟨(Bj g.kind).toArray⟩):=(hk9.cell B81.o B82.o B83.o).trans q82.o;have g3:W.cell? (wr,3)=g.given:=(hk9.cell B81.o B82.o B83.o).trans q83.o;have s0:W.cell? (w,0)=some (.int .u8 (t.sort.toNat:Int)):=(hk9.cell B41.o B42.o B43.o).trans q40.o;first|(simp[Region.binds]at hpre;done)|simp[Region.binds]at hpre|clear hpre
        iterate 5
         ·exact il
        ·exact iG
        iterate 11
         ·exact il
        ·go_simp;refine(Hst1.o W ha9.1).mono ?_;rintro e w5 ⟨rfl,hb5⟩;exact hK _ _ _ rfl Ac ⟨mm,mv9,ha9.below hb5,hk9.trans (D8.of_below hb5),r1,r5⟩ aI
        iterate 5
         ·exact il
        ·go_simp;refine(Hst2'.out W ha9.1).mono ?_;rintro e w5 ⟨rfl,hb5⟩;exact hK _ _ _ rfl Ac ⟨mm,mv9,ha9.below hb5,hk9.trans (D8.of_below hb5),r1,r5⟩ aI
        iterate 3
         ·exact il
       rintro L U W hL hφ hR;have e26:U 26=.bool nb:=hφ 26 aK;simp only[e26];clear hφ;clear hnb;obtain⟨mm,mv9,ha9,hk9,h1,_⟩:=hR;obtain rfl:=h1 (hL 5 aK);have Ha9:=Aa ha9;have Hka:=Aa (Hk9.o.trans hk9);clear hL ha9 hk9 h1;cases nb with
       |true=>
        have Hs4:=Aa (Hs3.o.trans (if_pos ⟨H82.o,by have:=Hnb.o;simpa using this⟩));go_wp2_with fail;go_ret;rw[Hs4.o];exact⟨rfl,mv9,Ha9.o,Hk2.o.trans Hka.o⟩
       |false=>
        have Hs4:=Aa (Hs3.o.trans (if_neg (fun h=>h.2 (by have:=Hnb.o;simpa using this))));go_wp2_with fail;go_roundw
        case rel=>exact⟨j+1,mm,mv9,by go_num,by omega,by rw[Hsu2.o];exact Hs4.o,Ha9.o,Hka.o,Hma.o,by obtain⟨l,hl⟩:=Hmb.o;rw[hl,ah];omega⟩
        case measure=>simp[intOf];omega
      have t82:((t.sort.toNat:Int) == 82)=false:=Am (d:=82) h82;have Hs4:=Aa (Hs3.o.trans (if_neg (fun h=>h82 h.1)));clear h82;refine Ge [51,52,53,54,55,56,57,58,59,60,61,62,63,64,65,66,67,68,69,70,71,72,73,74,75,76,77]
       (fun i v W=>match i with|0=>v=w0.heap.size|1=>v=(w5,2)|2=>v=.string ⟨(Bj f.kind).toArray⟩|3=>v=(wr,2)|4=>v=.string ⟨(Bj g.kind).toArray⟩|5=>v=.bool true|6=>v=.bool false|7=>v=.bool false|8=>v=w.heap.size|9=>v=.int .u8 (t.sort.toNat:Int)|10=>v=.bool false|11=>v=.bool false|12=>v=undef|13=>v=undef|14=>v=undef|15=>v=undef|16=>v=undef|17=>v=undef|18=>v=undef|19=>v=undef|20=>v=undef|21=>v=undef|22=>v=undef|23=>v=undef|24=>v=undef|25=>v=.bool false|26=>v=.bool false|_=>True)
       (fun L U W=>∃mm mv9,Fi w0 (.slice A1 xs.length c1) (.slice A2 ys.length c2) W mm mv9/\D8 w0.heap.size (.slice A3' n3' c3') W9 W mv9/\(L 5=true->mm=r2)/\(L 5=false->mm=m'/\mv9=(.slice A3' n3' c3'))) (⟨m',(.slice A3' n3' c3'),Hst9.o.below ((Aq _ _).drew),D8.of_below ((Aq _ _).drew),fun h=>Bool.noConfusion h,fun _=>⟨rfl,rfl⟩⟩) ?_ ?_
      ·exact i9
      rintro L U W hL hφ hR;have e26:U 26=.bool false:=hφ 26 aK;simp only[e26];clear hφ;obtain⟨mm,mv9,ha9,hk9,h1,_⟩:=hR;obtain rfl:=h1 (hL 5 aK);have Ha9:=Aa ha9;have Hka:=Aa (Hk9.o.trans hk9);clear hL ha9 hk9 h1;go_wp2_with fail;go_roundw
      case rel=>exact⟨j+1,mm,mv9,by go_num,by omega,by rw[Hsu2.o];exact Hs4.o,Ha9.o,Hka.o,Hma.o,by obtain⟨l,hl⟩:=Hmb.o;rw[hl,ah];omega⟩
      case measure=>simp[intOf];omega
   ·obtain rfl:j=u.fields.length:=aH;have Hend:=Aa (heq.o.trans (Qdc _ _ _ t u.sort u.fields m'));go_wp2_with fail;go_ret;rw[Hend.o];exact⟨rfl,_,hst'.out,Hk2.o.trans hk'.out⟩
 have t1:((t.sort.toNat:Int) != (u.sort.toNat:Int))=true:=by simp;intro h;exact hsu (UInt8.toNat_inj.1 aH)
 have t2:((t.sort.toNat:Int) == (u.sort.toNat:Int))=false:=by simpa using t1
 have HF2:=Aa (HF.o.trans (if_pos hsu));clear hsu;go_wp2_with fail;go_ret;rw[HF2.o];exact⟨rfl,_,Hst.o.below (((Aq _ _).alloc (Ap _) _).alloc aL _),D8.of_below (((Aq _ _).alloc (Ap _) _).alloc aL _)⟩
theorem Sd(s d:List UInt8)(w:World)(hs:s.length<=4000000)(hd:d.length<=4000000):
  Calls prog 41 #[s,d] w (Gy (Bn s d) w):=by
 cases h:Cl s with
 |none=>exact Vo s d w hs h
 |some S=>cases hk:Co d with
  |none=>exact Yn s d w hs hd S h hk
  |some k=>exact Qdm s d w hs S h k hk
theorem Qb5{s d:List UInt8}{S:List Ty}{k:Kd}(h:Bn s d=some (S,k)):Cl s=some S/\Co d=some k/\Bx S k:=by
 unfold Bn at h;cases h1:Cl s with
 |none=>rw[h1]at h;cases h
 |some T=>cases h2:Co d with
  |none=>rw[h1,h2]at h;cases h
  |some q=>
   rw[h1,h2]at h;simp only at h;split at h
   ·rename_i hr;simp only[aj,aE]at h;obtain⟨rfl,rfl⟩:=h;exact⟨rfl,rfl,hr⟩
   cases h
theorem Du{s d:List UInt8}{S:List Ty}{k:Kd}(h:Bn s d=some (S,k)):Jc S/\s.length<=400/\scB S=s/\Cw k/\Bj k=d/\Bx S k:=by
 obtain⟨h1,h2,h3⟩:=Qb5 h;obtain⟨a1,a2,a3⟩:=Rb.1 h1;obtain⟨b1,b2⟩:=Em.1 h2;exact⟨a1,a2,a3,b1,b2,h3⟩
theorem Qf7(w0:World)(v1 v2:Value)(xs ys:List (Ty × Value))(hx:Jq w0 v1 xs)(hy:Jq w0 v2 ys)(hS:Jc (Af xs))(hT:Jc (Af ys)):∀(n:Nat) (a b:Kd) (m:List Cv) (w:World) (mv:Value),
  Cw a->Cw b->Bx (Af xs) a->Bx (Af ys) b->Jt (Af xs) (Af ys) m->64<n+m.length->Fi w0 v1 v2 w m mv ->
   Calls prog 42 #[w0.heap.size,.string ⟨(Bj a).toArray⟩,.string ⟨(Bj b).toArray⟩] w (Vj w0 v1 v2 (Pm (Af xs) (Af ys) n a b m) w mv):=by
 have h8:(Af xs).length*(Af ys).length<=64:=by
  have h1:=hS.1.2.1;have h2:=hT.1.2.1;exact ad (Nat.mul_le_mul h1 h2) aK
 intro n;induction n with
 |zero=>
  intro a b m w mv _ _ _ _ hm hn _;have:=hm.len;omega
 |succ n ih=>
  intro a b m w mv ha hb hra hrb hm hn hst;have hml:m.length<=64:=ad hm.len h8;refine Qco w0 v1 v2 xs ys hx hy n a b m w mv ha hb hra hrb hml hst (fun t fv u gv W mv' htm hum hW h1 h2 hnin=>?_);have hm2:Jt (Af xs) (Af ys) (m++[(a.name,b.name)]):=hm.snoc (Fa.1 (by rw[h1];rfl)) (Fa.1 (by rw[h2];rfl)) hnin;exact Qbz w0 v1 v2 xs ys hx hy hS hT n t u fv gv htm hum (fun a' b' m' W' mv'' h1 h2 h3 h4 h5 h6 h7=>ih a' b' m' W' mv'' h1 h2 h3 h4 h5 h6 h7) _ hm2 aM W mv' hW
def Qh5(o1 o2:Option (List Ty × Kd))(w:World)(e:Ending)(w':World):Prop:=
 ∃v1 v2,e=.returned (.tuple #[v1,v2,.bool (Eu o1 o2)])/\Below w w w'/\(∃A n c,v1=.slice A n c)/\(∃A n c,v2=.slice A n c) /\
  (match o1,o2 with
  |some x,some y=>∃xs ys,Af xs=x.1/\Af ys=y.1/\Jq w' v1 xs/\Jq w' v2 ys
  |_,_=>True)
theorem Qcx(s1 d1 s2 d2:List UInt8)(w:World)(h1:s1.length<=4000000)(h2:d1.length<=4000000)(h3:s2.length<=4000000)(h4:d2.length<=4000000):
  Calls prog 25 #[s1,d1,s2,d2] w (Qh5 (Bn s1 d1) (Bn s2 d2) w):=by
 have Hk1:=Aa (fun W=>Sd s1 d1 W h1 h2);have Hk2:=Aa (fun W=>Sd s2 d2 W h3 h4);have Hg1:=Aa (fun S k (h:Bn s1 d1=some (S,k))=>Du h);have Hg2:=Aa (fun S k (h:Bn s2 d2=some (S,k))=>Du h);generalize Bn s1 d1=o1 at *;generalize Bn s2 d2=o2 at *;go_enter func25,ntmps25;go_wp2_with fail;refine(Hk1.o _).mono ?_;rintro e w1 ⟨hc1,hb1⟩;have Hb1:=Aa hb1;clear hb1;cases o1 with
 |none=>
  obtain⟨A,n,c,rfl⟩:=hc1;go_wp2_with fail;refine(Hk2.o _).mono ?_;rintro e w2 ⟨hc2,hb2⟩;have Hb2:=Aa (Hb1.o.trans (hb2.mono Hb1.o.size));clear hb2;cases o2 with
  |none=>
   obtain⟨A2,n2,c2,rfl⟩:=hc2;go_wp2_with fail;refine aF (v:=.tuple #[.slice none 0 0,.slice none 0 0,.bool false]) (by simp[results,results25,go_sem]) rfl ?_;exact⟨_,_,rfl,Hb2.o,⟨_,_,_,rfl⟩,⟨_,_,_,rfl⟩,Ac⟩
  |some y=>
   obtain⟨v,ys,rfl,hys,hsc⟩:=hc2;clear hsc;go_wp2_with fail;refine aF (v:=.tuple #[.slice none 0 0,.slice none 0 0,.bool false]) (by simp[results,results25,go_sem]) rfl ?_;exact⟨_,_,rfl,Hb2.o,⟨_,_,_,rfl⟩,⟨_,_,_,rfl⟩,Ac⟩
 |some x=>
  obtain⟨S,k⟩:=x;obtain⟨v,xs,rfl,hxs,hsc⟩:=hc1;simp only at hxs;have Hxs:=Aa hxs;have Hsc:=Aa hsc;clear hsc hxs;go_wp2_with fail;refine(Hk2.o _).mono ?_;rintro e w2 ⟨hc2,hb2⟩;have Hsc2:=Aa (Hsc.o.below hb2);have Hb2:=Aa (Hb1.o.trans (hb2.mono Hb1.o.size));clear hb2;cases o2 with
  |none=>
   obtain⟨A2,n2,c2,rfl⟩:=hc2;go_wp2_with fail;refine aF (v:=.tuple #[.slice none 0 0,.slice none 0 0,.bool false]) (by simp[results,results25,go_sem]) rfl ?_;exact⟨_,_,rfl,Hb2.o,⟨_,_,_,rfl⟩,⟨_,_,_,rfl⟩,Ac⟩
  |some y=>
   obtain⟨T,k2⟩:=y;obtain⟨v2,ys,rfl,hys,hsc2⟩:=hc2;simp only at hys;have Hys:=Aa hys;have Hscy:=Aa hsc2;clear hsc2 hys;obtain⟨A1,c1,rfl,_⟩:=Hsc2.o;obtain⟨A2,c2,rfl,_⟩:=Hscy.o;obtain⟨hS,_,_,hk1,hd1,hr1⟩:=Hg1.o _ _ rfl;obtain⟨hT,_,_,hk2,hd2,hr2⟩:=Hg2.o _ _ rfl;have hfs:=Hxs.o;have hft:=Hys.o;subst hfs hft hd1 hd2;have Hask:=Aa (fun W (h:Fi w2 (.slice A1 xs.length c1) (.slice A2 ys.length c2) W [] (.slice none 0 0))=>Qf7 w2 _ _ xs ys Hsc2.o Hscy.o hS hT 65 k k2 [] W _ hk1 hk2 hr1 hr2 (Jt.nil _ _) aL h);have Hev:Hid (Eu (some (Af xs,k)) (some (Af ys,k2))=(Pm (Af xs) (Af ys) 65 k k2 []).1):=rfl;generalize Pm (Af xs) (Af ys) 65 k k2 []=r at *;clear hS hT hk1 hk2 hr1 hr2;go_wp2_with fail;refine(Hask.o _ ?_).mono ?_
   ·refine⟨(Aq _ _).alloc (Ap _) _,by simp,by simp,by simp,by simp,?_,World.ownsRow_nil _ _ _ _⟩;exact Cc w2 [.slice A1 xs.length c1,.slice A2 ys.length c2,.slice none 0 0] _
   rintro e w3 ⟨rfl,mv,hst,_⟩;have Hb3:=Aa hst.1;clear hst;go_wp2_with fail;refine aF (v:=.tuple #[.slice A1 xs.length c1,.slice A2 ys.length c2,.bool r.1]) (by simp[results,results25,go_sem]) rfl ?_;exact⟨_,_,by rw[Hev.o],Hb2.o.trans (Hb3.o.mono Hb2.o.size),⟨_,_,_,rfl⟩,⟨_,_,_,rfl⟩,⟨xs,ys,rfl,rfl,Hsc2.o.below Hb3.o,Hscy.o.below Hb3.o⟩⟩
theorem Qjn(s1 d1 s2 d2:List UInt8)(w:World)(h1:s1.length<=4000000)(h2:d1.length<=4000000)(h3:s2.length<=4000000)(h4:d2.length<=4000000):
  Calls prog 86 #[s1,d1,s2,d2] w fun e w'=>e=.returned (.bool (Eu (Bn s1 d1) (Bn s2 d2)))/\Below w w w':=by
 have Hr:=Aa (fun W=>Qcx s1 d1 s2 d2 W h1 h2 h3 h4);generalize Bn s1 d1=o1 at *;generalize Bn s2 d2=o2 at *;go_enter func86,ntmps86;go_wp2_with fail;refine(Hr.o _).mono ?_;rintro e w1 ⟨v1,v2,rfl,hb1,_,_,_⟩;have Hb1:=Aa hb1;clear hb1;go_wp2_with fail;go_ret;exact⟨rfl,Hb1.o⟩
inductive SV where
 |mk (kind text:List UInt8) (tags:List Nat) (kids:List SV)
def Qa(S:List Ty)(k:Kd)(g:Nat):Kd:=match Bp S k.name with
 |some t=>(match Au t.fields g with|some f=>f.kind|none=>Kd.nil)
 |none=>Kd.nil
mutual
def Cq(S:List Ty):Kd->Vl->SV
 |k,.mk w tx tg ks=>
  if w=91\/w=63 then .mk (Bj k) [] [] (Ss S k.part ks)
  else if w=69 then .mk (Bj k) [69] [tg] []
  else if w=85 then .mk (Bj k) [85] [tg] (Ss S (Qa S k tg) ks)
  else if w=82 then .mk (Bj k) [82] (ks.map Vl.tag) (Qc3 S k ks)
  else .mk (Bj k) (if w=116 then 39::(tx++[39])else tx) [] []
def Ss(S:List Ty):Kd->List Vl->List SV
 |_,[]=>[]
 |k,x::xs=>Cq S k x::Ss S k xs
def Qc3(S:List Ty):Kd->List Vl->List SV
 |_,[]=>[]
 |k,.mk _ _ tg ks::xs=>Ss S (Qa S k tg) ks++Qc3 S k xs
end
theorem Pk(S:List Ty)(k:Kd):∀ks:List Vl,Ss S k ks=ks.map (Cq S k)
 |[]=>rfl
 |x::xs=>by rw[Ss,Pk S k xs];rfl
theorem Xp(S:List Ty)(k:Kd):∀ps:List (Fd × Vl),Qc3 S k (ps.map De)=ps.map fun p=>Cq S (Qa S k p.1.tag) p.2
 |[]=>rfl
 |p::ps=>by rw[ay,De,Qc3,Xp S k ps,Ss,Ss];rfl
theorem Y8(S:List Ty)(k:Kd)(m:Nat):Cq S k (.mk 110 (Bb m) 0 [])=.mk (Bj k) (Bb m) [] []:=by simp[Cq]
theorem Vf(S:List Ty)(k:Kd)(s:List UInt8):Cq S k (.mk 116 s 0 [])=.mk (Bj k) (39::(s++[39])) [] []:=by simp[Cq]
theorem Vm(S:List Ty)(k:Kd)(s:List UInt8):Cq S k (.mk 102 s 0 [])=.mk (Bj k) s [] []:=by simp[Cq]
theorem Q5(S:List Ty)(k:Kd)(ks:List Vl):Cq S k (.mk 91 [] 0 ks)=.mk (Bj k) [] [] (ks.map (Cq S k.part)):=by simp[Cq,Pk]
theorem Kr(S:List Ty)(k:Kd)(ks:List Vl):Cq S k (.mk 63 [] 0 ks)=.mk (Bj k) [] [] (ks.map (Cq S k.part)):=by simp[Cq,Pk]
theorem Rh(S:List Ty)(k:Kd)(g:Nat):Cq S k (.mk 69 [] g [])=.mk (Bj k) [69] [g] []:=by simp[Cq]
theorem Qw(S:List Ty)(k:Kd)(g:Nat)(x:Vl):Cq S k (.mk 85 [] g [x])=.mk (Bj k) [85] [g] [Cq S (Qa S k g) x]:=by simp[Cq,Pk]
theorem Q4(S:List Ty)(k:Kd)(ps:List (Fd × Vl)):Cq S k (.mk 82 [] 0 (ps.map De))=.mk (Bj k) [82] (ps.map fun p=>p.1.tag) (ps.map fun p=>Cq S (Qa S k p.1.tag) p.2):=by
 simp[Cq,Xp];exact fun _ _ _=>rfl
theorem Fs{S:List Ty}{k:Kd}{t:Ty}{f:Fd}(ht:Bp S k.name=some t)(hf:Au t.fields f.tag=some f):Qa S k f.tag=f.kind:=by unfold Qa;rw[ht];simp only;rw[hf]
def Ec(l:List Nat):List Value:=l.map fun(n:Nat)=>.int .i64 (n:Int)
def Do(l:List Nat):List Value:=l.map fun b=>.pointer (b,0)
inductive Fl(P:Nat->Prop)(w:World):Nat->SV->Prop
 |mk {b:Nat} {v:SV} (kind text:List UInt8) (tags:List Nat) (A1 A2:Option Addr) (c1 c2:Nat) (xs:List (Nat × SV)) (hv:v=.mk kind text tags (xs.map (·.2))) (hb:b<w.heap.size) (hP:P b)
   (h0:w.cell? (b,0)=kind) (h1:w.cell? (b,1)=text) (h2:w.cell? (b,2)=some (.slice A1 tags.length c1)) (h3:w.cell? (b,3)=some (.slice A2 xs.length c2))
   (hr1:B9 w A1 tags.length (Ec tags)) (hr2:B9 w A2 xs.length (Do (xs.map (·.1)))) (hl1:tags.length<=1000) (hl2:xs.length<=1000) (hp1:∀g o,0<tags.length->A1=some ⟨g,o,none⟩->P g) (hp2:∀g o,0<xs.length->A2=some ⟨g,o,none⟩->P g)
   (h:∀x∈xs,Fl P w x.1 x.2):Fl P w b v
theorem B9.keptP{P:Nat->Prop}{w w':World}{A:Option Addr}{n:Nat}{xs:List Value}(h:B9 w A n xs)(hP:∀g o,0<n->A=some ⟨g,o,none⟩->P g)(hc:∀b o u,P b->b<w.heap.size->w.cell? ⟨b,o,none⟩=some u->w'.cell? ⟨b,o,none⟩=some u)(hz:w.heap.size<=w'.heap.size):B9 w' A n xs:=by
 refine⟨h.1,h.2.1,fun hn=>?_⟩;obtain⟨b,off,e,hlt,hcs⟩:=h.2.2 hn;exact⟨b,off,e,ac hlt hz,fun j u hu=>hc b _ u (hP b off hn e) hlt (hcs j u hu)⟩
theorem Fl.kept{P Q:Nat->Prop}{w w':World}{b:Nat}{v:SV}(h:Fl P w b v)(hc:∀b o u,P b->b<w.heap.size->w.cell? ⟨b,o,none⟩=some u->w'.cell? ⟨b,o,none⟩=some u)
  (hz:w.heap.size<=w'.heap.size) (hQ:∀b,P b->b<w.heap.size->Q b):Fl Q w' b v:=by
 induction h with
 |mk kind text tags A1 A2 c1 c2 xs hv hb hP h0 h1 h2 h3 hr1 hr2 hl1 hl2 hp1 hp2 h ih=>
  refine .mk kind text tags A1 A2 c1 c2 xs hv (ac hb hz) (hQ _ hP hb) (hc _ _ _ hP hb h0) (hc _ _ _ hP hb h1) (hc _ _ _ hP hb h2) (hc _ _ _ hP hb h3) (hr1.keptP hp1 hc hz) (hr2.keptP hp2 hc hz) hl1 hl2 (fun g o hn e=>?_) (fun g o hn e=>?_) ih
  ·obtain⟨b',off,e2,hlt,_⟩:=hr1.2.2 hn;rw[e]at e2;injection e2 with e2;injection e2 with e2 _ _;subst e2;exact hQ g (hp1 g o hn e) hlt
  obtain⟨b',off,e2,hlt,_⟩:=hr2.2.2 hn;rw[e]at e2;injection e2 with e2;injection e2 with e2 _ _;subst e2;exact hQ g (hp2 g o hn e) hlt
theorem Fl.after{P:Nat->Prop}{w w':World}{b:Nat}{v:SV}(h:Fl P w b v)(hb:Below w w w'):Fl P w' b v:=
 h.kept (fun b o u _ hl hu=>(hb.cell (p:=⟨b,o,none⟩) hl).trans hu) hb.size fun _ h _=>h
theorem Fl.mono{P Q:Nat->Prop}{w:World}{b:Nat}{v:SV}(h:Fl P w b v)(hQ:∀b,P b->b<w.heap.size->Q b):Fl Q w b v:=h.kept (fun _ _ _ _ _ hu=>hu) (Ap _) hQ
theorem Fl.grown{P:Nat->Prop}{w w':World}{b:Nat}{v:SV}{row:Option Nat}(h:Fl P w b v)(hg:w.grownBy w' row)(hne:∀b,P b->some b≠row):Fl P w' b v:=
 h.kept (fun b o u hp _ hu=>hg.cell hu (hne b hp)) hg.size fun _ h _=>h
theorem Qb4(p:UInt8->Bool):∀(s:List UInt8) (i:Nat) (hi:i<s.length),(i<(s.takeWhile p).length->p s[i]=true)/\(i=(s.takeWhile p).length->p s[i]=false)
 |[],i,hi=>by simp at hi
 |x::s,0,hi=>by
  by_cases h:p x=true
  ·simp[h]
  simp[h]
 |x::s,i+1,hi=>by
  have ih:=Qb4 p s i ei;by_cases h:p x=true
  ·rw[List.takeWhile_cons_of_pos h];simpa using ih
  rw[List.takeWhile_cons_of_neg h];simp
theorem Qx(p:UInt8->Bool)(s:List UInt8):s.take (s.takeWhile p).length=s.takeWhile p/\s.drop (s.takeWhile p).length=s.dropWhile p/\(s.takeWhile p).length<=s.length:=by
 have e:s.takeWhile p++s.dropWhile p=s:=List.takeWhile_append_dropWhile;have h1:(s.takeWhile p++s.dropWhile p).take (s.takeWhile p).length=s.takeWhile p:=List.take_left;have h2:(s.takeWhile p++s.dropWhile p).drop (s.takeWhile p).length=s.dropWhile p:=List.drop_left;rw[e]at h1 h2;have h3:=congrArg List.length e;rw[ah]at h3;exact⟨h1,h2,by omega⟩
theorem Sj(s:List UInt8)(w:World)(hs:s.length<=4000000):
  Calls prog 93 #[s] w fun e w'=>e=.returned (.int .i64 ((s.takeWhile Bh).length:Int))/\w=w':=by
 have HT:=Aa (Qb4 Bh s);have hle:=(Qx Bh s).2.2;generalize hn:(s.takeWhile Bh).length=n at *;clear hn;go_enter func93,ntmps93;go_wp2_with fail;go_loop [3] (fun i=>∃k:Nat,i=.int .i64 k/\k<=n) (fun i=>n - (intOf i).toNat)
 case atStart=>exact⟨0,rfl,ag _⟩
 case round=>
  obtain⟨k,rfl,hk⟩:=hrel;by_cases hlt:k<s.length
  ·obtain⟨q1,q2⟩:=HT.o k hlt;have hc:=(s[k]).toNat_lt;by_cases hkn:k<n
   ·obtain⟨h3,h4⟩:=Dh.1 (q1 hkn);clear q1 q2;go_wp2_with fail;go_round
    case rel=>exact⟨k+1,by go_num,by omega⟩
    case measure=>simp[intOf];omega
   have hd:=q2 aH;have hkn2:k=n:=aH;have h2:(s[k]).toNat<48\/(48<=(s[k]).toNat/\57<(s[k]).toNat):=by
    by_cases h3:48<=(s[k]).toNat
    ·refine .inr ⟨h3,?_⟩;by_cases h4:57<(s[k]).toNat
     ·exact h4
     have:=Dh.2 ⟨h3,by omega⟩;rw[hd]at this;cases this
    exact .inl aH
   clear q1 q2 hd;subst hkn2;rcases h2 with h2|⟨h2,h3⟩
   ·go_wp2_with fail;go_ret;exact⟨rfl,rfl⟩
   go_wp2_with fail;go_ret;exact⟨rfl,rfl⟩
  ·have hkn2:k=n:=aH;subst hkn2;go_wp2_with fail;go_ret;exact⟨rfl,rfl⟩
def Bl(S:List Ty)(k:Kd)(o:Option (Vl × List UInt8))(w:World)(e:Ending)(w':World):Prop:=
 (match o with
  |some x=>∃b,e=.returned (.tuple #[.pointer (some ⟨b,0,none⟩),x.2,.bool true])/\Fl (fun c=>w.heap.size<=c) w' b (Cq S k x.1)
  |none=>∃(q:Option Addr) (r:ByteArray),e=.returned (.tuple #[.pointer q,.string r,.bool false]))/\Below w w w'
theorem Bl.no{S:List Ty}{k:Kd}{o:Option (Vl × List UInt8)}{w w':World}{e:Ending}(ho:o=none){q:Option Addr}{r:ByteArray}(he:e=.returned (.tuple #[.pointer q,.string r,.bool false]))(hb:Below w w w'):Bl S k o w e w':=by
 rw[ho];exact⟨⟨q,r,he⟩,hb⟩
theorem Fl.leaf{P:Nat->Prop}{w:World}{kind text:List UInt8}{T:TypeId}(hP:P w.heap.size):Fl P (w.alloc (.cells #[kind,text,.slice none 0 0,.slice none 0 0] T)) w.heap.size (.mk kind text [] []):=
 .mk kind text [] none none 0 0 [] rfl aL hP aL aL aL aL ⟨rfl,ag _,fun h=>absurd h aL⟩ ⟨rfl,ag _,fun h=>absurd h aL⟩ aL aL (fun _ _ h=>absurd h aL) (fun _ _ h=>absurd h aL) aL
theorem Qg8(s:List UInt8):Qg s=if Dp (s.takeWhile Bh) 999999 then(Cn (s.takeWhile Bh)).map (fun n=>(n,s.dropWhile Bh))else none:=by
 unfold Qg Dp;cases h:Cn (s.takeWhile Bh)with
 |none=>rfl
 |some n=>simp[(Ca.1 h).1]
theorem Qgq(S:List Ty)(xv:Value)(hxv:xv.oneCell'=true)(s:List UInt8)(k:Kd)(hs0:k.signs=[])(hb:k.base=[110])(w:World)(hs:s.length<=4000000)(q:Option (Vl × List UInt8))(hq:q=match Qg s with|some (n,r)=>some (.mk 110 (Bb n) 0 [],r)|none=>none):
  Calls prog 69 #[.agg #[xv],s,.string ⟨#[110]⟩] w (Bl S k q w):=by
 have hkd:Bj k=[110]:=cr;have HQ:=Aa (hq.trans (by rw[Qg8]));obtain⟨e1,e2,hle⟩:=Qx Bh s;have Hd:=Aa (fun W=>Sj s W hs);have Hn:=Aa (fun W=>Dg (s.takeWhile Bh) 999999 W aH aK);have HD:=Aa (fun m (h:Cn (s.takeWhile Bh)=some m)=>(Ca.1 h).2);have E1:=Aa e1;have E2:=Aa e2;have k1:((s.takeWhile Bh).length:Int)<=(s.length:Int):=aH;generalize (s.takeWhile Bh).length=n at *;generalize s.takeWhile Bh=tw at *;generalize s.dropWhile Bh=dw at *;have k2:(0:Int)<=(n:Int):=aH;have k3:((n:Int)).toNat=n:=aH;have hn8:n<=4000000:=aH;clear e1 e2 hs0 hb hq;go_enter func69,ntmps69;go_wp2_with fail;refine(Hd.o _).mono ?_;rintro e w1 ⟨rfl,rfl⟩;go_wp2_with fail;rw[E1.o];refine(Hn.o _).mono ?_;rintro e w2 ⟨m,hm,rfl,hdm,hb2⟩;have Hb2:=Aa (((Aq w.heap.size w).alloc (Ap _) (.cells #[xv] 92)).trans (hb2.mono aL));have Hdm:=Aa hdm;have hz2:=Hb2.o.size;have Hok:=Aa (show Dp tw 999999=(Cn tw).isSome by unfold Dp;cases h:Cn tw with|none=>rfl|some m=>simp[(Ca.1 h).1]);generalize Dp tw 999999=ok at *;clear hb2 hdm;go_wp2_with fail;refine Ge [26,27,28,29,30,31,32,33,34,35,6,7,8]
  (fun ix v W=>match ix with|0=>v=.string ⟨#[110]⟩|1=>v=(s:List UInt8)|2=>v=(n:Int)|3=>v=(tw:List UInt8)|4=>v=.agg #[.string ⟨#[110]⟩,(tw:List UInt8),.slice none 0 0,.slice none 0 0]|5=>∃c,v=.pointer (some ⟨c,0,none⟩)|6=>v=(s:List UInt8)|7=>v=(n:Int)|8=>v=(dw:List UInt8)|9=>v=.bool ok|10=>∃c,v=.pointer (some ⟨c,0,none⟩)|11=>v=(dw:List UInt8)|12=>v=.bool ok|_=>True)
  (fun L U W=>(L 5=false->Below w2 w2 W)/\(L 5=true->∃W7,W=W7.alloc (.cells #[.string ⟨#[110]⟩,(tw:List UInt8),.slice none 0 0,.slice none 0 0] 97)/\Below w2 w2 W7/\U 5=.pointer (some ⟨W7.heap.size,0,none⟩))/\(L 10=true->U 10=U 5)) (⟨fun _=>(Aq _ _).drew,fun h=>Bool.noConfusion h,fun h=>Bool.noConfusion h⟩) ?_ ?_
 ·repeat (first|exact Ah.nil|(refine Ah.cons ?_ ?_;rotate_left))
  all_goals
   rintro L U W hL hpre HR Hdep K hK;first|(simp[Region.binds]at hpre;done)|simp[Region.binds]at hpre|clear hpre
  iterate 3
   ·exact hG
  ·go_simp;rw[E1.o];first|exact hK _ _ _ rfl Ac HR.o rfl|exact kF hK HR.o
  ·exact hG
  ·obtain⟨R1,R2,R3⟩:=HR.o;have hB:=R1 hL;have h10:L 10=false:=Ax Hdep.o 10 5 rfl hL;go_simp;exact hK W.heap.size _ _ ⟨_,rfl⟩ Ac ⟨fun h=>by simp at h,fun _=>⟨W,rfl,hB,rfl⟩,fun h=>absurd (h10.symm.trans bg) aK⟩ aI
  iterate 2
   ·exact hG
  ·exact iP
  ·exact hG
  ·exact io
  iterate 2
   ·exact hG
 rintro L U W hL hφ hR;have hφ10:U 10=U 5:=hR.2.2 (hL 10 aK);have e11:U 11=(dw:List UInt8):=hφ 11 aK;have e12:U 12=.bool ok:=hφ 12 aK;clear hφ;obtain⟨_,h2,h3⟩:=hR;obtain⟨W7,rfl,hb7,u5⟩:=h2 (hL 5 aK);rw[u5]at hφ10;clear hL h2;simp only[hφ10,e11,e12];clear hφ10;go_wp2_with fail;refine aF (v:=.tuple #[.pointer (some ⟨W7.heap.size,0,none⟩),dw,.bool ok]) (by simp[results,results69,go_sem]) rfl ?_;have hz7:=hb7.size;have Hb7:=((Hb2.o.trans (hb7.mono hz2)).alloc (ad hz2 hz7) (.cells #[.string ⟨#[110]⟩,tw,.slice none 0 0,.slice none 0 0] 97))
 have HQ:=HQ.o;cases ok with
 |false=>exact Bl.no HQ rfl Hb7
 |true=>
  cases hd:Cn tw with
  |none=>rw[hd]at HQ;have:=Hok.o;rw[hd]at this;cases this
  |some m'=>
   rw[hd]at HQ;simp only[if_true,Option.map_some]at HQ;rw[HQ];refine⟨⟨W7.heap.size,rfl,?_⟩,Hb7⟩;rw[Y8,hkd,<-HD.o m' hd];exact Fl.leaf (P:=fun c=>w.heap.size<=c) aH
end
end Go.Proofs.YtkgkoicedddkmaaGreatDoor
