/- Texts joined. Conditions: as each theorem names them. -/
import Derived.Test.YtpjijpcemejlnaaGreatDoorN09
set_option maxRecDepth 100000
set_option maxHeartbeats 32000000
set_option linter.unusedVariables false
set_option linter.unusedSimpArgs false
namespace Go.Proofs.YtpjijpcemejlnaaGreatDoor
open Go.RowKit Go.Proofs.Tryz
section
attribute [local go_sem] Qhn Qg5 Qgq Qe7 ByteArray.mk_append_mk
def Qaz(o:Option (List UInt8))(w:World)(e:Ending)(w':World):Prop:=e=.returned (.tuple #[.string ⟨(o.getD []).toArray⟩,.bool o.isSome])/\Below w.heap.size w w'
theorem Jr.cases{s d x:List UInt8}{w w1:World}{e:Ending}(h:Jr s d x w e w1):Below w.heap.size w w1/\((Sk (C4 s d) x=none/\∃(v:Value) (q:Option Addr),e=.returned (.tuple #[v,.pointer q,.bool false])) \/
  ∃S k v xv xs b,C4 s d=some (S,k)/\Sk (C4 s d) x=some v/\e=.returned (.tuple #[xv,.pointer (some ⟨b,0,none⟩),.bool true])/\Ak xs=S/\Kv w1 xv xs/\Ge (fun c=>w.heap.size<=c) w1 b (Ct S k v)):=by
 obtain⟨hb1,hm⟩:=h
 refine⟨hb1,?_⟩
 cases hb:C4 s d with
 |none=>
  rw[hb]at hm
  obtain⟨v,q,he⟩:=hm
  exact .inl ⟨rfl,v,q,he⟩
 |some y=>
  rw[hb]at hm
  simp only at hm
  cases hv:H8 y.1 y.2 x with
  |none=>
   rw[hv]at hm
   obtain⟨v,q,he⟩:=hm
   exact .inl ⟨hv,v,q,he⟩
  |some v=>
   rw[hv]at hm
   obtain⟨xv,xs,b,he,h1,h2,hat⟩:=hm
   exact .inr ⟨y.1,y.2,v,xv,xs,b,rfl,hv,he,h1,h2,hat⟩
theorem Qa8{o:Option (List Ty × Kd)}{x:List UInt8}{f:List Ty->Kd->Vl->Option (List UInt8)}(h:Sk o x=none):vlB o x f=none:=by
 cases o with
 |none=>rfl
 |some y=>have h:H8 y.1 y.2 x=none:=h;simp[vlB,h]
theorem Qfm{S:List Ty}{d:Nat}{k:Kd}{v:Vl}(h:My S (d+1) k v)(h2:v.what≠82):∃tx tags kids,Ct S k v=.mk (Br k) tx tags kids/\tx≠[82]:=by
 cases h with
 |@n _ _ m hs hb h=>
  refine⟨_,_,_,Qas _ _ _,fun e=>?_⟩
  have:=Kr m
  rw[e]at this
  revert this
  decide
 |@t _ _ s hs hb h=>exact⟨_,_,_,Xf _ _ _,fun e=>by injection e with e;exact absurd e (by decide)⟩
 |@f _ _ x hs hb=>exact⟨_,_,_,Xe _ _ _,by cases x<;>decide⟩
 |lst=>exact⟨_,_,_,Rw _ _ _,by decide⟩
 |non=>exact⟨_,_,_,M7 _ _ _,by decide⟩
 |som=>exact⟨_,_,_,M7 _ _ _,by decide⟩
 |enm=>exact⟨_,_,_,Sj _ _ _,by decide⟩
 |uni=>exact⟨_,_,_,Rp _ _ _ _,by decide⟩
 |rcd=>exact absurd rfl h2
theorem Qc8{W W':World}{base n g m c:Nat}{e:TypeId}{v:Value}{xs:List Value}(h:W'.ownsRow base e 1 v n xs)(hw:v.ownBlock=(Value.slice (some ⟨g,0,none⟩) m c).ownBlock\/∃k,v.ownBlock=some k/\W.heap.size<=k):∃g' c',v=.slice (some ⟨g',0,none⟩) n c':=by
 rcases h.2 with⟨rfl,_⟩|⟨g',cap,cur,rfl,_⟩
 ·rcases hw with hw|⟨k,hw,_⟩<;>cases hw
 exact⟨g',cap,rfl⟩
theorem Qeh(s d x:List UInt8)(w:World)(HO:Calls prog 39 #[.string ⟨s.toArray⟩,.string ⟨d.toArray⟩,.string ⟨x.toArray⟩] w (Jr s d x w)):
  Calls prog 28 #[.string ⟨s.toArray⟩,.string ⟨d.toArray⟩,.string ⟨x.toArray⟩] w (Qaz (vlB (C4 s d) x Pj) w):=by
 have HO:=Aa HO
 go_enter func28,ntmps28
 go_wp2_with fail
 refine HO.o.mono ?_
 rintro e w1 hpost
 obtain⟨hb1,⟨hv,v,q,rfl⟩|⟨S,k,v,xv,xs,b,hb,hv,rfl,hxs,hsc,hat⟩⟩:=hpost.cases
 ·have HV:=Aa (Qa8 (f:=Pj) hv)
  have Hb1:=Aa hb1
  clear hv hpost hb1
  go_wp2_with fail
  go_ret2
  exact⟨by rw[HV.o];rfl,Hb1.o⟩
 obtain⟨S',k',e1,hok,hk,_,hkd,hvok,hpr,hxl⟩:=Tv hv
 rw[hb]at e1
 injection e1 with e1
 injection e1 with e1 e2
 subst e1 e2
 have hS:=hok.1.1
 have Hb1:=Aa hb1
 have HE:=Aa (show vlB (C4 s d) x Pj=Pj S k v by rw[hb];have h:H8 S k x=some v:=(by rw[hb]at hv;exact hv);simp[vlB,h])
 by_cases h82:v.what=82
 ·cases hvok with
  |n=>exact absurd h82 (by simp[Vl.what])
  |t=>exact absurd h82 (by simp[Vl.what])
  |f=>exact absurd h82 (by simp[Vl.what])
  |lst=>exact absurd h82 (by simp[Vl.what])
  |non=>exact absurd h82 (by simp[Vl.what])
  |som=>exact absurd h82 (by simp[Vl.what])
  |enm=>exact absurd h82 (by simp[Vl.what])
  |uni=>exact absurd h82 (by simp[Vl.what])
  |@rcd _ _ t fs hs hbs ht h2 hf h hn hp=>
   have hkd2:d=64::(k.name++[59]):=by rw[<-hkd];unfold Br Ck;rw[hs,if_pos hbs];rfl
   have HE2:=Aa (HE.o.trans (if_pos h82))
   have hfew:=Qbl hS ht hf hp
   have hfx:∃tv,Ek xs k.name=some (t,tv):=by
    rw[<-hxs,Js]at ht
    cases hq:Ek xs k.name with
    |none=>rw[hq]at ht;cases ht
    |some y=>rw[hq]at ht;simp at ht;subst ht;exact⟨y.2,rfl⟩
   obtain⟨tv,hfx⟩:=hfx
   have hfd:Eu w1 tv t.fields:=by obtain⟨_,_,_,_,_,hscf⟩:=hsc;exact hscf (t,tv) (D9 hfx).1
   obtain⟨A5,c5,rfl,hl5,hr5⟩:=hfd
   have hfd:Eu w1 (.slice A5 t.fields.length c5) t.fields:=⟨A5,c5,rfl,hl5,hr5⟩
   have hrx:Kl xs k=some (t,.slice A5 t.fields.length c5):=by unfold Kl;rw[if_pos ⟨hs,hbs⟩];exact hfx
   have HR:=Aa (fun W (hW:Below w1.heap.size w1 W)=>Gb xv xs k W (hsc.below hW) hk)
   rw[hrx,hkd]at HR
   rw[Ss,hkd]at hat
   obtain⟨A1,A2,c1,c2,ys,hbl,_,h0,h1,g2,_,r1,_⟩:=hat.open_
   rw[List.length_map]at g2 r1
   have Hft:=Aa hf
   have Hnm:=Aa (fun p (hp:p∈fs)=>(Dr.1 ((hS t (B6 ht).1).2.2.1.1 p.1 (Cb (hf p hp)).2).2.2.1).2.1)
   have Htg:=Aa (fun p (hp:p∈fs)=>((hS t (B6 ht).1).2.2.1.1 p.1 (Cb (hf p hp)).2).2.1)
   have Hfd:=Aa hfd
   have Hr1:=Aa r1
   have HF:=Aa (show ((Fc (·.1) ((fs.map (·.1.name)).zip (fs.map (·.1.name)))).map (·.1))=(byN S k (fs.map Dm)).map fun y=>Di S k y.tag by
    have e:fs.map (·.1.name)=(fs.map Dm).map fun y=>Di S k y.tag:=by
     rw[List.map_map]
     exact List.map_congr_left fun p hp=>(Jv ht (hf p hp)).symm
    rw[e,Qge S k (fs.map Dm) (fun y=>Di S k y.tag),List.map_map];rfl)
   have HLn:=Aa (show ((byN S k (fs.map Dm)).map fun y=>Di S k y.tag).length=fs.length/\∀p∈(byN S k (fs.map Dm)).map (fun y=>Di S k y.tag),p.length<=3 by
    refine⟨by rw[List.length_map,byN,(Gp _ _).length_eq,List.length_map],fun p hp=>?_⟩
    obtain⟨y,hy,rfl⟩:=List.mem_map.1 hp
    obtain⟨q,hq,rfl⟩:=List.mem_map.1 ((Gp _ _).mem_iff.1 hy)
    show (Di S k q.1.tag).length<=3
    rw[Jv ht (hf q hq)]
    exact Hnm.o q hq)
   subst hkd2
   clear hpost hb1 hb hv hok hk hkd hpr hS hat hsc hfd h82 hfx hrx hr5 hs hbs ht h2 hf h hn hp r1 HE hxs
   unfold P3 Nm at HR
   go_wp2_with fail
   refine(HR.o _ (At _ _)).mono ?_
   rintro e w2 ⟨rfl,hb2⟩
   have Hb2:=Aa hb2
   have k2:=(hb2.cell (p:=⟨b,2,none⟩) hbl).trans g2
   have hbl2:b<w2.heap.size:=Nat.lt_of_lt_of_le hbl hb2.size
   have Hr2:=Aa (Hr1.o.below hb2)
   have Hfd2:=Aa (Hfd.o.below hb2)
   clear hb2 HR
   go_wp2_with fail
   generalize hw3:World.alloc (World.alloc w2 _) _=w3
   have hb3:Below w2.heap.size w2 w3:=by rw[<-hw3];exact((At _ _).alloc (Ao _) _).alloc (by simp) _
   have ho3:Kt (w2.heap.size+1) w3 (w2.heap.size+1) 0 0 []:=by rw[<-hw3];have:=Nk (w2.alloc (.cells #[.int .u8 (t.sort.toNat:Int),.string ⟨t.name.toArray⟩,.slice A5 t.fields.length c5] 90)) 9 (w2.heap.size+1) (by simp);show World.ownsRow _ _ _ _ _ _ _;simpa [Af]using this
   have j0:w3.cell? ⟨w2.heap.size,0,none⟩=some (.int .u8 (t.sort.toNat:Int)):=by rw[<-hw3];simp[go_sem]
   have j1:w3.cell? ⟨w2.heap.size,1,none⟩=some (.string ⟨t.name.toArray⟩):=by rw[<-hw3];simp[go_sem]
   have j2:w3.cell? ⟨w2.heap.size,2,none⟩=some (.slice A5 t.fields.length c5):=by rw[<-hw3];simp[go_sem]
   have hz3:w3.heap.size=w2.heap.size+2:=by rw[<-hw3];simp
   have Hb3:=Aa hb3
   have Ho3:=Aa ho3
   clear hw3 hb3 ho3
   go_loopw [14,13,15,16] (fun i u y z wr=>∃(m g c:Nat),i=.int .i64 m/\u=.slice (some ⟨g,0,none⟩) m c/\m<=fs.length/\Hid (Kt (w2.heap.size+1) wr g m c ((fs.take m).map (·.1.name)))/\Hid (Below (w2.heap.size+1) w3 wr)) (fun i _ _ _ _=>fs.length - (intOf i).toNat)
   case atStart=>exact⟨0,w2.heap.size+1,0,rfl,rfl,Nat.zero_le _,Ho3.o,At _ _⟩
   case round=>
    obtain⟨m,g,c,rfl,rfl,hm,Hog,Hbr⟩:=hrel
    have m1:(0:Int)<=(m:Int):=by omega
    have hsz:=Hbr.o.size
    have hsz':w2.heap.size+1<=wr.heap.size:=by omega
    have e2:=(Hbr.o.cell (p:=⟨b,2,none⟩) (show b<_ by omega)).trans ((Hb3.o.cell (p:=⟨b,2,none⟩) hbl2).trans k2)
    have hlb:b<wr.heap.size:=by omega
    have Hb2r:=Aa (Hb3.o.trans (Hbr.o.mono (Nat.le_add_right _ 1)))
    by_cases hlt:m<fs.length
    ·have m2:(m:Int)<(fs.length:Int):=by omega
     have f0:=(Hbr.o.cell (p:=⟨w2.heap.size,0,none⟩) (show w2.heap.size<_ by omega)).trans j0
     have f1:=(Hbr.o.cell (p:=⟨w2.heap.size,1,none⟩) (show w2.heap.size<_ by omega)).trans j1
     have f2:=(Hbr.o.cell (p:=⟨w2.heap.size,2,none⟩) (show w2.heap.size<_ by omega)).trans j2
     have hl2:w2.heap.size<wr.heap.size:=by omega
     obtain⟨b6,o6,rfl,hb6,hc6⟩:=(Hr2.o.below Hb2r.o).at_ hlt
     replace hc6:wr.cell? ⟨b6,o6+m,none⟩=some (.int .i64 (fs[m].1.tag:Int)):=by simpa [Eb]using hc6
     have hnm:=Hnm.o fs[m] (List.getElem_mem hlt)
     have htg:=Htg.o fs[m] (List.getElem_mem hlt)
     have HX:=Aa (fun W (hW:Below wr.heap.size wr W)=>Su (.int .u8 (t.sort.toNat:Int)) (.string ⟨t.name.toArray⟩) (.slice A5 t.fields.length c5) t.fields fs[m].1.tag W (Hfd2.o.below (Hb2r.o.trans (hW.mono Hb2r.o.size))) (by omega))
     rw[Hft.o fs[m] (List.getElem_mem hlt)]at HX
     unfold sfR at HX
     have Hsn:=Aa (show (fs.take (m+1)).map (·.1.name)=(fs.take m).map (·.1.name)++[fs[m].1.name]by rw[Bn fs m hlt,List.map_append];rfl)
     generalize fs[m].1=f at *
     go_wp2_with fail
     refine rgF (fun l u W=>Nl wr (Zr f) (l 12) (l 13) (u 12) W) (Fj wr) (fun _ _ _ h=>Gq h.1) Nl.start ?_
     iterate 8 refine sq ?_
     refine sqB (fun _ _ _ h=>h.1) (fun _ _ _ _ h hb=>h.below hb) HX.o ?_
     iterate 3 refine sq ?_
     refine Qf (fun _=>True) (by
      intro l u W hl hp hF hG hi K hK
      have h:Nl wr (Zr f) (l 12) (l 13) (u 12) W:=hF.o
      rw[hl]at h
      have Hh:=Aa (h.alloc [.int .i64 0,.string ⟨#[]⟩,.string ⟨#[]⟩,.string ⟨#[]⟩] rfl 94)
      clear h hp hi hG
      go_simp
      exact hK _ _ _ Ab Hh.o rfl) ?_
     refine Qf (fun _=>True) (by
      intro l u W hl hp hF hG hi K hK
      have h:Nl wr (Zr f) (l 12) (l 13) (u 12) W:=hF.o
      simp[Region.binds,D8]at hp
      obtain⟨b9,e9,_,_,h9,_⟩:=h.2.2 (by simp[hp])
      simp only[Region.wanted,if_true]
      unfold Z4 at hp
      refine wp_store_mid 94 _ _ rfl b9 0 (Zr f).toArray (by simp[e9];rfl) (by simp[hp];rfl) h9 (by kernel_rfl) (by simp[Zr,Value.oneCell']) ?_
      exact hK undef _ _ Ab (h.store (by simp[hp]) e9) rfl) ?_
     refine sq ?_
     intro l u W hl _ hR
     have hR:Nl wr (Zr f) (l 12) (l 13) (u 12) W:=hR
     obtain⟨b9,e9,hb9,hl9,_,hrg⟩:=hR.2.2 (hl 12 (by decide))
     have q1:W.cell? ⟨b9,1,none⟩=some (.string ⟨f.name.toArray⟩):=by have:=Ac (hrg (hl 13 (by decide))) 1 rfl;simpa using this
     have Ho4:=Aa (Be Hog.o hR.1)
     have Hb4:=Aa (Hbr.o.trans (hR.1.mono hsz'))
     have hs4:w2.heap.size+1<=W.heap.size:=by have:=hR.1.size;omega
     simp only[e9]
     clear hl hR e9 hrg f0 f1 f2 hc6 e2 HX
     go_wp2_with (at_builtin;refine Fy _ rfl _ _ 31 rfl (w2.heap.size+1) 9 (.string ⟨#[]⟩) 16 underlying31 Dt rfl W (.string ⟨f.name.toArray⟩) rfl rfl (.slice (some ⟨g,0,none⟩) m c) m (Af ((fs.take m).map (·.1.name))) rfl rfl Ho4.o (by unfold maxLen;omega) (by omega) hs4 ?_;intro v' w5 hown5 hg5 hwh5;obtain⟨g5,c5',rfl⟩:=Qc8 hown5 hwh5;have Ho:=Aa hown5;have Hb5:=Aa (Hb4.o.grown hg5 (by have:=Hb4.o.size;omega) (fun k hk=>(Ho4.o.lt k hk).1));clear hown5 hg5 hwh5)
     go_roundw
     case rel=>exact⟨m+1,g5,c5',by go_num,rfl,by omega,by show Kt _ _ _ _ _ _;rw[Hsn.o];show World.ownsRow _ _ _ _ _ _ _;rw[Ke];exact Ho.o,Hb5.o⟩
     case measure=>simp[intOf];omega
    ·obtain rfl:m=fs.length:=by omega
     obtain⟨A7,c7,e7,hr7⟩:=Bl.own Hog.o
     injection e7 with e71 e72 e73
     subst e71 e73
     rw[List.take_length]at hr7
     have HS:=Aa (fun W (hW:Below wr.heap.size wr W)=>Qce _ _ fs.length c c _ _ W (hr7.below hW) (hr7.below hW) (by omega))
     rw[HF.o]at HS
     clear hr7
     have HT:=Aa (HE2.o.trans (show _=some (Ap 44 ((byN S k (fs.map Dm)).map fun y=>Di S k y.tag))from rfl))
     generalize (byN S k (fs.map Dm)).map (fun y=>Di S k y.tag)=L at *
     go_wp2_with fail
     refine(HS.o _ (At _ _)).mono ?_
     rintro e w6 ⟨ga,ca,gb,cb,rfl,hoa,_,_,hb6⟩
     obtain⟨A8,c8,e8,hr8⟩:=Bl.own hoa
     injection e8 with e81 e82 e83
     subst e81 e83
     have HJ:=Aa (Qbz _ ca L w6 (by rw[HLn.o.1];exact hr8) (by rw[HLn.o.1];omega) (fun p hp=>Nat.le_trans (HLn.o.2 p hp) (by decide)))
     rw[HLn.o.1]at HJ
     have Hb6:=Aa (Hb1.o.trans ((Hb2.o.trans ((Hb2r.o.trans (hb6.mono Hb2r.o.size)).mono Hb2.o.size)).mono Hb1.o.size))
     clear hoa hr8 hb6
     go_wp2_with fail
     refine HJ.o.mono ?_
     rintro e w7 ⟨rfl,rfl⟩
     go_wp2_with fail
     go_ret2
     exact⟨by rw[HT.o];rfl,Hb6.o⟩
 obtain⟨tx,tags,kids,esv,htx⟩:=Qfm hvok h82
 rw[esv]at hat
 obtain⟨A1,A2,c1,c2,ys,hbl,_,h0,h1,_⟩:=hat.open_
 have t1:(tx == [82])=false:=by simpa using htx
 have t2:(tx != [82])=true:=by simpa using htx
 have HE2:=Aa (HE.o.trans (if_neg h82))
 clear hpost hb1 hb hv hok hk hkd hvok hpr hS hat hsc h82 esv htx
 go_wp2_with fail
 go_ret2
 exact⟨by rw[HE2.o];rfl,Hb1.o⟩
theorem Qf1(S:List Ty)(n:Nat)(t:Ty)(h:t.sort≠85):Bm S (n+1) t=true:=by
 simp only[Bm,Eo,if_neg h]
theorem Qe5(xs:List (Ty × Value))(n:Nat)(t:Ty)(f:Fd)(fs:List Fd)(h:t.sort=85)(hf:t.fields=f::fs):
  Bm (Ak xs) (n+1) t=(match Kl xs f.kind with|none=>true|some u=>Bm (Ak xs) n u.1):=by
 simp only[Bm,Eo,if_pos h,hf,Kl];by_cases hk:f.kind.signs=[]/\f.kind.base=[64]
 ·rw[if_pos hk,if_pos hk,Js];cases Ek xs f.kind.name<;>rfl
 rw[if_neg hk,if_neg hk]
theorem Zt{t:Ty}(h:D5 t)(hs:t.sort=85):∃f fs,t.fields=f::fs/\C9 f.kind:=by
 obtain⟨h1,h2,h3,h4,h5⟩:=h;cases hf:t.fields with
 |nil=>have:=h5 hf;rw[hs]at this;exact absurd this aJ
 |cons f fs=>
  refine⟨f,fs,rfl,?_⟩;have:=h3.1 f de;exact(this.2.2.2.2 di).1
theorem Qdk{xs:List (Ty × Value)}{k:Kd}{x:Ty × Value}(h:Kl xs k=some x):x∈xs:=by
 unfold Kl at h;split at h
 ·exact(D9 h).1
 cases h
theorem Qcx(v fv:Value)(xs:List (Ty × Value))(t:Ty)(w:World)(h:Kv w v xs)(ht:D5 t)(hft:Eu w fv t.fields)(hok:∀x∈xs,D5 x.1):
  Calls prog 153 #[v,Nm t fv] w fun e w'=>e=.returned (.bool (Bm (Ak xs) (xs.length+1) t))/\Below w w w':=by
 have H:=Aa h;have Hok:=Aa hok;obtain⟨A,c,rfl,hxl,_⟩:=h;obtain⟨A1,c1,rfl,hfl,hr1⟩:=hft;have Hr1:=Aa hr1;have Ht:=Aa ht;clear hok hr1 ht;unfold Nm;go_enter func153,ntmps153;go_wp2_with fail
 go_loopw [5] (fun i wr=>∃(n:Nat) (cur:Ty) (A2:Option Addr) (c2:Nat),i=.int .i64 n/\n<=xs.length+1/\Hid (D5 cur)/\Hid (Bl w A2 (cur.fields.length*4) (cur.fields.flatMap Zr)) /\
   Hid (Bm (Ak xs) (xs.length+1) t=Bm (Ak xs) (xs.length+1 - n) cur)/\Hid (Below w w wr)/\w.heap.size<wr.heap.size /\
   wr.cell? (w,0)=some (.int .u8 (cur.sort.toNat:Int))/\wr.cell? (w,1)=cur.name/\wr.cell? (w,2)=some (.slice A2 cur.fields.length c2) /\
   (∀j,wr.frozen? ⟨w.heap.size,j,none⟩=false)) (fun i _=>xs.length+1 - (intOf i).toNat)
 case atStart=>exact⟨0,t,A1,c1,rfl,ag _,Ht.o,Hr1.o,rfl,(At _ _).alloc (Ao _) _,by simp,by simp,by simp,by simp,by simp⟩
 case round=>
  obtain⟨n,cur,A2,c2,rfl,hn,hcu,hrow,heq,hb,hsz,u0,u1,u2,f1⟩:=hrel;by_cases hlt:n<=xs.length
  ·have k1:(n:Int)<=(xs.length:Int):=aG;obtain⟨m,hm⟩:∃m,xs.length+1 - n=m+1:=⟨xs.length - n,by omega⟩
   have hm2:xs.length+1 - (n+1)=m:=aG;rw[hm]at heq;have hcl:=cur.sort.toNat_lt;by_cases hs:cur.sort=85
   ·have t1:((cur.sort.toNat:Int) != 85)=false:=by have:=Bk hs;simpa using this
    have t2:((cur.sort.toNat:Int) == 85)=true:=Bk hs;obtain⟨f,fs,hfs,hkd⟩:=Zt hcu.o hs;have Heq:=Aa (show Bm (Ak xs) (xs.length+1) t=(match Kl xs f.kind with|none=>true|some u=>Bm (Ak xs) m u.1)by rw[heq.o];exact Qe5 xs m cur f fs hs hfs);have hlf:0<cur.fields.length:=cr;have hf0:cur.fields[0]=f:=by simp[hfs]
    obtain⟨b,off,rfl,hbl,g0,g1,g2,g3⟩:=Eu.at_ (hrow.o.below hb.o) hlf;rw[hf0]at g0 g1 g2 g3;simp only[Nat.zero_mul,Nat.add_zero]at g0 g1 g2 g3;have Hkd:=Aa hkd;have l1:(0:Int)<(cur.fields.length:Int):=aG;clear hs heq hkd hf0 hfs;go_wp2_with fail;refine(Gb (.slice A xs.length c) xs f.kind _ (H.o.below hb.o) Hkd.o).mono ?_;rintro e w4 ⟨rfl,hb4⟩;obtain⟨hc4,hfz4,hz4⟩:=Bs hb4;have Hb5:=Aa (hb.o.trans (hb4.mono (Nat.le_of_lt hsz)));rw[<-hc4 _ _ hsz]at u0 u1 u2;have f1':∀j,w4.frozen? ⟨w.heap.size,j,none⟩=false:=fun j=>(hfz4 _ j hsz).trans (f1 j);have hsz4:=hz4 _ hsz;have Hrow':=Aa (fun(x:Ty × Value) (hx:x∈xs)=>((show ∀x∈xs,Eu w x.2 x.1.fields from(by obtain⟨_,_,_,_,_,hf⟩:=H.o;exact hf)) x hx));have hn1:¬(w4.heap.size=w.heap.size):=aG;have hn2:¬(w.heap.size=w4.heap.size):=aG;clear hb4 hc4 hfz4 hz4 f1 hb;cases hr:Kl xs f.kind with
    |none=>
     rw[hr]at Heq;unfold P3 Mk;go_wp2_with fail;go_ret;exact⟨by rw[Heq.o];first|rfl|trivial,bM⟩
    |some x=>
     rw[hr]at Heq;obtain⟨u,uv⟩:=x;have Hm:=Aa (Qdk hr);obtain⟨A5,c5,e5,_,hr5⟩:=Hrow'.out _ Hm.o;simp only[]at e5 hr5;subst e5;have Hr5:=Aa hr5;clear hr hr5;unfold P3 Nm;go_wp2_with fail;go_roundw
     case rel=>
      refine⟨n+1,u,A5,c5,by go_num,by omega,Hok.o _ Hm.o,Hr5.o,by rw[hm2];exact Heq.o,bM,by simp;omega,by simp[go_sem,u0,u1,u2,f1',hn1,hn2,hsz4],by simp[go_sem,u0,u1,u2,f1',hn1,hn2,hsz4],by simp[go_sem,u0,u1,u2,f1',hn1,hn2,hsz4],by intro j;simp[go_sem,f1',hn1,hn2,hsz4]⟩
     case measure=>simp[intOf];omega
   have t1:((cur.sort.toNat:Int) != 85)=true:=by have:=Am hs;simpa using this
   have t2:((cur.sort.toNat:Int) == 85)=false:=Am hs;have Hend:=Aa (show Bm (Ak xs) (xs.length+1) t=true by rw[heq.o];exact Qf1 _ m cur hs);clear hs heq;go_wp2_with fail;exact gZ
  ·have k1:¬(n:Int)<=(xs.length:Int):=aG;have Hend:=Aa (show Bm (Ak xs) (xs.length+1) t=false by rw[heq.o,show xs.length+1 - n=0 by omega];rfl);clear heq;go_wp2_with fail;exact gZ
theorem N3(S:List Ty)(hT:∀t∈S,D5 t):∀(n:Nat) (k:Kd),(Cs S n k).length<=6*n
 |0,_=>by simp[Cs]
 |n+1,k=>by
  unfold Cs;split
  ·simp;omega
  split
  ·simp;omega
  split
  ·simp;omega
  split
  ·simp;omega
  split
  ·simp;omega
  cases hf:By S k.name with
  |none=>simp
  |some t=>
   simp only;split
   ·simp;omega
   cases hfs:t.fields with
   |nil=>simp
   |cons f fs=>
    have h1:=((hT t (B6 hf).1).2.2.1.1 f cr).2.1;have h2:=Dh 2 f.tag bV;have ih:=N3 S hT n f.kind;simp only;split
    ·simp;omega
    simp;omega
def Rn(b:List UInt8):List UInt8:=if b=[110]then[48]else if b=[116]then[39,39]else[110,111]
theorem Xc(b:List UInt8)(w:World)(hb:b=[110]\/b=[116]\/b=[102]):
  Calls prog 190 #[b] w fun e w'=>e=.returned (.string ⟨(Rn b).toArray⟩)/\w=w':=by
 rcases hb with rfl|rfl|rfl
 ·exact gh
 ·exact gh
 go_enter func190,ntmps190;go_wp2_with fail;exact gI
def Qbm(c:UInt8):List UInt8:=if c=91 then[91,93]else[45]
theorem Pn(v:Value)(c:UInt8)(t:List UInt8)(w:World)(hc:c=91\/c=63)(hl:t.length<=1000):
  Calls prog 157 #[v,.string ⟨(c::t).toArray⟩] w fun e w'=>e=.returned (.string ⟨(Qbm c).toArray⟩)/\w=w':=by
 rcases hc with rfl|rfl
 ·go_enter func157,ntmps157;go_wp2_with fail;exact gI
 go_enter func157,ntmps157;go_wp2_with fail;exact gI
theorem Kp{k:Kd}(h:C9 k)(hs:k.signs=[])(hb:k.base≠[64]):Br k=k.base/\(k.base=[110]\/k.base=[116]\/k.base=[102]):=by
 refine⟨by unfold Br Ck;rw[hs,if_neg hb];rfl,?_⟩;rcases h.2.1 with h|h
 ·exact absurd h.1 hb
 exact h.1
theorem Mo(v:Value)(xs:List (Ty × Value))(k:Kd)(w:World)(hsc:Kv w v xs)(hk:C9 k)(hs:k.signs=[])(hb:k.base≠[64]):
  Calls prog 157 #[v,.string ⟨(Br k).toArray⟩] w fun e w'=>e=.returned (.string ⟨(Rn k.base).toArray⟩)/\Below w w w':=by
 have Hr:=Aa (fun W h=>Gb v xs k W h hk);have hx:Kl xs k=none:=if_neg (fun h=>hb h.2);rw[hx]at Hr;obtain⟨e1,e2⟩:=Kp hk hs hb;rw[e1]at Hr ⊢;have Hsc:=Aa hsc;have Hp:=Aa (fun W=>Xc k.base W e2);have He2:=Aa e2;unfold P3 Mk at Hr;generalize k.base=b at *;clear hs hb e1 hsc hx;obtain⟨c,hc,t1,t2⟩:∃c,b=[c]/\((c.toNat:Int) == 91)=false/\((c.toNat:Int) == 63)=false:=by
  rcases e2 with rfl|rfl|rfl
  ·exact⟨110,rfl,by decide,by decide⟩
  ·exact⟨116,rfl,by decide,by decide⟩
  exact⟨102,rfl,by decide,by decide⟩
 clear e2;subst hc;go_enter func157,ntmps157;go_wp2_with fail;refine(Hr.o _ Hsc.o).mono ?_;rintro e w1 ⟨rfl,hb1⟩;go_wp2_with fail;refine(Hp.o _).mono ?_;rintro e w2 ⟨rfl,rfl⟩;go_wp2_with fail;go_ret;exact⟨rfl,hb1.alloc hb1.size _⟩
def Fz(l:List UInt8)(w:World)(e:Ending)(w':World):Prop:=e=.returned l/\Below w w w'
theorem Vt(xv:Value)(xs:List (Ty × Value))(hok:∀x∈xs,D5 x.1)(n:Nat)(k:Kd)(w:World)(hsc:Kv w xv xs)(hk:C9 k)(hs:k.signs=[])(hb:k.base=[64])(t:Ty)(fv:Value)(hx:Ek xs k.name=some (t,fv))
  (hn:n<=9) (ih:t.sort=85->∀f fs,t.fields=f::fs->∀W,Kv W xv xs->Calls prog 157 #[xv,.string ⟨(Br f.kind).toArray⟩] W (Fz (Cs (Ak xs) n f.kind) W)):
  Calls prog 157 #[xv,.string ⟨(Br k).toArray⟩] w (Fz (Cs (Ak xs) (n+1) k) w):=by
 have Hr:=Aa (fun W h=>Gb xv xs k W h hk);have Hlen:=Aa (N3 (Ak xs) (fun t ht=>by obtain⟨x,hx,rfl⟩:=aw.1 ht;exact hok x hx));have hrx:Kl xs k=some (t,fv):=(if_pos ⟨hs,hb⟩).trans hx
 have HF:=Aa (show Cs (Ak xs) (n+1) k=if t.sort=82 then[123,125]else match t.fields with|[]=>[]|f::_=>if t.sort=69 then 35::Aw f.tag else 60::(Aw f.tag++61::(Cs (Ak xs) n f.kind++[62]))from by
  rw[Cs,if_neg di,if_neg di,if_neg bE,if_neg bE,if_neg bE,Js,hx];rfl)
 have hto:=hok _ (D9 hx).1;have hkb:Br k=64::(k.name++[59]):=cM;have hnl:k.name.length<=3:=by
  rcases hk.2.1 with h|h
  ·exact(Dr.1 h.2).2.1
  rw[hb]at h;exact absurd h.1 aJ
 have hfd:Eu w fv t.fields:=by obtain⟨_,_,_,_,_,hf⟩:=hsc;exact hf _ (D9 hx).1
 rw[hrx]at Hr;rw[hkb]at Hr ⊢;obtain⟨A,c,rfl,hfl,hrow⟩:=hfd;have Hsc:=Aa hsc;have Hrow:=Aa hrow;have Hto:=Aa hto;have Ih:=Aa ih;unfold P3 Nm at Hr;simp only[]at hto;clear hsc hk hs hb hx hkb hrow hto hrx ih hok;by_cases h82:t.sort=82
 ·have t82:((t.sort.toNat:Int) == 82)=true:=Bk (d:=82) h82;have HF2:=Aa (HF.o.trans (if_pos h82));clear h82 HF;go_enter func157,ntmps157;go_wp2_with fail;refine(Hr.o _ Hsc.o).mono ?_;rintro e w1 ⟨rfl,hb1⟩;go_wp2_with fail;go_ret;exact⟨by rw[HF2.o];rfl,hb1.alloc hb1.size _⟩
 have t82:((t.sort.toNat:Int) == 82)=false:=Am (d:=82) h82;have HF2:=Aa (HF.o.trans (if_neg h82));have hne:t.fields≠[]:=fun h=>h82 (Hto.o.2.2.2.2 h);obtain⟨f,fs,hfs⟩:∃f fs,t.fields=f::fs:=by
  cases h:t.fields with
  |nil=>exact absurd h hne
  |cons f fs=>exact⟨f,fs,rfl⟩
 have hf0:0<t.fields.length:=cr;have hge:t.fields[0]=f:=by simp[hfs]
 have hft:=Hto.o.2.2.1.1 f cr;have htag:f.tag<=200:=hft.2.1;have hdl:=Dh 2 f.tag bV;have Hd:=Aa (fun W=>Gm f.tag f.tag W (Ao _) aG);have hi0:(0:Int)<(t.fields.length:Int):=aG;have HF3:=@Aa (Cs (Ak xs) (n+1) k=if t.sort=69 then 35::Aw f.tag else 60::(Aw f.tag++61::(Cs (Ak xs) n f.kind++[62]))) (by rw[HF2.o,hfs]);have Hfs:=Aa hfs;have Hge:=Aa hge;obtain⟨b,off,rfl,hbl,g0,g1,g2,g3⟩:=Eu.at_ Hrow.o hf0;rw[hge]at g0 g1 g2 g3;simp only[Nat.zero_mul,Nat.add_zero]at g0 g1 g2 g3;have H82:=Aa h82;clear HF2 HF h82 hne hfs hge hft g1 g3;by_cases h69:t.sort=69
 ·have t69:((t.sort.toNat:Int) == 69)=true:=Bk (d:=69) h69;have HF4:=Aa (HF3.o.trans (if_pos h69));clear h69 HF3;go_enter func157,ntmps157;go_wp2_with fail;refine(Hr.o _ Hsc.o).mono ?_;rintro e w1 ⟨rfl,hb1⟩;have g0':=(hb1.cell (p:=⟨b,off,none⟩) hbl).trans g0;have hbl1:b<w1.heap.size:=ac hbl hb1.size;have hbn:¬(b=w1.heap.size):=aG;have Hb1:=Aa hb1;clear hb1 g0 g2;go_wp2_with fail;refine(Hd.o _).mono ?_;rintro e w2 ⟨rfl,hb2⟩;go_wp2_with fail;go_ret;exact⟨by rw[HF4.o];simp,(Hb1.o.alloc Hb1.o.size _).trans (hb2.mono (by have:=Hb1.o.size;simp;omega))⟩
 have t69:((t.sort.toNat:Int) == 69)=false:=Am (d:=69) h69;have HF4:=Aa (HF3.o.trans (if_neg h69));have h85:t.sort=85:=by
  rcases Hto.o.1 with h|h|h
  ·exact absurd h H82.o
  ·exact h
  exact absurd h h69
 have Ih2:=Aa (Ih.o h85 f fs Hfs.o);have hsl:=Hlen.o n f.kind;generalize Cs (Ak xs) n f.kind=sl at *;generalize Br f.kind=kd at *;clear h69 HF3 h85 Ih;go_enter func157,ntmps157;go_wp2_with fail;refine(Hr.o _ Hsc.o).mono ?_;rintro e w1 ⟨rfl,hb1⟩;have g0':=(hb1.cell (p:=⟨b,off,none⟩) hbl).trans g0;have g2':=(hb1.cell (p:=⟨b,off+2,none⟩) hbl).trans g2;have hbl1:b<w1.heap.size:=ac hbl hb1.size;have hbn:¬(b=w1.heap.size):=aG;have Hb1:=Aa hb1;clear hb1 g0 g2;go_wp2_with fail;obtain⟨W0,hW0⟩:∃W0,W0=w1.alloc (.cells #[.int .u8 (t.sort.toNat:Int),t.name,.slice (some ⟨b,off,none⟩) t.fields.length c] 90):=⟨_,rfl⟩
 rw[<-hW0];have y2:W0.cell? (w1,2)=some (.slice (some ⟨b,off,none⟩) t.fields.length c):=by rw[hW0];simp
 have y0:W0.cell? ⟨b,off,none⟩=(f.tag:Int):=by rw[hW0,World.cell?_alloc_old _ _ _ hbn];exact g0'
 have y3:W0.cell? ⟨b,off+2,none⟩=kd:=by rw[hW0,World.cell?_alloc_old _ _ _ hbn];exact g2'
 have hz0:W0.heap.size=w1.heap.size+1:=by rw[hW0];simp
 have hB5:w1.heap.size<W0.heap.size:=aG;have hb5:b<W0.heap.size:=aG;have Hb0:=@Aa (Below w w W0) (by rw[hW0];exact Hb1.o.alloc Hb1.o.size _);have Hsc0:=Aa (Hsc.o.below Hb0.o);generalize w1.heap.size=B5 at *;clear hW0 hz0 g0' g2';refine N7 [39,40,41,42,43,44,45,46,47,48,49,50,51,52,53,54,55,4]
  (fun i v W=>match i with|0=>v=(B5,2)|1=>v=.slice (some ⟨b,off,none⟩) t.fields.length c|2=>v=.pointer (some ⟨b,off,none⟩)|3=>v=.pointer (some ⟨b,off,none⟩)|4=>v=(f.tag:Int)|5=>v=.string ⟨(Aw f.tag).toArray⟩|6=>v=.string ⟨(60::Aw f.tag).toArray⟩|7=>v=.string ⟨(60::(Aw f.tag++[61])).toArray⟩|8=>v=xv|9=>v=(B5,2)|10=>v=.slice (some ⟨b,off,none⟩) t.fields.length c|11=>v=.pointer (some ⟨b,off,none⟩)|12=>v=.pointer (some ⟨b,off+2,none⟩)|13=>v=kd|14=>v=sl|15=>v=.string ⟨(60::(Aw f.tag++61::sl)).toArray⟩|16=>v=.string ⟨(60::(Aw f.tag++61::(sl++[62]))).toArray⟩|17=>v=.string ⟨(60::(Aw f.tag++61::(sl++[62]))).toArray⟩|_=>True)
  (fun L U W=>Below W0 W0 W) ((At _ _).drew) ?_ ?_
 ·repeat (first|exact Aq.nil|(refine Aq.cons ?_ ?_;rotate_left))
  all_goals
   rintro L U W hL hpre HR Hdep K hK;have hB:=HR.o;have c2:=(hB.cell (p:=⟨B5,2,none⟩) hB5).trans y2;have c0:=(hB.cell (p:=⟨b,off,none⟩) hb5).trans y0;have c3:=(hB.cell (p:=⟨b,off+2,none⟩) hb5).trans y3;first|(simp[Region.binds]at hpre;done)|simp[Region.binds]at hpre|clear hpre
  iterate 5
   ·exact eW
  ·exact fW
  ·exact fc
  ·exact fc
  iterate 6
   ·exact eW
  ·exact fR
  ·exact fc
  ·exact fc
  ·exact eW
 rintro L U W hL hφ hR;have e17:U 17=.string ⟨(60::(Aw f.tag++61::(sl++[62]))).toArray⟩:=hφ 17 aJ;simp only[e17];clear hφ;have Hb9:=Aa (Hb0.o.trans (hR.mono Hb0.o.size));clear hR;go_wp2_with fail;go_ret;exact⟨by rw[HF4.o];rfl,Hb9.o⟩
theorem Ms(S:List Ty)(n:Nat)(k:Kd)(c:UInt8)(t:List UInt8)(h:k.signs=c::t)(hc:c=91\/c=63):Cs S (n+1) k=Qbm c:=by
 unfold Cs Qbm;rw[h];rcases hc with rfl|rfl
 ·rfl
 rfl
theorem Kb(S:List Ty)(n:Nat)(k:Kd)(h:k.signs=[])(hb:k.base=[110]\/k.base=[116]\/k.base=[102]):Cs S (n+1) k=Rn k.base:=by
 unfold Cs Rn;rw[h];rcases hb with hb|hb|hb<;>rw[hb]<;>rfl
theorem N5{k:Kd}(h:C9 k){c:UInt8}{t:List UInt8}(hs:k.signs=c::t):c=91\/c=63:=by
 have:=h.1;rw[hs,List.all_cons,av]at this;have:=this.1;unfold Bi at this;simpa using this
theorem Y8(xv:Value)(xs:List (Ty × Value))(hok:∀x∈xs,D5 x.1)(hS:Fa (Ak xs)):∀(n:Nat),n<=9->∀(k:Kd) (w:World),Kv w xv xs->C9 k->B0 (Ak xs) k->S4 (Ak xs) n k ->
  Calls prog 157 #[xv,.string ⟨(Br k).toArray⟩] w (Fz (Cs (Ak xs) (n+1) k) w):=by
 intro n;induction n with
 |zero=>
  intro _ k w hsc hk hr he;cases hs:k.signs with
  |cons c t=>
   have hc:=N5 hk hs;have hkb:Br k=c::(t++Ck k):=cV;have hl:=hk.2.2;rw[hkb]at hl ⊢;rw[Ms _ _ k c t hs hc];refine(Pn xv c (t++Ck k) w hc dZ).mono ?_;rintro e w' ⟨rfl,rfl⟩;exact gS
  |nil=>
   by_cases hb:k.base=[64]
   ·obtain⟨t,_,h⟩:=he hs hb;exact absurd h (by simp[Bm])
   exact hC
 |succ n ih=>
  intro hn k w hsc hk hr he;cases hs:k.signs with
  |cons c t=>
   have hc:=N5 hk hs;have hkb:Br k=c::(t++Ck k):=cV;have hl:=hk.2.2;rw[hkb]at hl ⊢;rw[Ms _ _ k c t hs hc];refine(Pn xv c (t++Ck k) w hc dZ).mono ?_;rintro e w' ⟨rfl,rfl⟩;exact gS
  |nil=>
   by_cases hb:k.base=[64]
   ·have h1:=hr hb;rw[Js]at h1;cases hx:Ek xs k.name with
    |none=>rw[hx]at h1;cases h1
    |some x=>
     obtain⟨t,fv⟩:=x;have hft:By (Ak xs) k.name=some t:=(D9 hx).2.2;have hto:D5 t:=hok _ (D9 hx).1;refine Vt xv xs hok (n+1) k w hsc hk hs hb t fv hx hn (fun h85 f fs hfs W hW=>?_);have hrf:B0 (Ak xs) f.kind:=hS t (B6 hft).1 da f cr;exact hD
   exact hC
theorem Tt{S:List Ty}(h:Ps S){k:Kd}(hr:B0 S k):S4 S 9 k:=by
 intro hs hb;have h1:=hr hb;cases hf:By S k.name with
 |none=>rw[hf]at h1;cases h1
 |some t=>exact⟨t,rfl,h.2.2 t (B6 hf).1⟩
theorem Ys(xv:Value)(xs:List (Ty × Value))(h:Ps (Ak xs))(k:Kd)(w:World)(hsc:Kv w xv xs)(hk:C9 k)(hr:B0 (Ak xs) k):
  Calls prog 157 #[xv,.string ⟨(Br k).toArray⟩] w (Fz (Qd (Ak xs) k) w):=
 Y8 xv xs (fun x hx=>h.1.1 x.1 (ao hx)) h.2.1 9 (Ao _) k w hsc hk hr (Tt h hr)
theorem Z8(xv:Value)(xs:List (Ty × Value))(h:Ps (Ak xs))(f:Fd)(w:World)(hsc:Kv w xv xs)(hk:C9 f.kind)(hr:B0 (Ak xs) f.kind)(hl:f.given.length<=1000):
  Calls prog 123 #[xv,Z4 f] w (Fz (P1 (Ak xs) f) w):=by
 have HF:=@Aa (P1 (Ak xs) f=if f.given=[]then Qd (Ak xs) f.kind else f.given) rfl;have Hs:=Aa (fun W (h1:Kv W xv xs)=>Ys xv xs h f.kind W h1 hk hr);have Hsc:=Aa hsc;unfold Z4;generalize Br f.kind=kd at *;clear h hk hr hsc;by_cases hg:f.given=[]
 ·have HF2:=Aa (HF.o.trans (if_pos hg));rw[hg];clear hg HF;go_enter func123,ntmps123;go_wp2_with fail;refine(Hs.o _ (Hsc.o.below ((At _ _).alloc (Ao _) _))).mono ?_;rintro e w1 ⟨rfl,hb1⟩;go_wp2_with fail;go_ret;exact⟨by rw[HF2.o];rfl,((At _ _).alloc (Ao _) _).trans (hb1.mono aK)⟩
 have HF2:=Aa (HF.o.trans (if_neg hg));have t1:f.given.isEmpty=false:=by simpa using hg
 have t2:(!f.given.isEmpty)=true:=by simp[t1]
 clear hg HF;go_enter func123,ntmps123;go_wp2_with fail;go_ret;exact⟨by rw[HF2.o];rfl,(At _ _).alloc (Ao _) _⟩
theorem S1(s:List UInt8)(f k:Nat)(hf:f<=k)(hk:k<s.length):(s.drop f).take (k+1 - f)=(s.drop f).take (k - f)++[s[k]]:=by
 have h1:k - f<(s.drop f).length:=aN;rw[show k+1 - f=(k - f)+1 by omega,Bn _ _ h1];simp[show f+(k - f)=k by omega]
theorem X8(s:List UInt8)(f k:Nat)(hf:f<=k)(hk:k<s.length):s.drop f=(s.drop f).take (k - f)++s[k]::s.drop (k+1):=by
 have e1:(s.drop f).drop (k - f)=s[k]::s.drop (k+1):=by
  rw[List.drop_drop,show f+(k - f)=k by omega];exact List.drop_eq_getElem_cons hk
 rw[<-e1,List.take_append_drop]
theorem Ca(s:List UInt8)(c:UInt8)(m:Int)(hm:m=(c.toNat:Int))(w:World)(hs:s.length<=4000000):
  Calls prog 80 #[s,.int .u8 m] w fun e w'=>
   ∃v,e=.returned v/\w'.ownsRow w 9 1 v (Ae c s).length (Af (Ae c s))/\Below w w w':=by
 have Hm:=Aa hm;have Hlen:=Aa (Ft c s);clear hm;go_enter func80,ntmps80;go_wp2_with fail
 go_loopw [5,6,7] (fun v y i wr=>∃(ps:List (List UInt8)) (f k:Nat),i=.int .i64 k/\k<=s.length/\y=.int .i64 f/\f<=k/\ps.length<=k/\Hid (Ae c s=ps++Ae c (s.drop f))/\Hid (c∉(s.drop f).take (k - f)) /\
   Hid (wr.ownsRow w 9 1 v ps.length (Af ps))/\Hid (Below w w wr)) (fun _ _ i _=>s.length - (intOf i).toNat)
 case atStart=>exact⟨[],0,0,rfl,ag _,rfl,Ao _,by simp,rfl,by simp[Hid],World.ownsRow_lit (base:=w.heap.size) (e:=9) (size:=1) w #[] 0 (Ao _) (ag _) rfl,(At _ _).alloc (Ao _) _⟩
 case round=>
  obtain⟨ps,f,k,rfl,hk,rfl,hf,hps,hsp,hno,hown,hb⟩:=hrel;by_cases hlt:k<s.length
  ·have hc:=(s[k]).toNat_lt;by_cases he:s[k]=c
   ·have t1:(((s[k]).toNat:Int) == m)=true:=by rw[Hm.o];exact Bk he
    have Hsp:=Aa (show Ae c s=(ps++[(s.drop f).take (k - f)])++Ae c (s.drop (k+1))by
     rw[hsp.o,X8 s f k hf hlt,he,Jn c _ _ hno.o];simp only[List.append_assoc,List.singleton_append];have e2:=X8 s f k hf hlt;rw[he]at e2;rw[<-e2])
    have Hz:=Aa hb.o.size;clear he;have k1:(0:Int)<=(f:Int):=aG;have k2:(f:Int)<=(k:Int):=aG;have k3:(k:Int)<=(s.length:Int):=aG;go_wp2_with (at_builtin;refine J7 _ rfl _ _ 31 rfl w 9 a8 16 underlying31 Dt rfl wr _ rfl rfl _ _ _ rfl rfl hown.o bj aG Hz.o ?_;intro v' w' hown' hb';have Ho:=Aa (show w'.ownsRow w 9 1 v' (ps++[(s.drop f).take (k - f)]).length (Af (ps++[(s.drop f).take (k - f)]))by rw[Mt,ah];exact hown');have Hb:=Aa (hb.o.trans hb');clear hown' hb')
    go_roundw
    case rel=>exact⟨ps++[(s.drop f).take (k - f)],k+1,k+1,by go_num,by omega,by go_num,Ao _,by rw[ah];simp;omega,Hsp.o,by simp[Hid],Ho.o,Hb.o⟩
    case measure=>simp[intOf];omega
   have t1:(((s[k]).toNat:Int) == m)=false:=by rw[Hm.o];exact Am he
   have Hno:=Aa (show c∉(s.drop f).take (k+1 - f)by
    rw[S1 s f k hf hlt];simp only[af,ap,not_or];exact⟨hno.o,fun h=>he h.symm⟩)
   clear he;go_wp2_with fail;go_roundw
   case rel=>exact⟨ps,f,k+1,by go_num,by omega,rfl,by omega,by omega,hsp.o,Hno.o,hown.o,hb.o⟩
   case measure=>simp[intOf];omega
  ·obtain rfl:k=s.length:=aG
   have Hsp:=Aa (show Ae c s=ps++[s.drop f]by
    have h:=hno.o;rw[ar aK]at h;rw[hsp.o,E9 c _ h])
   have Hz:=Aa hb.o.size;have k1:(0:Int)<=(f:Int):=aG;have k2:(f:Int)<=(s.length:Int):=aG;go_wp2_with (at_builtin;refine J7 _ rfl _ _ 31 rfl w 9 a8 16 underlying31 Dt rfl wr _ rfl rfl _ _ _ rfl rfl hown.o bj aG Hz.o ?_;intro v' w' hown' hb';have Ho:=Aa (show w'.ownsRow w 9 1 v' (ps++[s.drop f]).length (Af (ps++[s.drop f]))by rw[Mt,ah];exact hown');have Hb:=Aa (hb.o.trans hb');clear hown' hb')
   go_ret;refine⟨_,rfl,?_,Hb.o⟩;rw[Hsp.o];exact Ho.o
theorem Te{b s:List UInt8}(h1:b≠[110])(h2:b≠[116])(h3:b≠[102]):Bq b s=false:=by
 unfold Bq;rw[if_neg h1,if_neg h2,if_neg h3]
theorem Qgx(s:List UInt8):Bq [116] s=(Er s && !(s == [39,39])):=by
 show (decide (2<s.length) && decide (s.head?=some 39) && decide (s.getLast?=some 39) && C7 (s.drop 1).dropLast)=((decide (2<=s.length) && decide (s.head?=some 39) && decide (s.getLast?=some 39) && C7 (s.drop 1).dropLast) && !(s == [39,39]));rcases aF 2 s.length with h|h
 ·have e1:decide (2<s.length)=true:=bg;have e2:decide (2<=s.length)=true:=aN;have e3:(s == [39,39])=false:=by
   rw[beq_eq_false_iff_ne];rintro rfl;simp at h
  rw[e1,e2,e3];simp
 have e1:decide (2<s.length)=false:=aN;rw[e1];match s,h with
 |[],_=>rfl
 |[_],_=>rfl
 |[a,b],_=>
  by_cases ha:a=39
  ·by_cases hb:b=39
   ·subst ha;subst hb;rfl
   simp[hb]
  simp[ha]
theorem Qs(b s:List UInt8)(w:World)(hs:s.length<=4000000):
  Calls prog 189 #[b,s] w fun e w'=>e=.returned (.bool (Bq b s))/\Below w w w':=by
 by_cases h1:b=[110]
 ·subst h1;have Hp:=Aa (fun W=>Cy s 999999 W hs aG);have hf:Bq [110] s=(match Cc s with|some n=>decide (0<n)|none=>false):=rfl;have hv:(Db s 999999 && (s != [48]))=Bq [110] s:=by
   rw[hf];cases hd:Cc s with
   |none=>rw[Kk hd];rfl
   |some n=>
    obtain⟨h9,e⟩:=Bt.1 hd;rw[Kq hd];have e1:decide (n<=999999)=true:=by simpa using h9
    rw[e1,Bool.true_and];by_cases h0:n=0
    ·subst h0;rw[e,Dp aG];decide
    have hne:s≠[48]:=by
     intro h;rw[e]at h;have:Aw n=Aw 0:=by rw[h,Dp (n:=0) aG];decide
     exact h0 (Qdj this)
    have e2:(s != [48])=true:=by simpa using hne
    rw[e2];simp;omega
  have Hv:=Aa hv;clear hf hv;go_enter func189,ntmps189;go_wp2_with fail;refine(Hp.o _).mono ?_;rintro e w' ⟨n,hn,rfl,_,hb⟩;have Hb:=Aa hb;clear hb;rcases Bool.eq_false_or_eq_true (Db s 999999)with ho|ho
  ·have Ho:=Aa ho;rw[ho];clear ho;go_wp2_with fail;exact hJ
  have Ho:=Aa ho;rw[ho];clear ho;go_wp2_with fail;exact hJ
 by_cases h2:b=[116]
 ·subst h2;have Hp:=Aa (fun W=>Si s W hs);have Hv:=Aa (Qgx s);clear h1;go_enter func189,ntmps189;go_wp2_with fail;refine(Hp.o _).mono ?_;rintro e w' ⟨rfl,rfl⟩;rcases Bool.eq_false_or_eq_true (Er s)with ho|ho
  ·have Ho:=Aa ho;rw[ho];clear ho;rcases Bool.eq_false_or_eq_true (s == [39,39])with hq|hq
   ·have Hq:=Aa hq;have hq2:(s != [39,39])=false:=by simp[bne,hq]
    go_wp2_with fail;exact hM
   have Hq:=Aa hq;have hq2:(s != [39,39])=true:=by simp[bne,hq]
   go_wp2_with fail;exact hM
  have Ho:=Aa ho;rw[ho];clear ho;go_wp2_with fail;go_ret;exact⟨Do (Cf (by rw[Hv.o,Ho.o];rfl)),At _ _⟩
 by_cases h3:b=[102]
 ·subst h3;have Hv:=Aa (show Bq [102] s=(s == [121,101,115])by show decide (s=[121,101,115])=_;by_cases h:s=[121,101,115]<;>simp[h]);clear h1 h2;go_enter func189,ntmps189;go_wp2_with fail;go_ret;exact⟨Do (Cf Hv.o.symm),At _ _⟩
 have Hv:=Aa (Te (s:=s) h1 h2 h3);have q1:(b == [110])=false:=dy;have q2:(b == [116])=false:=dz;have q3:(b == [102])=false:=by simpa using h3
 clear h1 h2 h3;go_enter func189,ntmps189;go_wp2_with fail;go_ret;exact⟨Do (Cf Hv.o.symm),At _ _⟩
def Ci(o:Option Fd)(w:World)(e:Ending)(w':World):Prop:=
 (match o with
  |some f=>e=.returned (.tuple #[Z4 f,.bool true])
  |none=>∃(x:Int) (a b c:ByteArray),e=.returned (.tuple #[.agg #[.int .i64 x,.string a,.string b,.string c],.bool false]))/\Below w w w'
theorem Ci.no{w w':World}{e:Ending}{o:Option Fd}(ho:o=none){x:Int}{a b c:ByteArray}(he:e=.returned (.tuple #[.agg #[.int .i64 x,.string a,.string b,.string c],.bool false]))(hb:Below w w w'):Ci o w e w':=by
 rw[ho];exact⟨⟨x,a,b,c,he⟩,hb⟩
theorem Ci.yes{w w':World}{e:Ending}{o:Option Fd}{f:Fd}(ho:o=some f)(he:e=.returned (.tuple #[Z4 f,.bool true]))(hb:Below w w w'):Ci o w e w':=by
 rw[ho];exact⟨he,hb⟩
theorem K0{w:World}{base:Nat}{v:Value}{a b:List UInt8}(h:w.ownsRow base 9 1 v [a,b].length (Af [a,b])):
  ∃g c,v=.slice (some ⟨g,0,none⟩) 2 c/\base<=g/\g<w.heap.size/\w.cell? ⟨g,0,none⟩=a/\w.cell? ⟨g,1,none⟩=b:=by
 rcases h.2 with⟨_,h0⟩|⟨g,cap,cur,rfl,hb,hh,_⟩
 ·simp at h0
 have hc:=fun j u hu=>h.cells (g:=g) rfl j u hu;have e1:∀j,(⟨g,0,none⟩:Addr).add j=⟨g,j,none⟩:=fun j=>bp;refine⟨g,cap,rfl,hb,(h.lt g rfl).2,?_,?_⟩
 ·have:=hc 0 _ rfl;rwa [e1]at this
 have:=hc 1 _ rfl;rwa [e1]at this
theorem Fb{w:World}{base:Nat}{v:Value}{a b d:List UInt8}(h:w.ownsRow base 9 1 v [a,b,d].length (Af [a,b,d])):
  ∃g c,v=.slice (some ⟨g,0,none⟩) 3 c/\base<=g/\g<w.heap.size/\w.cell? ⟨g,0,none⟩=a/\w.cell? ⟨g,1,none⟩=b/\w.cell? ⟨g,2,none⟩=d:=by
 rcases h.2 with⟨_,h0⟩|⟨g,cap,cur,rfl,hb,hh,_⟩
 ·simp at h0
 have hc:=fun j u hu=>h.cells (g:=g) rfl j u hu;have e1:∀j,(⟨g,0,none⟩:Addr).add j=⟨g,j,none⟩:=fun j=>bp;refine⟨g,cap,rfl,hb,(h.lt g rfl).2,?_,?_,?_⟩
 ·have:=hc 0 _ rfl;rwa [e1]at this
 ·have:=hc 1 _ rfl;rwa [e1]at this
 have:=hc 2 _ rfl;rwa [e1]at this
theorem P8(st:UInt8)(s:List UInt8)(w:World)(hs:s.length<=1000)(hp:(Ae 58 s).length≠(if st=69 then 2 else 3)):
  Calls prog 152 #[s,.int .u8 (st.toNat:Int)] w (Ci (Bo st s) w):=by
 have hno:Bo st s=none:=by
  unfold Bo;by_cases h:st=69
  ·rw[if_pos h]at hp ⊢;have:H6 (Ae 58 s)=none:=by
    cases hh:H6 (Ae 58 s)with
    |none=>rfl
    |some x=>rw[(Gv (n:=x.1) (b:=x.2)).1 hh |>.1]at hp;simp at hp
   rw[this]
  rw[if_neg h]at hp ⊢;have:Jx (Ae 58 s)=none:=by
   cases hh:Jx (Ae 58 s)with
   |none=>rfl
   |some x=>rw[(E8 (n:=x.1) (b:=x.2.1) (c:=x.2.2)).1 hh |>.1]at hp;simp at hp
  rw[this]
 have Hno:=Aa hno;have Hl:=Aa (Ft 58 s);have hst:=st.toNat_lt;clear hno;have Hcut:=Aa (fun W=>Ca s 58 58 rfl W aG);generalize Ae 58 s=ps at hp Hl Hcut;by_cases h69:st=69
 ·rw[if_pos h69]at hp;have t1:((st.toNat:Int) != 69)=false:=by have:=Bk h69;simpa using this
  have t2:((st.toNat:Int) == 69)=true:=Bk h69;have t3:((ps.length:Int) != 2)=true:=dv;clear h69 hp;go_enter func152,ntmps152;go_wp2_with fail;refine(Hcut.o _).mono ?_;rintro e w1 ⟨v,rfl,ho,hb⟩;obtain⟨A,c,rfl,_⟩:=Bl.own ho;obtain⟨hc,hfz,hz⟩:=Bs hb;have Hb:=Aa (((At w.heap.size w).alloc (Ao _) _).trans (hb.mono aK));clear hb ho;go_wp2_with fail;all_goals
   refine aE (v:=.tuple #[sf0,.bool false]) (by simp[results,results152,go_sem,sf0,hc]) rfl ?_;exact hO
 rw[if_neg h69]at hp;have t1:((st.toNat:Int) != 69)=true:=by have:=Am h69;simpa using this
 have t2:((st.toNat:Int) == 69)=false:=Am h69;have t3:((ps.length:Int) != 3)=true:=dv;clear h69 hp;go_enter func152,ntmps152;go_wp2_with fail;refine(Hcut.o _).mono ?_;rintro e w1 ⟨v,rfl,ho,hb⟩;obtain⟨A,c,rfl,_⟩:=Bl.own ho;obtain⟨hc,hfz,hz⟩:=Bs hb;have Hb:=Aa (((At w.heap.size w).alloc (Ao _) _).trans (hb.mono aK));clear hb ho;go_wp2_with fail;all_goals
  refine aE (v:=.tuple #[sf0,.bool false]) (by simp[results,results152,go_sem,sf0,hc]) rfl ?_;exact hO
theorem Qn(a b:List UInt8):Db a 200=false\/(Db a 200=true/\Cc a=some 0)\/(∃n,Db a 200=true/\Cc a=some n/\1<=n/\n<=200/\As b=false)\/(∃n,Db a 200=true/\Cc a=some n/\1<=n/\n<=200/\As b=true):=by
 cases hd:Cc a with
 |none=>exact .inl (Kk hd)
 |some n=>
  rw[Kq hd];by_cases h:n<=200
  ·have e:decide (n<=200)=true:=bg;rw[e];by_cases h0:n=0
   ·subst h0;exact .inr (.inl ⟨rfl,rfl⟩)
   rcases Bool.eq_false_or_eq_true (As b)with hb|hb
   ·exact .inr (.inr (.inr ⟨n,rfl,rfl,by omega,h,hb⟩))
   exact .inr (.inr (.inl ⟨n,rfl,rfl,by omega,h,hb⟩))
  left;simpa using h
theorem Ro{a b:List UInt8}(h:Db a 200=false\/Cc a=some 0\/As b=false):H6 [a,b]=none:=by
 cases hh:H6 [a,b]with
 |none=>rfl
 |some x=>
  obtain⟨n,c⟩:=x;obtain⟨e,h1,h2,h3⟩:=Gv.1 hh;simp at e;obtain⟨rfl,rfl⟩:=e;have hd:Cc (Aw n)=some n:=Bt.2 ⟨by omega,rfl⟩;rcases h with h|h|h
  ·rw[Kq hd]at h;simp at h;omega
  ·rw[hd]at h;injection h with h;omega
  rw[h3]at h;cases h
theorem Rv{a b c:List UInt8}(h:Db a 200=false\/Cc a=some 0\/As b=false):Jx [a,b,c]=none:=by
 cases hh:Jx [a,b,c]with
 |none=>rfl
 |some x=>
  obtain⟨n,d,f⟩:=x;obtain⟨e,h1,h2,h3⟩:=E8.1 hh;simp at e;obtain⟨rfl,rfl,rfl⟩:=e;have hd:Cc (Aw n)=some n:=Bt.2 ⟨by omega,rfl⟩;rcases h with h|h|h
  ·rw[Kq hd]at h;simp at h;omega
  ·rw[hd]at h;injection h with h;omega
  rw[h3]at h;cases h
theorem Qc2{a b:List UInt8}{n:Nat}(hd:Cc a=some n)(h1:1<=n)(h2:n<=200)(hb:As b=true):H6 [a,b]=some (n,b):=Gv.2 ⟨by rw[(Bt.1 hd).2],h1,h2,hb⟩
theorem Jc{a b c:List UInt8}{n:Nat}(hd:Cc a=some n)(h1:1<=n)(h2:n<=200)(hb:As b=true):Jx [a,b,c]=some (n,b,c):=E8.2 ⟨by rw[(Bt.1 hd).2],h1,h2,hb⟩
theorem Qen(s a b:List UInt8)(w:World)(hs:s.length<=1000)(hp:Ae 58 s=[a,b])(ho:Db a 200=false):
  Calls prog 152 #[s,.int .u8 69] w (Ci (Bo 69 s) w):=by
 have hal:=Ai 58 s a bi;have hbl:=Ai 58 s b bi;have hF:Bo 69 s=(match H6 [a,b]with|some (n,b)=>some ⟨n,b,Kd.nil,[]⟩|none=>none):=cj;have Hcut:=Aa (fun W=>Ca s 58 58 rfl W aG);rw[hp]at Hcut;have Hnum:=Aa (fun W=>Cy a 200 W aG aG);have Hname:=Aa (fun W=>B9 b W aG);clear hp;rw[Ro (.inl ho)]at hF;have HF:=Aa hF;have Ho:=Aa ho;clear hF ho;go_enter func152,ntmps152;go_wp2_with fail;refine(Hcut.o _).mono ?_;rintro e w1 ⟨v,rfl,ho,hb⟩;obtain⟨g,c,rfl,hg1,hg2,c0,c1⟩:=K0 ho;simp at hg1;obtain⟨hc,hfz,hz⟩:=Bs hb;have Hb:=Aa (((At w.heap.size w).alloc (Ao _) _).trans (hb.mono aK));have hzz:=hz w.heap.size aK;clear hb ho;go_wp2_with fail;refine(Hnum.o _).mono ?_;rintro e w2 ⟨n,hn,rfl,hdn,hb2⟩;rw[Ho.o];obtain⟨hc2,hfz2,hz2⟩:=Bs hb2;have Hb2:=Aa (Hb.o.trans (hb2.mono Hb.o.size));have hsz:=Hb2.o.size;have hz3:=hz2 _ hzz;clear hb2;go_wp2_with fail;refine aE (v:=.tuple #[.agg #[.int .i64 n,b,a8,a8],.bool false]) (by simp[results,results152,go_sem,hc,hc2,hzz,hz3]) rfl ?_;exact hY
theorem Qdu(s a b:List UInt8)(w:World)(hs:s.length<=1000)(hp:Ae 58 s=[a,b])(ho:Db a 200=true)(hd:Cc a=some 0):
  Calls prog 152 #[s,.int .u8 69] w (Ci (Bo 69 s) w):=by
 have hal:=Ai 58 s a bi;have hbl:=Ai 58 s b bi;have hF:Bo 69 s=(match H6 [a,b]with|some (n,b)=>some ⟨n,b,Kd.nil,[]⟩|none=>none):=cj;have Hcut:=Aa (fun W=>Ca s 58 58 rfl W aG);rw[hp]at Hcut;have Hnum:=Aa (fun W=>Cy a 200 W aG aG);have Hname:=Aa (fun W=>B9 b W aG);clear hp;rw[Ro (.inr (.inl hd))]at hF;have HF:=Aa hF;have Ho:=Aa ho;have Hd:=Aa hd;clear hF ho hd;go_enter func152,ntmps152;go_wp2_with fail;refine(Hcut.o _).mono ?_;rintro e w1 ⟨v,rfl,ho,hb⟩;obtain⟨g,c,rfl,hg1,hg2,c0,c1⟩:=K0 ho;simp at hg1;obtain⟨hc,hfz,hz⟩:=Bs hb;have Hb:=Aa (((At w.heap.size w).alloc (Ao _) _).trans (hb.mono aK));have hzz:=hz w.heap.size aK;clear hb ho;go_wp2_with fail;refine(Hnum.o _).mono ?_;rintro e w2 ⟨n,hn,rfl,hdn,hb2⟩;rw[Ho.o];obtain⟨hc2,hfz2,hz2⟩:=Bs hb2;have Hb2:=Aa (Hb.o.trans (hb2.mono Hb.o.size));have hsz:=Hb2.o.size;have hz3:=hz2 _ hzz;clear hb2;obtain rfl:=hdn 0 Hd.o;clear hdn;go_wp2_with fail;refine aE (v:=.tuple #[.agg #[.int .i64 0,b,a8,a8],.bool false]) (by simp[results,results152,go_sem,hc,hc2,hzz,hz3]) rfl ?_;exact hY
theorem Qd0(s a b:List UInt8)(w:World)(hs:s.length<=1000)(hp:Ae 58 s=[a,b])(n0:Nat)(ho:Db a 200=true)(hd:Cc a=some n0)(h1:1<=n0)(h2:n0<=200)(hnm:As b=false):
  Calls prog 152 #[s,.int .u8 69] w (Ci (Bo 69 s) w):=by
 have hal:=Ai 58 s a bi;have hbl:=Ai 58 s b bi;have hF:Bo 69 s=(match H6 [a,b]with|some (n,b)=>some ⟨n,b,Kd.nil,[]⟩|none=>none):=cj;have Hcut:=Aa (fun W=>Ca s 58 58 rfl W aG);rw[hp]at Hcut;have Hnum:=Aa (fun W=>Cy a 200 W aG aG);have Hname:=Aa (fun W=>B9 b W aG);clear hp;rw[Ro (.inr (.inr hnm))]at hF;have HF:=Aa hF;have Ho:=Aa ho;have Hd:=Aa hd;have Hnm:=Aa hnm;clear hF ho hd hnm;go_enter func152,ntmps152;go_wp2_with fail;refine(Hcut.o _).mono ?_;rintro e w1 ⟨v,rfl,ho,hb⟩;obtain⟨g,c,rfl,hg1,hg2,c0,c1⟩:=K0 ho;simp at hg1;obtain⟨hc,hfz,hz⟩:=Bs hb;have Hb:=Aa (((At w.heap.size w).alloc (Ao _) _).trans (hb.mono aK));have hzz:=hz w.heap.size aK;clear hb ho;go_wp2_with fail;refine(Hnum.o _).mono ?_;rintro e w2 ⟨n,hn,rfl,hdn,hb2⟩;rw[Ho.o];obtain⟨hc2,hfz2,hz2⟩:=Bs hb2;have Hb2:=Aa (Hb.o.trans (hb2.mono Hb.o.size));have hsz:=Hb2.o.size;have hz3:=hz2 _ hzz;clear hb2;obtain rfl:=hdn n0 Hd.o;clear hdn;go_wp2_with fail;refine(Hname.o _).mono ?_;rintro e w3 ⟨rfl,rfl⟩;rw[Hnm.o];go_wp2_with fail;refine aE (v:=.tuple #[.agg #[.int .i64 n0,b,a8,a8],.bool false]) (by simp[results,results152,go_sem,hc,hc2,hzz,hz3]) rfl ?_;exact hY
theorem Qeb(s a b:List UInt8)(w:World)(hs:s.length<=1000)(hp:Ae 58 s=[a,b])(n0:Nat)(ho:Db a 200=true)(hd:Cc a=some n0)(h1:1<=n0)(h2:n0<=200)(hnm:As b=true):
  Calls prog 152 #[s,.int .u8 69] w (Ci (Bo 69 s) w):=by
 have hal:=Ai 58 s a bi;have hbl:=Ai 58 s b bi;have hF:Bo 69 s=(match H6 [a,b]with|some (n,b)=>some ⟨n,b,Kd.nil,[]⟩|none=>none):=cj;have Hcut:=Aa (fun W=>Ca s 58 58 rfl W aG);rw[hp]at Hcut;have Hnum:=Aa (fun W=>Cy a 200 W aG aG);have Hname:=Aa (fun W=>B9 b W aG);clear hp;rw[Qc2 hd h1 h2 hnm]at hF;have HF:=Aa hF;have Ho:=Aa ho;have Hd:=Aa hd;have Hnm:=Aa hnm;clear hF ho hd hnm;go_enter func152,ntmps152;go_wp2_with fail;refine(Hcut.o _).mono ?_;rintro e w1 ⟨v,rfl,ho,hb⟩;obtain⟨g,c,rfl,hg1,hg2,c0,c1⟩:=K0 ho;simp at hg1;obtain⟨hc,hfz,hz⟩:=Bs hb;have Hb:=Aa (((At w.heap.size w).alloc (Ao _) _).trans (hb.mono aK));have hzz:=hz w.heap.size aK;clear hb ho;go_wp2_with fail;refine(Hnum.o _).mono ?_;rintro e w2 ⟨n,hn,rfl,hdn,hb2⟩;rw[Ho.o];obtain⟨hc2,hfz2,hz2⟩:=Bs hb2;have Hb2:=Aa (Hb.o.trans (hb2.mono Hb.o.size));have hsz:=Hb2.o.size;have hz3:=hz2 _ hzz;clear hb2;obtain rfl:=hdn n0 Hd.o;clear hdn;go_wp2_with fail;refine(Hname.o _).mono ?_;rintro e w3 ⟨rfl,rfl⟩;rw[Hnm.o];go_wp2_with fail;refine aE (v:=.tuple #[Z4 ⟨n0,b,Kd.nil,[]⟩,.bool true]) (by simp[results,results152,go_sem,Z4,Kd.nil,Br,Ck,hc,hc2,hzz,hz3]) rfl ?_;exact Ci.yes HF.o rfl aQ
theorem Q8(s a b:List UInt8)(w:World)(hs:s.length<=1000)(hp:Ae 58 s=[a,b]):
  Calls prog 152 #[s,.int .u8 69] w (Ci (Bo 69 s) w):=by
 rcases Qn a b with ho|⟨ho,hd⟩|⟨n0,ho,hd,h1,h2,hnm⟩|⟨n0,ho,hd,h1,h2,hnm⟩
 ·exact Qen s a b w hs hp ho
 ·exact Qdu s a b w hs hp ho hd
 ·exact Qd0 s a b w hs hp n0 ho hd h1 h2 hnm
 exact Qeb s a b w hs hp n0 ho hd h1 h2 hnm
end
end Go.Proofs.YtpjijpcemejlnaaGreatDoor
