/- Texts joined. Conditions: as each theorem names them. -/
import Derived.BigRegion
import Derived.BigQuiet
import Derived.Deep.QuietTactic
import Derived.Test.YtkgkoicedddkmaaGreatDoorC03
import Derived.Test.YtkgkoicedddkmaaGreatDoorC07
import Derived.Test.YtkgkoicedddkmaaGreatDoorC19
set_option maxRecDepth 100000
set_option maxHeartbeats 32000000
set_option linter.unusedVariables false
set_option linter.unusedSimpArgs false
namespace Go.Proofs.YtkgkoicedddkmaaGreatDoor
open Go.RowKit Go.Proofs.Tryz
section
attribute [local go_sem] Qiz Qii Qib Qgw ByteArray.mk_append_mk
theorem V7(st:UInt8)(hst:Dr st)(s:List UInt8)(w:World)(hs:s.length<=4000000):
  Calls prog 114 #[.string ⟨s.toArray⟩,.int .u8 (st.toNat:Int)] w (Dv (Gp st s) w):=by
 by_cases h:st=69
 ·exact Qfx st h s w hs
 exact Qgd st h s w hs
def Eo(o:Option Ty)(w:World)(e:Ending)(w':World):Prop:=
 (match o with
  |some t=>∃x:PT,x.ty=t/\e=.returned (.tuple #[x.ptr,.bool true])/\w.heap.size<=x.blk/\Px w' x/\∀k,x.fv.ownBlock=some k->w.heap.size<=k
  |none=>∃p:Option Addr,e=.returned (.tuple #[.pointer p,.bool false]))/\Below w.heap.size w w'
theorem Eo.no{w w':World}{e:Ending}{o:Option Ty}(ho:o=none){p:Option Addr}(he:e=.returned (.tuple #[.pointer p,.bool false]))(hb:Below w.heap.size w w'):Eo o w e w':=by
 rw[ho];exact⟨⟨p,he⟩,hb⟩
theorem Eo.yes{w w':World}{e:Ending}{o:Option Ty}{t:Ty}(ho:o=some t){b:Nat}{fv:Value}(he:e=.returned (.tuple #[.pointer (some ⟨b,0,none⟩),.bool true]))(hwb:w.heap.size<=b)(ht:Px w' ⟨t,b,fv⟩)(hf:∀k,fv.ownBlock=some k->w.heap.size<=k)(hb:Below w.heap.size w w'):Eo o w e w':=by
 rw[ho];exact⟨⟨⟨t,b,fv⟩,rfl,he,hwb,ht,hf⟩,hb⟩
theorem Vr(c:UInt8):decide (c∈([82,85,69]:List UInt8))=decide (Dr c):=by
 rw[decide_eq_decide];unfold Dr;simp
theorem Qem(w:World):Calls prog 98 #[.string ⟨#[]⟩] w (Eo (Ee []) w):=by
 go_enter func98,ntmps98
 go_wp2_with fail
 go_ret2
 exact Eo.no rfl rfl (Aq _ _)
theorem Qcb(c:UInt8)(r:List UInt8)(w:World)(hs:r.length<=3999999)(hc:¬Dr c):Calls prog 98 #[.string ⟨(c::r).toArray⟩] w (Eo (Ee (c::r)) w):=by
 have HF:=Aa (show Ee (c::r)=none by unfold Ee;simp only;rw[if_pos (.inl hc)])
 have Hc:=Aa (fun W=>(show Calls prog 112 #[.string ⟨#[82,85,69]⟩,.string ⟨#[c]⟩] W fun e w'=>e=.returned (.bool false)/\W=w' from by
  have:=M8 [82,85,69] c W
  rw[Vr,decide_eq_false hc]at this
  exact this))
 clear hc
 go_enter func98,ntmps98
 go_wp2_with fail
 refine(Hc.o _).mono ?_
 rintro e w' ⟨rfl,rfl⟩
 go_wp2_with fail
 go_ret2
 exact Eo.no HF.o rfl (Aq _ _)
theorem Qbx(c:UInt8)(r:List UInt8)(w:World)(hs:r.length<=3999999)(hc:Dr c)(h:(Qde 61 r).2.2=false\/Aw (Qde 61 r).1=false\/(Qde 61 r).2.1=[]):Calls prog 98 #[.string ⟨(c::r).toArray⟩] w (Eo (Ee (c::r)) w):=by
 have HF:=Aa (show Ee (c::r)=if (Qde 61 r).2.2=false\/Aw (Qde 61 r).1=false then none else(if c=82 then some ⟨c,(Qde 61 r).1,[]⟩else none)by
  unfold Ee
  simp only
  by_cases h1:(Qde 61 r).2.2=false\/Aw (Qde 61 r).1=false
  ·rw[if_pos (.inr h1),if_pos h1]
  have h2:(Qde 61 r).2.1=[]:=by
   rcases h with h|h|h
   ·exact absurd (.inl h) h1
   ·exact absurd (.inr h) h1
   exact h
  rw[if_neg (fun h3=>h3.elim (fun h3=>h3 hc) h1),if_neg h1,if_pos h2])
 have Hc:=Aa (fun W=>(show Calls prog 112 #[.string ⟨#[82,85,69]⟩,.string ⟨#[c]⟩] W fun e w'=>e=.returned (.bool true)/\W=w' from by
  have:=M8 [82,85,69] c W
  rw[Vr,decide_eq_true hc]at this
  exact this))
 have Hl:=Aa (fun(f:(Qde 61 r).2.2=true/\(Qde 61 r).2.1=[])=>show Yc ⟨c,(Qde 61 r).1,[]⟩=c::r from by
  rcases Ev 61 r with⟨_,e⟩|⟨p,t,e1,_,e⟩
  ·rw[e]at f;cases f.1
  rw[e]at f ⊢
  simp only at f
  have:=f.2
  subst this
  rw[e1];rfl)
 have Hcut:=Aa (fun W=>Re r 61 W (by omega))
 have hcl:=(Kp 61 r).1
 generalize Qde 61 r=q at *
 obtain⟨nm,rest,told⟩:=q
 simp only at hcl HF h Hl
 have Hh:=Aa h
 have Hc82:=Aa hc
 clear hc h
 go_enter func98,ntmps98
 go_wp2_with fail
 refine(Hc.o _).mono ?_
 rintro e w' ⟨rfl,rfl⟩
 go_wp2_with fail
 refine(Hcut.o _).mono ?_
 rintro e w1 ⟨rfl,k1,rfl⟩
 unfold Zz
 cases told with
 |false=>
  go_wp2_with fail
  go_ret2
  exact Eo.no (HF.o.trans (if_pos (by simp))) rfl (below_drewN (Aq _ _) _)
 |true=>
  have Hname:=Aa (fun W=>Ke nm W (by omega))
  generalize hnb:Aw nm=nb at *
  have Hnb:=Aa hnb
  clear hnb
  go_wp2_with fail
  refine(Hname.o _).mono ?_
  rintro e w2 ⟨rfl,hb2⟩
  have Hb2:=Aa (show Below w.heap.size w w2 from(below_drewN (Aq _ _) k1).trans (by simpa using hb2))
  clear hb2
  cases nb with
  |false=>
   go_wp2_with fail
   go_ret2
   exact Eo.no (HF.o.trans (if_pos (by simp))) rfl Hb2.o
  |true=>
   obtain rfl:rest=[]:=by
    rcases Hh.o with h|h|h
    ·cases h
    ·cases h
    exact h
   have HF2:=Aa (HF.o.trans (if_neg (by simp)))
   have Hl2:=Aa (Hl.o (by simp))
   have hz:=Hb2.o.size
   rcases Decidable.em (c=82)with h82|h82
   ·have t1:((c.toNat:Int) == 82)=true:=Be (d:=82) h82
    have HF3:=Aa (HF2.o.trans (if_pos h82))
    clear h82
    go_wp2_with fail
    go_quiet (fail)
    go_wp2_with fail
    go_ret2
    refine Eo.yes HF3.o (b:=w2.heap.size) (fv:=.slice none 0 0) rfl Hb2.o.size ?_ (fun k hk=>by simp[Value.ownBlock]at hk) (by repeat (first|exact Hb2.o.alloc Hb2.o.size _|refine Below.drew ?_|refine below_drewN ?_ _))
    refine⟨by simp,by first|exact Pf.new _ _ _|exact Pf.belowAt (Pf.new w2 _ _) (by simp) (by first|exact below_drewN (Aq _ _) _|exact(Aq _ _).drew),by simp,by simp,by simp,?_,none,0,rfl,by simp,rfl,Nat.zero_le _,fun h=>absurd h (by simp)⟩
    rw[Hl2.o];simp
   have t1:((c.toNat:Int) == 82)=false:=Am (d:=82) h82
   have HF3:=Aa (HF2.o.trans (if_neg h82))
   clear h82
   go_wp2_with fail
   go_quiet (fail)
   go_wp2_with fail
   go_ret2
   exact Eo.no HF3.o rfl (by repeat (first|exact Hb2.o.alloc Hb2.o.size _|refine Below.drew ?_|refine below_drewN ?_ _))
def Qhu(c:UInt8)(nm:List UInt8):Option (List Fd)->Option Ty
 |some r=>some ⟨c,nm,r⟩
 |none=>none
theorem Zq{c:UInt8}{r nm rest:List UInt8}(hc:Dr c)(h:Qde 61 r=(nm,rest,true))(hn:Aw nm=true)(hr:rest≠[]):Ee (c::r)=Qhu c nm (E9 c (Ai 44 rest) []):=by
 unfold Ee
 simp only[h]
 rw[if_neg (by simp[hc,hn]),if_neg hr]
 cases E9 c (Ai 44 rest) []<;>rfl
theorem Zt{c:UInt8}{ps:List (List UInt8)}{acc:List Fd}{k:Nat}(hk:k<ps.length):E9 c (ps.drop k) acc=(match Gp c ps[k]with|none=>none|some f=>if acc.length=8\/El acc f=false then none else E9 c (ps.drop (k+1)) (acc++[f])):=by
 rw[List.drop_eq_getElem_cons hk,E9]
 cases Gp c ps[k]<;>rfl
theorem Qcw{acc:List Fd}{f:Fd}(h:∀g∈acc,g.name≠f.name/\g.tag<f.tag):El acc f=true:=Gr.2 h
theorem Qbk{acc:List Fd}{f x:Fd}(hx:x∈acc)(h:f.tag<=x.tag\/x.name=f.name):El acc f=false:=by
 cases hh:El acc f with
 |false=>rfl
 |true=>
  obtain⟨h1,h2⟩:=Gr.1 hh x hx
  rcases h with h|h
  ·omega
  exact absurd h h1
theorem Ps(w:World)(a:Addr)(v:Value):w.grownBy (w.setCell a v) (some a.block):=
 ⟨rfl,rfl,rfl,by simp,fun k _ hk=>Go.heap_setCell_other _ _ _ _ (fun e=>hk (by rw[e]))⟩
theorem J6{w:World}{base k n:Nat}{e:TypeId}{v:Value}{xs:List Value}(h:w.ownsRow base e k v n xs):∃A m c,v=.slice A m c:=by
 rcases h.2 with⟨rfl,_⟩|⟨g,cap,cur,rfl,_⟩
 ·exact⟨_,_,_,rfl⟩
 exact⟨_,_,_,rfl⟩
theorem Pv.range{w:World}{A:Option Addr}{fs:List Fd}(hr:B9 w A (fs.length*6) (fs.flatMap Qz)){i:Nat}(hi:i<fs.length):∃b off,A=some ⟨b,off,none⟩/\b<w.heap.size/\w.rangeAt b (off+i*6) (Qz fs[i]):=by
 obtain⟨b,off,e,hlt,hc⟩:=hr.elem Qc9 (by decide) hi
 exact⟨b,off,e,hlt,fun j v hv=>by rw[Nat.add_assoc];exact hc j v hv⟩
theorem Tryz.infoIf:(prog.info? 124).map (fun i=>(i.zero,i.size,i.bytes))=some (some (.agg #[.int .i64 0,.string ⟨#[]⟩,.string ⟨#[]⟩,.string ⟨#[]⟩,.string ⟨#[]⟩,.string ⟨#[]⟩]),6,88):=by kernel_rfl
theorem Qhm(fs:List Fd):∀y∈fs.flatMap Qz,y.oneCell'=true:=by
 intro y hy
 obtain⟨f,_,hf⟩:=List.mem_flatMap.1 hy
 simp[Qz]at hf
 rcases hf with rfl|rfl|rfl|rfl|rfl|rfl<;>rfl
theorem Qcn(c:UInt8)(r nm rest:List UInt8)(w:World)(hs:r.length<=3999999)(hc:Dr c)(h:Qde 61 r=(nm,rest,true))(hn:Aw nm=true)(hr:rest≠[]):
  Calls prog 98 #[.string ⟨(c::r).toArray⟩] w (Eo (Ee (c::r)) w):=by
 have HF:=Aa (Zq hc h hn hr)
 have Hc:=Aa (fun W=>(show Calls prog 112 #[.string ⟨#[82,85,69]⟩,.string ⟨#[c]⟩] W fun e w'=>e=.returned (.bool true)/\W=w' from by
  have:=M8 [82,85,69] c W
  rw[Vr,decide_eq_true hc]at this
  exact this))
 have Hcut:=Aa (fun W=>Re r 61 W (by omega))
 have hcl:=Kp 61 r
 have Hcut2:=Aa h
 rw[h]at Hcut hcl
 simp only at hcl
 have hcl1:=hcl.1
 have hcl2:=hcl.2
 have Hname:=Aa (fun W=>Ke nm W (by omega))
 rw[hn]at Hname
 have Hsp:=Aa (fun W=>Sh rest 44 W (by omega))
 have hne:=Dm 44 rest
 have Hpl:=Aa (Ak 44 rest)
 have Hln:=Aa (E7 44 rest)
 generalize Ai 44 rest=ps at HF Hsp hne Hpl Hln
 have Hcs:=Aa hc
 have hpsl:ps.length<=4000000:=by have:=Hln.o;omega
 have hr1:rest.isEmpty=false:=by simpa using hr
 have hr2:(rest == [])=false:=by simpa using hr
 clear h hn hr hc hcl
 go_enter func98,ntmps98
 go_wp2_with fail
 refine(Hc.o _).mono ?_
 rintro e w' ⟨rfl,rfl⟩
 go_wp2_with fail
 refine(Hcut.o _).mono ?_
 rintro e w1 ⟨rfl,k1,rfl⟩
 unfold Zz
 go_wp2_with fail
 refine(Hname.o _).mono ?_
 rintro e w2 ⟨rfl,hb2⟩
 have Hb2:=Aa (show Below w.heap.size w w2 from(below_drewN (Aq _ _) k1).trans (by simpa using hb2))
 have hz2:=Hb2.o.size
 clear hb2
 go_wp2_with fail
 refine(Hsp.o _).mono ?_
 rintro e w3 ⟨v,rfl,ho,hb3⟩
 obtain⟨g,cg,rfl,hg1,hg2,hcells⟩:=Mw ho hne
 have hg1':w2.heap.size+1<=g:=by simpa using hg1
 have hz3:w2.heap.size<w3.heap.size:=by omega
 have HT0:=Aa (show w3.rangeAt w2.heap.size 0 [.int .u8 (c.toNat:Int),.string ⟨nm.toArray⟩,.slice none 0 0,.string ⟨(c::r).toArray⟩]from Aj (Bw w2 _ _) (by simp) hb3)
 have HK0:=Aa (show w3.there w2.heap.size 0 4 from Al (Cc w2 [.int .u8 (c.toNat:Int),.string ⟨nm.toArray⟩,.slice none 0 0,.string ⟨(c::r).toArray⟩] _) (by simp) hb3)
 have HB0:=Aa (show Pf w3 w2.heap.size from(Pf.new w2 _ _).belowAt (by simp) hb3)
 have Hb3:=Aa (show Below w.heap.size w w3 from(Hb2.o.alloc Hb2.o.size _).trans (hb3.mono (by simp;omega)))
 have Hcells:=Aa (show ∀j (hj:j<ps.length),w3.cell? ⟨g,j,none⟩=some (.string ⟨ps[j].toArray⟩)from hcells)
 have Hown0:=Aa (World.ownsRow_nil w3 w3.heap.size 124 6)
 clear ho hb3 hcells hg1 hne
 go_wp2_with fail
 go_loopw [53] (fun i wr=>∃(k:Nat) (acc:List Fd) (fv:Value),i=.int .i64 k/\k<=ps.length/\acc.length<=8/\Hid (Ee (c::r)=Qhu c nm (E9 c (ps.drop k) acc)) /\
   Hid (wr.ownsRow w3.heap.size 124 6 fv acc.length (acc.flatMap Qz))/\Hid (Below w.heap.size w wr)/\w3.heap.size<=wr.heap.size /\
   Hid (∀j (hj:j<ps.length),wr.cell? ⟨g,j,none⟩=some (.string ⟨ps[j].toArray⟩)) /\
   Hid (wr.rangeAt w2.heap.size 0 [.int .u8 (c.toNat:Int),.string ⟨nm.toArray⟩,fv,.string ⟨(c::r).toArray⟩])/\Hid (wr.there w2.heap.size 0 4)/\Hid (Pf wr w2.heap.size)) (fun i _=>ps.length - (intOf i).toNat)
 case atStart=>exact⟨0,[],.slice none 0 0,rfl,Nat.zero_le _,by simp,HF.o,Hown0.o,Hb3.o,Ap _,Hcells.o,HT0.o,HK0.o,HB0.o⟩
 case round=>
  obtain⟨wo,rfl⟩:∃wo:World,wo=wr:=⟨_,rfl⟩
  obtain⟨k,acc,fv,rfl,hk,ha8,hft,hown,hbr,hzr,hpr,hT,hK,hB⟩:=hrel
  have i1:(0:Int)<=(k:Int):=by omega
  obtain⟨A,cA,rfl,hrow⟩:=B9.ownK hown.o (by unfold maxLen;omega)
  have Hrow:=Aa hrow
  have t0:wo.cell? ⟨w2.heap.size,0,none⟩=some (.int .u8 (c.toNat:Int)):=by simpa using Ab hT.o 0 rfl
  have t2:wo.cell? ⟨w2.heap.size,2,none⟩=some (.slice A acc.length cA):=by simpa using Ab hT.o 2 rfl
  clear hrow
  by_cases hlt:k<ps.length
  ·have i2:(k:Int)<(ps.length:Int):=by omega
   have cell:=hpr.o k hlt
   have hft2:=Aa ((Zt (c:=c) (acc:=acc) hlt) ▸ hft.o)
   have hplk:=Hpl.o _ (List.getElem_mem hlt)
   generalize ps[k]=p at cell hft2 hplk
   have Hread:=Aa (fun W=>V7 c Hcs.o p W (by omega))
   generalize Gp c p=o at hft2 Hread
   go_wp2_with fail
   refine(Hread.o _).mono ?_
   rintro e w4 ⟨hcase,hb4⟩
   have Hb4:=Aa (hbr.o.trans (hb4.mono hbr.o.size))
   cases o with
   |none=>
    obtain⟨n,a1,a2,a3,a4,a5,rfl⟩:=hcase
    have Hend:=Aa (show Ee (c::r)=none from hft2.o)
    go_wp2_with fail
    go_ret2
    exact Eo.no Hend.o rfl (Hb4.o.alloc Hb4.o.size _)
   |some f=>
    have hcase':e=.returned (.tuple #[.agg #[.int .i64 (f.tag:Int),.string ⟨f.name.toArray⟩,.string ⟨f.kind.signs.toArray⟩,.string ⟨f.kind.base.toArray⟩,.string ⟨f.kind.name.toArray⟩,.string ⟨f.given.toArray⟩],.bool true]):=hcase
    subst hcase'
    clear hcase
    have s0:=(hb4.cell (p:=⟨w2.heap.size,0,none⟩) (show w2.heap.size<wo.heap.size by omega)).trans t0
    have s2:=(hb4.cell (p:=⟨w2.heap.size,2,none⟩) (show w2.heap.size<wo.heap.size by omega)).trans t2
    have hz4:wo.heap.size<=w4.heap.size:=hb4.size
    have hn4:¬(w2.heap.size=w4.heap.size):=by omega
    have hn5:w2.heap.size<w4.heap.size:=by omega
    have Hb4r:=Aa hb4
    clear t0 t2 hb4
    have hft3:=Aa (show Ee (c::r)=Qhu c nm (if acc.length=8\/El acc f=false then none else E9 c (ps.drop (k+1)) (acc++[f]))from hft2.o)
    clear hft2
    rcases Nat.eq_or_lt_of_le ha8 with h8|h8
    ·have q1:((acc.length:Int) == 8)=true:=by simp[h8]
     have Hend:=Aa (hft3.o.trans (by rw[if_pos (.inl h8)]))
     clear h8
     go_wp2_with fail
     go_ret2
     exact Eo.no Hend.o rfl (Hb4.o.alloc Hb4.o.size _)
    have q1:((acc.length:Int) == 8)=false:=by rw[beq_eq_false_iff_ne];omega
    go_wp2_with fail
    have f0:(w4.alloc (.cells #[.int .i64 (f.tag:Int),.string ⟨f.name.toArray⟩,.string ⟨f.kind.signs.toArray⟩,.string ⟨f.kind.base.toArray⟩,.string ⟨f.kind.name.toArray⟩,.string ⟨f.given.toArray⟩] 124)).cell? ⟨w4.heap.size,0,none⟩=some (.int .i64 (f.tag:Int)):=by simp
    have f1:(w4.alloc (.cells #[.int .i64 (f.tag:Int),.string ⟨f.name.toArray⟩,.string ⟨f.kind.signs.toArray⟩,.string ⟨f.kind.base.toArray⟩,.string ⟨f.kind.name.toArray⟩,.string ⟨f.given.toArray⟩] 124)).cell? ⟨w4.heap.size,1,none⟩=some (.string ⟨f.name.toArray⟩):=by simp
    have HR0:=Aa (Bw w4 [.int .i64 (f.tag:Int),.string ⟨f.name.toArray⟩,.string ⟨f.kind.signs.toArray⟩,.string ⟨f.kind.base.toArray⟩,.string ⟨f.kind.name.toArray⟩,.string ⟨f.given.toArray⟩] 124)
    go_loopw [81] (fun jj wq=>∃j:Nat,jj=.int .i64 j/\j<=acc.length/\Hid (∀x∈acc.take j,x.name≠f.name/\x.tag<f.tag)/\Hid (Below w4.heap.size w4 wq)/\w4.heap.size<wq.heap.size/\Hid (wq.rangeAt w4.heap.size 0 [.int .i64 (f.tag:Int),.string ⟨f.name.toArray⟩,.string ⟨f.kind.signs.toArray⟩,.string ⟨f.kind.base.toArray⟩,.string ⟨f.kind.name.toArray⟩,.string ⟨f.given.toArray⟩])) (fun jj _=>acc.length - (intOf jj).toNat)
    case atStart=>exact⟨0,rfl,Nat.zero_le _,by intro x hx;simp at hx,(Aq _ _).alloc (Ap _) _,by simp,HR0.o⟩
    case round=>
     clear f0 f1
     obtain⟨j,rfl,hj,hin,hbq,hzq,hfr⟩:=hrel
     have j1:(0:Int)<=(j:Int):=by omega
     have f0:wr.cell? ⟨w4.heap.size,0,none⟩=some (.int .i64 (f.tag:Int)):=by simpa using Ab hfr.o 0 rfl
     have f1:wr.cell? ⟨w4.heap.size,1,none⟩=some (.string ⟨f.name.toArray⟩):=by simpa using Ab hfr.o 1 rfl
     have hnq:¬(w4.heap.size=wr.heap.size):=by omega
     have Hbq:=Aa (Hb4.o.trans (hbq.o.mono Hb4.o.size))
     by_cases hjl:j<acc.length
     ·have j2:(j:Int)<(acc.length:Int):=by omega
      obtain⟨bA,oA,rfl,hbA,hrg⟩:=Pv.range ((Hrow.o.below Hb4r.o).below hbq.o) hjl
      have Hts:=Aa (Ch acc j hjl)
      have Hmem:=Aa (List.getElem_mem hjl)
      have Hrg:=Aa (show wr.rangeAt bA (oA+j*6) [.int .i64 (acc[j].tag:Int),.string ⟨acc[j].name.toArray⟩,.string ⟨acc[j].kind.signs.toArray⟩,.string ⟨acc[j].kind.base.toArray⟩,.string ⟨acc[j].kind.name.toArray⟩,.string ⟨acc[j].given.toArray⟩]from hrg)
      clear hrg
      generalize acc[j]=x at Hts Hmem Hrg
      rcases Decidable.em (x.name=f.name)with hnm|hnm
      ·have q2:(x.name == f.name)=true:=by simp[hnm]
       have Hend:=Aa (hft3.o.trans (by rw[if_pos (.inr (Qbk Hmem.o (.inr hnm)))]))
       clear hnm
       go_wp2_with ((with_reducible refine wpList_load_mid (op:=⟨_,.load 124 _,_,_,_,none⟩) rfl 124 _ rfl bA (oA+j*6) ?_ _ _ Hrg.o underlying124 ?_ ?_ ?_);rfl;rfl;kernel_rfl)
       go_ret2
       exact Eo.no Hend.o rfl (Hbq.o.alloc Hbq.o.size _)
      have q2:(x.name == f.name)=false:=by simp[hnm]
      rcases Nat.lt_or_ge x.tag f.tag with ht|ht
      ·have q3:decide ((f.tag:Int)<=(x.tag:Int))=false:=by rw[decide_eq_false_iff_not];omega
       have Hin:=Aa (show ∀y∈acc.take (j+1),y.name≠f.name/\y.tag<f.tag from by
        intro y hy
        rw[Hts.o]at hy
        rcases List.mem_append.1 hy with hy|hy
        ·exact hin.o y hy
        simp at hy;subst hy;exact⟨hnm,ht⟩)
       clear hnm
       go_wp2_with ((with_reducible refine wpList_load_mid (op:=⟨_,.load 124 _,_,_,_,none⟩) rfl 124 _ rfl bA (oA+j*6) ?_ _ _ Hrg.o underlying124 ?_ ?_ ?_);rfl;rfl;kernel_rfl)
       go_roundw
       case rel=>exact⟨j+1,by go_num,by omega,Hin.o,hbq.o.alloc (Nat.le_of_lt hzq) _,by simp;omega,Aj hfr.o hzq ((Aq wr.heap.size wr).alloc (Ap _) _)⟩
       case measure=>simp[intOf];omega
      have q3:decide ((f.tag:Int)<=(x.tag:Int))=true:=by rw[decide_eq_true_iff];omega
      have Hend:=Aa (hft3.o.trans (by rw[if_pos (.inr (Qbk Hmem.o (.inl ht)))]))
      clear hnm
      go_wp2_with ((with_reducible refine wpList_load_mid (op:=⟨_,.load 124 _,_,_,_,none⟩) rfl 124 _ rfl bA (oA+j*6) ?_ _ _ Hrg.o underlying124 ?_ ?_ ?_);rfl;rfl;kernel_rfl)
      go_ret2
      exact Eo.no Hend.o rfl (Hbq.o.alloc Hbq.o.size _)
     ·have j2:¬(j:Int)<(acc.length:Int):=by omega
      have Hft4:=Aa (show Ee (c::r)=Qhu c nm (E9 c (ps.drop (k+1)) (acc++[f]))from by
       rw[hft3.o,if_neg]
       rintro(h|h)
       ·omega
       rw[Qcw (fun y hy=>hin.o y (by rw[List.take_of_length_le (by omega)];exact hy))]at h;cases h)
      have hb1:Below wo.heap.size wo wr:=Hb4r.o.trans (hbq.o.mono hz4)
      have Hown:=Aa (Cm hown.o hb1)
      have Hpr:=Aa (show ∀j (hj:j<ps.length),wr.cell? ⟨g,j,none⟩=some (.string ⟨ps[j].toArray⟩)from fun j hj=>(hb1.cell (p:=⟨g,j,none⟩) (show g<wo.heap.size by omega)).trans (hpr.o j hj))
      have HT1:=Aa (Aj hT.o (show w2.heap.size<wo.heap.size by omega) hb1)
      have HB1:=Aa (hB.o.belowAt (show w2.heap.size<wo.heap.size by omega) hb1)
      have HK1:=Aa (Al hK.o (show w2.heap.size<wo.heap.size by omega) hb1)
      have hz5:w3.heap.size<=wr.heap.size:=by omega
      have hz6:w.heap.size<=w3.heap.size:=by omega
      clear hb1 f0 f1
      go_wp2_with fail
      refine Bi [98,99,100,101,102,103,104,105,106,107,999] (by kernel_rfl) (by kernel_rfl) (by kernel_rfl) (fun u=>by dsimp only[Qbm,Bm,List.set,Nat.zero_add,Nat.reduceAdd])
       (fun i v W=>match i with|0=>v=.pointer (some ⟨w2.heap.size,0,none⟩)|1=>v=.pointer (some ⟨w2.heap.size,0,none⟩)|2=>v=.pointer (some ⟨w2.heap.size,0,none⟩)|3=>v=.pointer (some ⟨w2.heap.size,2,none⟩)|4=>v=.slice A acc.length cA|5=>v=.agg #[.int .i64 (f.tag:Int),.string ⟨f.name.toArray⟩,.string ⟨f.kind.signs.toArray⟩,.string ⟨f.kind.base.toArray⟩,.string ⟨f.kind.name.toArray⟩,.string ⟨f.given.toArray⟩]|8=>v=.pointer (some ⟨w2.heap.size,0,none⟩)|9=>v=.pointer (some ⟨w2.heap.size,2,none⟩)|_=>True)
       (fun L U W=>Below w.heap.size w W/\w3.heap.size<=W.heap.size/\(∀j (hj:j<ps.length),W.cell? ⟨g,j,none⟩=some (.string ⟨ps[j].toArray⟩))/\(W.there w2.heap.size 0 4/\Pf W w2.heap.size) /\
        (L 10=false->W.rangeAt w2.heap.size 0 [.int .u8 (c.toNat:Int),.string ⟨nm.toArray⟩,.slice A acc.length cA,.string ⟨(c::r).toArray⟩])/\(L 10=true->W.rangeAt w2.heap.size 0 [.int .u8 (c.toNat:Int),.string ⟨nm.toArray⟩,U 7,.string ⟨(c::r).toArray⟩]) /\
        (L 5=false->W.rangeAt w4.heap.size 0 [.int .i64 (f.tag:Int),.string ⟨f.name.toArray⟩,.string ⟨f.kind.signs.toArray⟩,.string ⟨f.kind.base.toArray⟩,.string ⟨f.kind.name.toArray⟩,.string ⟨f.given.toArray⟩])/\(L 7=false->W.ownsRow w3.heap.size 124 6 (.slice A acc.length cA) acc.length (acc.flatMap Qz))/\(L 7=true->W.ownsRow w3.heap.size 124 6 (U 7) (acc.length+1) (acc.flatMap Qz++Qz f)) /\
        (L 6=true->L 7=false->∃q,U 6=.slice (some ⟨q,0,none⟩) 1 1/\W.rangeAt q 0 [.int .i64 (f.tag:Int),.string ⟨f.name.toArray⟩,.string ⟨f.kind.signs.toArray⟩,.string ⟨f.kind.base.toArray⟩,.string ⟨f.kind.name.toArray⟩,.string ⟨f.given.toArray⟩]))
       (fun _ _=>True) (fun w w' _ i v h=>by revert h;exact fun h=>h) ⟨Hbq.o.drew,hz5,Hpr.o,⟨HK1.o,HB1.o⟩,fun _=>HT1.o,by simp,fun _=>hfr.o,fun _=>Hown.o,by simp,by simp⟩ ?_ ?_
      ·repeat (first|exact Ah.nil|(refine Ah.cons ?_ ?_;rotate_left))
       all_goals
        rintro L U W hL hpre hR hun hdep K hK
        have Hdep:=Aa hdep
        have HR:=Aa hR
        clear hun hdep hR
        first|(simp[Region.binds]at hpre;done)|simp[Region.binds]at hpre|clear hpre
       ·go_simp
        exact hK _ _ _ rfl Ac HR.o rfl
       ·go_simp
        exact hK _ _ _ rfl Ac HR.o rfl
       ·have u1:=hpre.2
        go_simp
        exact hK (.pointer (some ⟨w2.heap.size,0,none⟩)) _ _ rfl Ac HR.o (by simp[Act.put,u1])
       ·have u2:=hpre.2
        go_simp
        exact hK (.pointer (some ⟨w2.heap.size,2,none⟩)) _ _ rfl Ac HR.o (by simp[Act.put,u2])
       ·have h10:=(Ax Hdep.o 10 7 rfl (Ax Hdep.o 7 4 rfl hL))
        obtain⟨r1,r2,r3,r4,r5,r6,r7,r8,r9,r0⟩:=HR.o
        have u3:=hpre.2
        have c2:W.cell? ⟨w2.heap.size,2,none⟩=some (.slice A acc.length cA):=by simpa using Ab (r5 h10) 2 rfl
        clear r1 r2 r3 r4 r5 r6 r7 r8 r9 r0
        go_simp
        exact hK (.slice A acc.length cA) _ _ rfl Ac HR.o (by simp[Act.put,u3])
       ·obtain⟨r1,r2,r3,r4,r5,r6,r7,r8,r9,r0⟩:=HR.o
        rw[if_pos (by rfl)]
        refine wp_load_mid 124 _ rfl w4.heap.size 0 rfl [.int .i64 (f.tag:Int),.string ⟨f.name.toArray⟩,.string ⟨f.kind.signs.toArray⟩,.string ⟨f.kind.base.toArray⟩,.string ⟨f.kind.name.toArray⟩,.string ⟨f.given.toArray⟩] _ (r7 hL) underlying124 rfl (by kernel_rfl) ?_
        exact hK (.agg ([.int .i64 (f.tag:Int),.string ⟨f.name.toArray⟩,.string ⟨f.kind.signs.toArray⟩,.string ⟨f.kind.base.toArray⟩,.string ⟨f.kind.name.toArray⟩,.string ⟨f.given.toArray⟩]:List Value).toArray) _ _ rfl Ac ⟨r1,r2,r3,r4,r5,r6,fun h=>by simp at h,r8,r9,r0⟩ rfl
       ·obtain⟨r1,r2,r3,r4,r5,r6,r7,r8,r9,r0⟩:=HR.o
        have R1:=Aa r1
        have u5:=hpre.2
        have HF5:=Aa (Bw W [.int .i64 (f.tag:Int),.string ⟨f.name.toArray⟩,.string ⟨f.kind.signs.toArray⟩,.string ⟨f.kind.base.toArray⟩,.string ⟨f.kind.name.toArray⟩,.string ⟨f.given.toArray⟩] 124)
        have HRR:=Aa (show (∀j (hj:j<ps.length),(W.alloc (.cells #[.int .i64 (f.tag:Int),.string ⟨f.name.toArray⟩,.string ⟨f.kind.signs.toArray⟩,.string ⟨f.kind.base.toArray⟩,.string ⟨f.kind.name.toArray⟩,.string ⟨f.given.toArray⟩] 124)).cell? ⟨g,j,none⟩=some (.string ⟨ps[j].toArray⟩))/\((W.alloc (.cells #[.int .i64 (f.tag:Int),.string ⟨f.name.toArray⟩,.string ⟨f.kind.signs.toArray⟩,.string ⟨f.kind.base.toArray⟩,.string ⟨f.kind.name.toArray⟩,.string ⟨f.given.toArray⟩] 124)).there w2.heap.size 0 4/\Pf (W.alloc (.cells #[.int .i64 (f.tag:Int),.string ⟨f.name.toArray⟩,.string ⟨f.kind.signs.toArray⟩,.string ⟨f.kind.base.toArray⟩,.string ⟨f.kind.name.toArray⟩,.string ⟨f.given.toArray⟩] 124)) w2.heap.size) /\
         (L 10=false->(W.alloc (.cells #[.int .i64 (f.tag:Int),.string ⟨f.name.toArray⟩,.string ⟨f.kind.signs.toArray⟩,.string ⟨f.kind.base.toArray⟩,.string ⟨f.kind.name.toArray⟩,.string ⟨f.given.toArray⟩] 124)).rangeAt w2.heap.size 0 [.int .u8 (c.toNat:Int),.string ⟨nm.toArray⟩,.slice A acc.length cA,.string ⟨(c::r).toArray⟩])/\(L 10=true->(W.alloc (.cells #[.int .i64 (f.tag:Int),.string ⟨f.name.toArray⟩,.string ⟨f.kind.signs.toArray⟩,.string ⟨f.kind.base.toArray⟩,.string ⟨f.kind.name.toArray⟩,.string ⟨f.given.toArray⟩] 124)).rangeAt w2.heap.size 0 [.int .u8 (c.toNat:Int),.string ⟨nm.toArray⟩,U 7,.string ⟨(c::r).toArray⟩]) /\
         (L 5=false->(W.alloc (.cells #[.int .i64 (f.tag:Int),.string ⟨f.name.toArray⟩,.string ⟨f.kind.signs.toArray⟩,.string ⟨f.kind.base.toArray⟩,.string ⟨f.kind.name.toArray⟩,.string ⟨f.given.toArray⟩] 124)).rangeAt w4.heap.size 0 [.int .i64 (f.tag:Int),.string ⟨f.name.toArray⟩,.string ⟨f.kind.signs.toArray⟩,.string ⟨f.kind.base.toArray⟩,.string ⟨f.kind.name.toArray⟩,.string ⟨f.given.toArray⟩])/\(L 7=false->(W.alloc (.cells #[.int .i64 (f.tag:Int),.string ⟨f.name.toArray⟩,.string ⟨f.kind.signs.toArray⟩,.string ⟨f.kind.base.toArray⟩,.string ⟨f.kind.name.toArray⟩,.string ⟨f.given.toArray⟩] 124)).ownsRow w3.heap.size 124 6 (.slice A acc.length cA) acc.length (acc.flatMap Qz))/\(L 7=true->(W.alloc (.cells #[.int .i64 (f.tag:Int),.string ⟨f.name.toArray⟩,.string ⟨f.kind.signs.toArray⟩,.string ⟨f.kind.base.toArray⟩,.string ⟨f.kind.name.toArray⟩,.string ⟨f.given.toArray⟩] 124)).ownsRow w3.heap.size 124 6 (U 7) (acc.length+1) (acc.flatMap Qz++Qz f))
         from⟨fun j hj=>by rw[World.cell?_alloc_old _ _ _ (show g≠W.heap.size by omega)];exact r3 j hj,⟨World.there_alloc r4.1 _,r4.2.belowAt (show w2.heap.size<W.heap.size by omega) ((Aq _ _).alloc (Ap _) _)⟩,fun h=>World.rangeAt_alloc (r5 h) _,fun h=>World.rangeAt_alloc (r6 h) _,fun h=>World.rangeAt_alloc (r7 h) _,fun h=>(r8 h).alloc _,fun h=>(r9 h).alloc _⟩)
        clear r1 r3 r4 r5 r6 r7 r8 r9 r0
        go_simp
        refine hK (.slice (some ⟨W.heap.size,0,none⟩) 1 1) _ _ Ac Ac ⟨R1.o.alloc R1.o.size _,by simp;omega,HRR.o.1,HRR.o.2.1,HRR.o.2.2.1,HRR.o.2.2.2.1,HRR.o.2.2.2.2.1,HRR.o.2.2.2.2.2.1,HRR.o.2.2.2.2.2.2,fun _ _=>⟨W.heap.size,rfl,HF5.o⟩⟩ (by simp[Act.put,u5])
       ·obtain⟨r1,r2,r3,r4,r5,r6,r7,r8,r9,r0⟩:=HR.o
        have h10:=(Ax Hdep.o 10 7 rfl hL)
        have h7:=r8 hL
        obtain⟨q,e1,e2⟩:=r0 hpre.2 hL
        obtain⟨i0,hi,hz0,hz1,hz2'⟩:=info_parts Tryz.infoIf
        rw[if_pos (by rfl)]
        refine wp_append_own W (.tmp 102) (.tmp 104) 156 rfl w3.heap.size 124 i0 (.agg #[.int .i64 0,.string ⟨#[]⟩,.string ⟨#[]⟩,.string ⟨#[]⟩,.string ⟨#[]⟩,.string ⟨#[]⟩]) 6 88 underlying156 hi hz0 hz1 hz2' rfl (by decide) (.slice A acc.length cA) acc.length (acc.flatMap Qz) hpre.1.2 h7 ⟨q,0,none⟩ 1 1 (Qz f) e1 (by simp[Qz]) ?_ (fun y hy=>Qhm [f] y (by simpa using hy)) (by unfold maxLen;omega) (by omega) r2 ?_
        ·intro i x hx
         rw[Yk]
         have:=e2 i x hx
         simpa using this
        intro v' w' hown' hgr _
        have hbw:Below w3.heap.size W w':=(Aq _ _).grown hgr r2 (fun k hk=>(h7.lt k hk).1)
        refine hK v' w' _ Ac Ac ⟨r1.trans (hbw.mono hz6),Nat.le_trans r2 hbw.size,fun j hj=>(hbw.cell (p:=⟨g,j,none⟩) (show g<w3.heap.size by omega)).trans (r3 j hj),⟨Al r4.1 hz3 hbw,r4.2.belowAt hz3 hbw⟩,fun h=>Aj (r5 h) hz3 hbw,fun h=>absurd h10 (by rw[show L 10=true from h];decide),fun h=>absurd hpre.2 (by rw[Ax Hdep.o 6 5 rfl h];decide),fun h=>by simp at h,fun _=>hown',fun _ h=>by simp at h⟩ rfl
       ·have u0:=hpre.1.2
        go_simp
        exact hK (.pointer (some ⟨w2.heap.size,0,none⟩)) _ _ rfl Ac HR.o (by simp[Act.put,hpre])
       ·have u8:=hpre.2
        go_simp
        exact hK (.pointer (some ⟨w2.heap.size,2,none⟩)) _ _ rfl Ac HR.o (by simp[Act.put,hpre])
       ·obtain⟨r1,r2,r3,r4,r5,r6,r7,r8,r9,r0⟩:=HR.o
        have R1:=Aa r1
        have l7:L 7=true:=by first|exact hpre.2.1|exact hpre.2.1.1
        have h5:=r5 hL
        have h9:=r9 l7
        obtain⟨A7,n7,c7,e7⟩:=J6 h9
        rw[e7]at h9
        obtain⟨y2,c2⟩:=Option.isSome_iff_exists.1 (r4.1 2 (by decide)).1
        rw[Nat.zero_add]at c2
        have z2:W.frozen? ⟨w2.heap.size,2,none⟩=false:=by simpa using(r4.1 2 (by decide)).2
        have hT10:=Aa (show (W.setCell ⟨w2.heap.size,2,none⟩ (.slice A7 n7 c7)).rangeAt w2.heap.size 0 [.int .u8 (c.toNat:Int),.string ⟨nm.toArray⟩,(.slice A7 n7 c7),.string ⟨(c::r).toArray⟩]from C7 [.int .u8 (c.toNat:Int),.string ⟨nm.toArray⟩] [.slice A acc.length cA] [.string ⟨(c::r).toArray⟩] [.slice A7 n7 c7] h5 rfl)
        have hK10:=Aa (show (W.setCell ⟨w2.heap.size,2,none⟩ (.slice A7 n7 c7)).there w2.heap.size 0 4 from World.there_setCells r4.1 w2.heap.size 2 [.slice A7 n7 c7])
        have hBk10:=Aa (r4.2.set (o:=2) (.slice A7 n7 c7))
        have hP10:=Aa (show ∀j (hj:j<ps.length),(W.setCell ⟨w2.heap.size,2,none⟩ (.slice A7 n7 c7)).cell? ⟨g,j,none⟩=some (.string ⟨ps[j].toArray⟩)from fun j hj=>by
         rw[World.cell?_setCell_other _ _ _ _ (by intro e;injection e with e;omega)];exact r3 j hj)
        have hO10:=Aa (show (W.setCell ⟨w2.heap.size,2,none⟩ (.slice A7 n7 c7)).ownsRow w3.heap.size 124 6 (.slice A7 n7 c7) (acc.length+1) (acc.flatMap Qz++Qz f)from h9.kept (Ps W _ (.slice A7 n7 c7)) (.inr (fun e=>by have:=(h9.lt _ e).1;simp at this;omega)))
        have hz10:w3.heap.size<=(W.setCell ⟨w2.heap.size,2,none⟩ (.slice A7 n7 c7)).heap.size:=by simpa using r2
        have hB10:=Aa (show Below w.heap.size w (W.setCell ⟨w2.heap.size,2,none⟩ (.slice A7 n7 c7))from r1.setCell hz2 _)
        clear r1 r3 r4 r5 r6 r7 r8 r9 r0 h5 h9
        go_simp
        exact hK undef _ _ Ac Ac ⟨hB10.o,hz10,hP10.o,⟨hK10.o,hBk10.o⟩,fun h=>by simp at h,fun _=>by show World.rangeAt _ _ _ [_,_,U 7,_];rw[e7];exact hT10.o,fun h=>absurd l7 (by rw[(Ax Hdep.o 7 6 rfl (Ax Hdep.o 6 5 rfl h))];decide),fun h=>absurd l7 (by rw[show L 7=false from h];decide),fun _=>by show World.ownsRow _ _ _ _ (U 7) _ _;rw[e7];exact hO10.o,fun _ h=>absurd l7 (by rw[show L 7=false from h];decide)⟩ (by simp[Act.put,hpre,e7])
      rintro L U W hL hφ hR
      obtain⟨hbW,hzW,hprW,hKW,_,hTW,_,_,hoW,_⟩:=hR
      have hTW':=hTW (hL 10 (by decide))
      have hoW':=hoW (hL 7 (by decide))
      generalize U 7=V at hTW' hoW'
      have HbW:=Aa hbW
      have HprW:=Aa hprW
      have HKW:=Aa hKW.1
      have HBW:=Aa hKW.2
      have HTW:=Aa hTW'
      have HoW:=Aa hoW'
      clear hL hφ hbW hprW hKW hTW hoW hTW' hoW'
      go_wp2_with fail
      go_roundw
      case rel=>exact⟨k+1,acc++[f],V,by go_num,by omega,by simp;omega,Hft4.o,by rw[List.length_append,List.flatMap_append,show [f].flatMap Qz=Qz f from by simp];exact HoW.o,HbW.o,hzW,HprW.o,HTW.o,HKW.o,HBW.o⟩
      case measure=>simp[intOf];omega
  ·have i2:¬(k:Int)<(ps.length:Int):=by omega
   have Hfin:=Aa (show Ee (c::r)=some ⟨c,nm,acc⟩by rw[hft.o,List.drop_of_length_le (by omega)];rfl)
   go_wp2_with fail
   go_ret2
   refine Eo.yes Hfin.o (b:=w2.heap.size) (fv:=.slice A acc.length cA) rfl hz2 ?_ (fun k hk=>by have:=(hown.o.lt k hk).1;omega) hbr.o
   refine⟨show w2.heap.size<wo.heap.size by omega,hB.o,by simpa using Ab hT.o 0 rfl,by simpa using Ab hT.o 1 rfl,by simpa using Ab hT.o 2 rfl,?_,A,cA,rfl,ha8,Hrow.o⟩
   have hB:=(Ew.1 Hfin.o).2
   show _=some (Value.string ⟨(Yc ⟨c,nm,acc⟩).toArray⟩)
   rw[hB]
   simpa using Ab hT.o 3 rfl
theorem Zc(s:List UInt8)(w:World)(hs:s.length<=4000000):
  Calls prog 98 #[.string ⟨s.toArray⟩] w (Eo (Ee s) w):=by
 cases s with
 |nil=>exact Qem w
 |cons c r=>
  simp at hs
  by_cases hc:Dr c
  ·by_cases h:(Qde 61 r).2.2=false\/Aw (Qde 61 r).1=false\/(Qde 61 r).2.1=[]
   ·exact Qbx c r w (by omega) hc h
   simp only[not_or]at h
   exact Qcn c r (Qde 61 r).1 (Qde 61 r).2.1 w (by omega) hc (Prod.ext rfl (Prod.ext rfl (by simpa using h.1))) (by simpa using h.2.1) h.2.2
  exact Qcb c r w (by omega) hc
def Qh3(w:World)(p:Value)(xs:List PT):Prop:=
 ∃b mb,p=.pointer (some ⟨b,0,none⟩)/\b<w.heap.size/\w.cell? ⟨b,1,none⟩=some (.map (some mb))/\Pd w mb xs
theorem Q9.map{w:World}{p:Value}{xs:List PT}(h:Q9 w p xs):Qh3 w p xs:=by
 obtain⟨b,A,c,mb,e,h0,h1,h2,h3,h4,_⟩:=h
 exact⟨b,mb,e,h0,h2,h4⟩
theorem Ey{w:World}{mb:Nat}{xs:List PT}(h:Pd w mb xs)(n:Cf)(hn:n.length<=9223372036854775807):
  (Instr.lookup 120 (.map (some mb)) (.string ⟨n.toArray⟩) false).run prog w=.ok (Xh (Ef xs n)) w:=
 Dd.lookup h Tryz.keyStr underlying120 (Tryz.zeroPtr w) (Qc6 hn)
theorem H8{k:Kd}(h:Cw k):k.name.length<=3:=by
 rcases h.2.1 with⟨_,hn⟩|⟨_,hn⟩
 ·exact(Dk.1 hn).2.1
 rw[hn];simp
theorem Qbh(p:Value)(xs:List PT)(k:Kd)(w:World)(h:Qh3 w p xs)(hk:k.name.length<=100):
  Calls prog 74 #[p,D2 k] w fun e w'=>e=.returned (.bool (decide (Bx (Ae xs) k)))/\Below w.heap.size w w':=by
 obtain⟨b,mb,rfl,hb,hm,hn⟩:=h
 have Hn:=Aa hn
 clear hn
 unfold D2
 generalize hd:(.cells #[.string ⟨k.signs.toArray⟩,.string ⟨k.base.toArray⟩,.string ⟨k.name.toArray⟩] 62:Obj)=ob
 have hl0:w.heap.size<(w.alloc ob).heap.size:=by simp
 have x1:(w.alloc ob).cell? ⟨w.heap.size,1,none⟩=some (.string ⟨k.base.toArray⟩):=by rw[<-hd];simp
 have x2:(w.alloc ob).cell? ⟨w.heap.size,2,none⟩=some (.string ⟨k.name.toArray⟩):=by rw[<-hd];simp
 have x3:(w.alloc ob).cell? ⟨b,1,none⟩=some (.map (some mb)):=by rw[World.cell?_alloc_old _ _ _ (show b≠w.heap.size by omega)];exact hm
 have hlook:∀q,(Instr.lookup 120 (.map (some mb)) (.string ⟨k.name.toArray⟩) false).run prog ((w.alloc ob).drewN q)=.ok (Xh (Ef xs k.name)) ((w.alloc ob).drewN q):=fun q=>Ey (Dd.below (Hn.o.alloc _) (below_drewN (Aq _ _) q)) k.name (by omega)
 have Hd:=Aa hd
 have Hr:=Aa (show decide (Bx (Ae xs) k)=(decide (k.base≠[64]) || (Ef xs k.name).isSome)by
  have e:Bx (Ae xs) k↔(k.base=[64]->(Ef xs k.name).isSome=true):=by unfold Bx;rw[Gf];simp
  by_cases h:k.base=[64]
  ·cases hf:Ef xs k.name with
   |none=>rw[decide_eq_false (fun h2=>by have:=e.1 h2 h;rw[hf]at this;cases this)];simp[h]
   |some x=>rw[decide_eq_true (e.2 (fun _=>by rw[hf];rfl))];simp
  rw[decide_eq_true (e.2 (fun h2=>absurd h2 h))];simp[h])
 have Hb:=Aa (show Below w.heap.size w (w.alloc ob)from(Aq _ _).alloc (Ap _) _)
 go_enter func74,ntmps74
 rcases Decidable.em (k.base=[64])with h64|h64
 ·have t1:(k.base != [64])=false:=by simp[h64]
  have H64:=Aa h64
  clear h64 hd hl0
  go_wp2_with fail
  rw[Hd.o]
  cases hf:Ef xs k.name with
  |none=>
   rw[hf]at hlook
   have Hf:=Aa hf
   clear hf
   unfold Xh at hlook
   refine Bi [5,6,7,8,9,10,11,12,13,14,15,16,17,4] (by kernel_rfl) (by kernel_rfl) (by kernel_rfl) (fun u=>by dsimp only[Qbm,Bm,List.set,Nat.zero_add,Nat.reduceAdd])
    (fun i v W=>match i with|0=>v=.pointer (some ⟨w.heap.size,1,none⟩)|1=>v=.string ⟨k.base.toArray⟩|2=>v=.bool false|3=>v=.bool false|4=>v=.pointer (some ⟨b,0,none⟩)|5=>v=.pointer (some ⟨b,0,none⟩)|6=>v=.pointer (some ⟨b,1,none⟩)|7=>v=.map (some mb)|8=>v=.pointer (some ⟨w.heap.size,2,none⟩)|9=>v=.string ⟨k.name.toArray⟩|10=>v=.pointer none|11=>v=.bool false|12=>v=.bool false|13=>v=.bool false|_=>True) (fun L U W=>∃q,W=(w.alloc ob).drewN q) (fun _ _=>True) (fun _ _ _ _ _ h=>h) ⟨1,rfl⟩ ?_ ?_
   ·repeat (first|exact Ah.nil|(refine Ah.cons ?_ ?_;rotate_left))
    all_goals
     rintro L U W hL hpre ⟨q,rfl⟩ hun hdep K hK
     have hlq:=hlook q
     clear hun hdep
     first|(simp[Region.binds]at hpre;done)|simp[Region.binds]at hpre|clear hpre
     go_simp
     first|exact hK _ _ _ rfl Ac ⟨q,rfl⟩ rfl|exact hK _ _ _ rfl Ac ⟨q,rfl⟩ (by simp[Act.put,hpre,H64.o])|exact hK undef _ _ Ac Ac ⟨q,rfl⟩ (by simp[Act.put,hpre,H64.o])|exact hK _ _ _ Ac Ac ⟨q,rfl⟩ rfl|exact hK _ _ _ Ac Ac ⟨q,rfl⟩ (by simp[Act.put,hpre,H64.o])
   rintro L U W hL hφ ⟨q,rfl⟩
   have e13:U 13=.bool false:=hφ 13 (by decide)
   simp only[e13]
   go_wp2_with fail
   go_ret
   exact⟨Ea (Cs (by rw[Hr.o,Hf.o];simp[H64.o])),below_drewN Hb.o _⟩
  |some x=>
   rw[hf]at hlook
   have Hf:=Aa hf
   clear hf
   unfold Xh PT.ptr at hlook
   refine Bi [5,6,7,8,9,10,11,12,13,14,15,16,17,4] (by kernel_rfl) (by kernel_rfl) (by kernel_rfl) (fun u=>by dsimp only[Qbm,Bm,List.set,Nat.zero_add,Nat.reduceAdd])
    (fun i v W=>match i with|0=>v=.pointer (some ⟨w.heap.size,1,none⟩)|1=>v=.string ⟨k.base.toArray⟩|2=>v=.bool false|3=>v=.bool false|4=>v=.pointer (some ⟨b,0,none⟩)|5=>v=.pointer (some ⟨b,0,none⟩)|6=>v=.pointer (some ⟨b,1,none⟩)|7=>v=.map (some mb)|8=>v=.pointer (some ⟨w.heap.size,2,none⟩)|9=>v=.string ⟨k.name.toArray⟩|10=>v=.pointer (some ⟨x.blk,0,none⟩)|11=>v=.bool true|12=>v=.bool true|13=>v=.bool true|_=>True) (fun L U W=>∃q,W=(w.alloc ob).drewN q) (fun _ _=>True) (fun _ _ _ _ _ h=>h) ⟨1,rfl⟩ ?_ ?_
   ·repeat (first|exact Ah.nil|(refine Ah.cons ?_ ?_;rotate_left))
    all_goals
     rintro L U W hL hpre ⟨q,rfl⟩ hun hdep K hK
     have hlq:=hlook q
     clear hun hdep
     first|(simp[Region.binds]at hpre;done)|simp[Region.binds]at hpre|clear hpre
     go_simp
     first|exact hK _ _ _ rfl Ac ⟨q,rfl⟩ rfl|exact hK _ _ _ rfl Ac ⟨q,rfl⟩ (by simp[Act.put,hpre,H64.o])|exact hK undef _ _ Ac Ac ⟨q,rfl⟩ (by simp[Act.put,hpre,H64.o])|exact hK _ _ _ Ac Ac ⟨q,rfl⟩ rfl|exact hK _ _ _ Ac Ac ⟨q,rfl⟩ (by simp[Act.put,hpre,H64.o])
   rintro L U W hL hφ ⟨q,rfl⟩
   have e13:U 13=.bool true:=hφ 13 (by decide)
   simp only[e13]
   go_wp2_with fail
   go_ret
   exact⟨Ea (Cs (by rw[Hr.o,Hf.o];simp)),below_drewN Hb.o _⟩
 have t1:(k.base != [64])=true:=by simp[h64]
 have H64:=Aa h64
 clear h64 hd hl0
 go_wp2_with fail
 rw[Hd.o]
 refine Bi [5,6,7,8,9,10,11,12,13,14,15,16,17,4] (by kernel_rfl) (by kernel_rfl) (by kernel_rfl) (fun u=>by dsimp only[Qbm,Bm,List.set,Nat.zero_add,Nat.reduceAdd])
  (fun i v W=>match i with|0=>v=.pointer (some ⟨w.heap.size,1,none⟩)|1=>v=.string ⟨k.base.toArray⟩|2=>v=.bool true|3=>v=.bool true|12=>v=.bool true|13=>v=.bool true|_=>True) (fun L U W=>∃q,W=(w.alloc ob).drewN q) (fun _ _=>True) (fun _ _ _ _ _ h=>h) ⟨1,rfl⟩ ?_ ?_
 ·repeat (first|exact Ah.nil|(refine Ah.cons ?_ ?_;rotate_left))
  all_goals
   rintro L U W hL hpre ⟨q,rfl⟩ hun hdep K hK
   have hlq:=hlook q
   clear hun hdep
   first|(simp[Region.binds]at hpre;done)|simp[Region.binds]at hpre|clear hpre
   go_simp
   first|exact hK _ _ _ rfl Ac ⟨q,rfl⟩ rfl|exact hK _ _ _ rfl Ac ⟨q,rfl⟩ (by simp[Act.put,hpre,H64.o])|exact hK undef _ _ Ac Ac ⟨q,rfl⟩ (by simp[Act.put,hpre,H64.o])|exact hK _ _ _ Ac Ac ⟨q,rfl⟩ rfl|exact hK _ _ _ Ac Ac ⟨q,rfl⟩ (by simp[Act.put,hpre,H64.o])
 rintro L U W hL hφ ⟨q,rfl⟩
 have e13:U 13=.bool true:=hφ 13 (by decide)
 simp only[e13]
 go_wp2_with fail
 go_ret
 exact⟨Ea (Cs (by rw[Hr.o];simp[H64.o])),below_drewN Hb.o _⟩
theorem Rx{S:List Ty}{n:Nat}{t:Ty}(h:Ff S t=none):Bv S (n+1) t=true:=by rw[Bv,h]
theorem Qho{S:List Ty}{n:Nat}{t u:Ty}(h:Ff S t=some u):Bv S (n+1) t=Bv S n u:=by rw[Bv,h]
theorem Qd5{S:List Ty}{t:Ty}(h:t.sort≠85):Ff S t=none:=if_neg h
theorem Qee{S:List Ty}{t:Ty}{f:Fd}{fs:List Fd}(h:t.sort=85)(hf:t.fields=f::fs):Ff S t=if f.kind.signs=[]/\f.kind.base=[64]then Bp S f.kind.name else none:=by
 unfold Ff;rw[if_pos h,hf]
theorem Z7{t:Ty}(h:Ep t)(hs:t.sort=85):∃f fs,t.fields=f::fs/\Cw f.kind:=by
 obtain⟨_,_,h3,_,h5⟩:=h
 cases hf:t.fields with
 |nil=>have:=h5 hf;rw[hs]at this;exact absurd this (by decide)
 |cons f fs=>exact⟨f,fs,rfl,((h3.1 f (by rw[hf];simp)).2.2.2.2 (by rw[hs];decide)).1⟩
theorem Qdv(p:Value)(xs:List PT)(x:PT)(w:World)(h:Qh3 w p xs)(hT:∀y∈xs,Px w y)(hok:∀y∈xs,Ep y.ty)(hS:Fw (Ae xs))(hx:x∈xs):
  Calls prog 99 #[p,x.ptr] w fun e w'=>e=.returned (.bool (Bv (Ae xs) 9 x.ty))/\Below w.heap.size w w':=by
 have Hmap:=Aa h
 obtain⟨b,mb,rfl,hb,hm,hn⟩:=h
 have HT:=Aa hT
 have Hok:=Aa hok
 have HS:=Aa hS
 have Hx:=Aa hx
 have Hn:=Aa hn
 have Hm:=Aa hm
 clear hT hok hS hx hn hm
 unfold PT.ptr
 go_enter func99,ntmps99
 go_wp2_with fail
 go_loopw [1,6] (fun t i wr=>∃(n:Nat) (y:PT),i=.int .i64 n/\n<=9/\t=.pointer (some ⟨y.blk,0,none⟩)/\Hid (y∈xs)/\Hid (Bv (Ae xs) 9 x.ty=Bv (Ae xs) (9 - n) y.ty)/\Hid (Below w.heap.size w wr)) (fun _ i _=>9 - (intOf i).toNat)
 case atStart=>exact⟨0,x,rfl,by omega,rfl,Hx.o,rfl,Aq _ _⟩
 case round=>
  obtain⟨n,y,rfl,hn9,rfl,hy,he,hbr⟩:=hrel
  have n1:(0:Int)<=(n:Int):=by omega
  obtain⟨hyb,_,y0,y1,y2,y3,A,cA,hyf,hl8,hrow⟩:=(HT.o y hy.o).below hbr.o
  have Hrow:=Aa hrow
  have hzw:=hbr.o.size
  rw[hyf]at y2
  clear hrow hyf y1 y3
  by_cases hlt:n<9
  ·have n2:(n:Int)<9:=by omega
   have he2:=Aa (show Bv (Ae xs) 9 x.ty=Bv (Ae xs) (8 - n+1) y.ty by rw[he.o,show 9 - n=8 - n+1 by omega])
   by_cases h85:y.ty.sort=85
   ·have t1:((y.ty.sort.toNat:Int) != 85)=false:=Mh (d:=85) h85
    obtain⟨f,fs,hf,hkd⟩:=Z7 (Hok.o y hy.o) h85
    have Hnext:=Aa (Qee (S:=Ae xs) h85 hf)
    have hpos:0<y.ty.fields.length:=by rw[hf];simp
    obtain⟨bA,oA,rfl,hbA,hrg⟩:=Pv.range Hrow.o hpos
    have hf0:y.ty.fields[0]=f:=by simp[hf]
    rw[hf0,Nat.zero_mul,Nat.add_zero]at hrg
    have Hrg:=Aa (show wr.rangeAt bA (oA+2) [.string ⟨f.kind.signs.toArray⟩,.string ⟨f.kind.base.toArray⟩,.string ⟨f.kind.name.toArray⟩]from Yw [.int .i64 (f.tag:Int),.string ⟨f.name.toArray⟩] _ [.string ⟨f.given.toArray⟩] hrg)
    have hp1:(0:Int)<(y.ty.fields.length:Int):=by omega
    have Href:=Aa (HS.o y.ty (List.mem_map_of_mem (f:=(·.ty)) hy.o) (by rw[h85];decide) f (by rw[hf];simp))
    have Hkd:=Aa hkd
    have hnl:=H8 hkd
    clear h85 hf hf0 hrg hkd
    have hbb:=Aa ((Hm.o))
    by_cases hsg:f.kind.signs=[]
    ·have s1:(f.kind.signs != [])=false:=by simp[hsg]
     have s2:f.kind.signs.isEmpty=true:=by simp[hsg]
     have s4:(!f.kind.signs.isEmpty)=false:=by simp[hsg]
     by_cases h64:f.kind.base=[64]
     ·have s3:(f.kind.base == [64])=true:=by simp[h64]
      have s5:(f.kind.base != [64])=false:=by simp[h64]
      have hsome:=Href.o h64
      rw[Gf]at hsome
      cases hz:Ef xs f.kind.name with
      |none=>rw[hz]at hsome;cases hsome
      |some z=>
       have Hz:=Aa (show Bv (Ae xs) 9 x.ty=Bv (Ae xs) (8 - n) z.ty from by
        rw[he2.o]
        exact Qho (by rw[Hnext.o,if_pos ⟨hsg,h64⟩,Gf,hz];rfl))
       have Hzm:=Aa (Fc hz).1
       generalize hd:(.cells #[.string ⟨f.kind.signs.toArray⟩,.string ⟨f.kind.base.toArray⟩,.string ⟨f.kind.name.toArray⟩] 62:Obj)=ob
       have x2:(wr.alloc ob).cell? ⟨wr.heap.size,2,none⟩=some (.string ⟨f.kind.name.toArray⟩):=by rw[<-hd];simp
       have x3:(wr.alloc ob).cell? ⟨b,1,none⟩=some (.map (some mb)):=by
        rw[World.cell?_alloc_old _ _ _ (show b≠wr.heap.size by omega)]
        exact(hbr.o.cell (p:=⟨b,1,none⟩) hb).trans Hm.o
       have hlook:∀q,(Instr.lookup 120 (.map (some mb)) (.string ⟨f.kind.name.toArray⟩) false).run prog ((wr.alloc ob).drewN q)=.ok (.pointer (some ⟨z.blk,0,none⟩)) ((wr.alloc ob).drewN q):=fun q=>by
        have:=Ey (Dd.below (Dd.alloc (Dd.below Hn.o hbr.o) ob) (below_drewN (Aq _ _) q)) f.kind.name (by omega)
        rw[hz]at this
        exact this
       have Hbb:=Aa (show Below w.heap.size w (wr.alloc ob)from hbr.o.alloc hzw _)
       have Hd:=Aa hd
       clear hd hsg h64 hz hsome
       go_wp2_with ((with_reducible refine wpList_load_mid (op:=⟨_,.load 62 _,_,_,_,none⟩) rfl 62 _ rfl bA (oA+2) ?_ _ _ Hrg.o underlying62 ?_ ?_ ?_);rfl;rfl;kernel_rfl)
       rw[Hd.o]
       refine Bi [28,29,30,31,32,33,34,1] (by kernel_rfl) (by kernel_rfl) (by kernel_rfl) (fun u=>by dsimp only[Qbm,Bm,List.set,Nat.zero_add,Nat.reduceAdd])
        (fun i v W=>match i with|0=>v=.pointer (some ⟨b,0,none⟩)|1=>v=.pointer (some ⟨b,0,none⟩)|2=>v=.pointer (some ⟨b,1,none⟩)|3=>v=.map (some mb)|4=>v=.pointer (some ⟨wr.heap.size,2,none⟩)|5=>v=.string ⟨f.kind.name.toArray⟩|6=>v=.pointer (some ⟨z.blk,0,none⟩)|7=>v=.pointer (some ⟨z.blk,0,none⟩)|_=>True) (fun L U W=>∃q,W=(wr.alloc ob).drewN q) (fun _ _=>True) (fun _ _ _ _ _ h=>h) ⟨1,rfl⟩ ?_ ?_
       ·repeat (first|exact Ah.nil|(refine Ah.cons ?_ ?_;rotate_left))
        all_goals
         rintro L U W hL hpre ⟨q,rfl⟩ hun hdep K hK
         have hlq:=hlook q
         clear hun hdep
         first|(simp[Region.binds]at hpre;done)|simp[Region.binds]at hpre|clear hpre
         go_simp
         first|exact hK _ _ _ rfl Ac ⟨q,rfl⟩ rfl|exact hK _ _ _ rfl Ac ⟨q,rfl⟩ (by simp[Act.put,hpre])
       rintro L U W hL hφ ⟨q,rfl⟩
       have e7:U 7=.pointer (some ⟨z.blk,0,none⟩):=hφ 7 (by decide)
       simp only[e7]
       clear hφ hL hlook x2 x3
       go_wp2_with fail
       go_roundw
       case rel=>exact⟨n+1,z,by go_num,by omega,rfl,Hzm.o,by show _=Bv (Ae xs) (9 - (n+1)) z.ty;rw[Hz.o,show 9 - (n+1)=8 - n by omega],below_drewN Hbb.o _⟩
       case measure=>simp[intOf];omega
     have s3:(f.kind.base == [64])=false:=by simp[h64]
     have s5:(f.kind.base != [64])=true:=by simp[h64]
     have Hend:=Aa (he2.o.trans (Rx (by rw[Hnext.o,if_neg (fun h=>h64 h.2)])))
     clear hsg h64
     go_wp2_with ((with_reducible refine wpList_load_mid (op:=⟨_,.load 62 _,_,_,_,none⟩) rfl 62 _ rfl bA (oA+2) ?_ _ _ Hrg.o underlying62 ?_ ?_ ?_);rfl;rfl;kernel_rfl)
     go_ret
     exact⟨Ea (Cs Hend.o.symm),hbr.o.alloc hzw _⟩
    have s1:(f.kind.signs != [])=true:=by simp[hsg]
    have s2:f.kind.signs.isEmpty=false:=by simp[hsg]
    have s4:(!f.kind.signs.isEmpty)=true:=by simp[hsg]
    have Hend:=Aa (he2.o.trans (Rx (by rw[Hnext.o,if_neg (fun h=>hsg h.1)])))
    clear hsg
    go_wp2_with ((with_reducible refine wpList_load_mid (op:=⟨_,.load 62 _,_,_,_,none⟩) rfl 62 _ rfl bA (oA+2) ?_ _ _ Hrg.o underlying62 ?_ ?_ ?_);rfl;rfl;kernel_rfl)
    go_ret
    exact⟨Ea (Cs Hend.o.symm),hbr.o.alloc hzw _⟩
   have t1:((y.ty.sort.toNat:Int) != 85)=true:=Pe (d:=85) h85
   have Hend:=Aa (he2.o.trans (Rx (Qd5 h85)))
   clear h85
   go_wp2_with fail
   go_ret
   exact⟨Ea (Cs Hend.o.symm),hbr.o⟩
  ·obtain rfl:n=9:=by omega
   have Hend:=Aa (show Bv (Ae xs) 9 x.ty=false from he.o)
   go_wp2_with fail
   go_ret
   exact⟨Ea (Cs Hend.o.symm),hbr.o⟩
theorem Px.kept{w w':World}{x:PT}{row:Option Nat}(h:Px w x)(hg:w.grownBy w' row)(h1:row≠some x.blk)(h2:∀k,0<x.ty.fields.length->x.fv.ownBlock=some k->row≠some k):Px w' x:=by
 obtain⟨h0,hk,a0,a1,a2,a3,A,c,e,hl,hr⟩:=h
 have hne:some x.blk≠row:=fun e=>h1 e.symm
 refine⟨Nat.lt_of_lt_of_le h0 hg.size,hk.grown h0 hg hne,hg.cell a0 hne,hg.cell a1 hne,hg.cell a2 hne,hg.cell a3 hne,A,c,e,hl,hr.1,hr.2.1,fun hn=>?_⟩
 obtain⟨b,off,eA,hb,hc⟩:=hr.2.2 hn
 have hne2:some b≠row:=fun e2=>h2 b (by omega) (by rw[e,eA];rfl) e2.symm
 exact⟨b,off,eA,Nat.lt_of_lt_of_le hb hg.size,fun j u hu=>hg.cell (hc j u hu) hne2⟩
theorem Px.fvlt{w:World}{x:PT}(h:Px w x){k:Nat}(hn:0<x.ty.fields.length)(hk:x.fv.ownBlock=some k):k<w.heap.size:=by
 obtain⟨_,_,_,_,_,_,A,c,e,_,hr⟩:=h
 obtain⟨b,off,eA,hb,_⟩:=hr.2.2 (by omega)
 rw[e,eA]at hk
 simp only[Value.ownBlock,Option.some.injEq]at hk
 omega
def Qbo(lo:Nat)(x:PT):Prop:=lo<=x.blk/\∀k,0<x.ty.fields.length->x.fv.ownBlock=some k->lo<=k
def Qff(v:Value)(x:PT):Prop:=v.ownBlock≠some x.blk/\∀k,0<x.ty.fields.length->x.fv.ownBlock=some k->v.ownBlock≠some k
def Tw(w:World)(lo:Nat)(v:Value)(xs:List PT):Prop:=(∀x∈xs,Px w x/\Qbo lo x/\Qff v x)/\xs.Pairwise fun x y=>x.blk≠y.blk
theorem Tw.far{w w':World}{lo b:Nat}{v:Value}{xs:List PT}(h:Tw w lo v xs)(hg:w.grownBy w' (some b))(hb:b<lo):Tw w' lo v xs:=
 ⟨fun x hx=>by
  obtain⟨h1,h2,h3⟩:=h.1 x hx
  refine⟨h1.kept hg (fun e=>?_) (fun k hn hk e=>?_),h2,h3⟩
  ·injection e with e;have:=h2.1;omega
  injection e with e;have:=h2.2 k hn hk;omega,h.2⟩
theorem Tw.below{w w':World}{lo:Nat}{v:Value}{xs:List PT}(h:Tw w lo v xs)(hb:Below w.heap.size w w'):Tw w' lo v xs:=
 ⟨fun x hx=>⟨(h.1 x hx).1.below hb,(h.1 x hx).2⟩,h.2⟩
theorem Tw.push{wo w3 w5:World}{lo base n k1:Nat}{e:TypeId}{v v5:Value}{cs:List Value}{xs:List PT}{x:PT}(h:Tw wo lo v xs)(hb:Below wo.heap.size wo w3)(hown:wo.ownsRow base e k1 v n cs)(hx:Px w3 x)(hxb:wo.heap.size<=x.blk)
  (hxf:∀k,x.fv.ownBlock=some k->wo.heap.size<=k) (hlo:lo<=wo.heap.size) (hg:w3.grownBy w5 v.ownBlock) (hwh:v5.ownBlock=v.ownBlock\/∃k,v5.ownBlock=some k/\w3.heap.size<=k):Tw w5 lo v5 (xs++[x]):=by
 have hall:∀y∈xs++[x],Px w3 y/\Qbo lo y/\Qff v y:=by
  intro y hy
  rcases List.mem_append.1 hy with hy|hy
  ·obtain⟨h1,h2⟩:=h.1 y hy
   exact⟨h1.below hb,h2⟩
  simp at hy;subst hy
  refine⟨hx,⟨by omega,fun k _ hk=>by have:=hxf k hk;omega⟩,fun e=>?_,fun k _ hk e=>?_⟩
  ·have:=(hown.lt _ e).2;omega
  have:=(hown.lt _ e).2;have:=hxf k hk;omega
 refine⟨fun y hy=>?_,?_⟩
 ·obtain⟨h1,h2,h3⟩:=hall y hy
  refine⟨h1.kept hg h3.1 h3.2,h2,?_⟩
  rcases hwh with hwh|⟨k,hwh,hk⟩
  ·unfold Qff;rw[hwh];exact h3
  refine⟨fun e=>?_,fun k2 hn hk2 e=>?_⟩
  ·rw[hwh]at e;injection e with e;have:=h1.1;omega
  rw[hwh]at e;injection e with e;have:=h1.fvlt hn hk2;omega
 rw[List.pairwise_append]
 refine⟨h.2,by simp,fun y hy z hz=>?_⟩
 simp at hz;subst hz
 have:=(h.1 y hy).1.1
 omega
def Qt(lo:Nat)(w:World)(p:Value)(xs:List PT):Prop:=
 ∃b A c mb,p=.pointer (some ⟨b,0,none⟩)/\b<w.heap.size/\w.cell? ⟨b,0,none⟩=some (.slice A xs.length c)/\w.cell? ⟨b,1,none⟩=some (.map (some mb))/\B9 w A xs.length (xs.map (·.ptr))/\Pd w mb xs/\(∀x∈xs,Px w x)/\(xs.Pairwise fun x y=>x.blk≠y.blk) /\
  lo<=b/\lo<=mb/\(∀g o,0<xs.length->A=some ⟨g,o,none⟩->lo<=g)/\∀x∈xs,Qbo lo x
theorem Qt.isc{lo:Nat}{w:World}{p:Value}{xs:List PT}(h:Qt lo w p xs):Q9 w p xs:=by
 obtain⟨b,A,c,mb,h0,h1,h2,h3,h4,h5,h6,h7,_⟩:=h
 exact⟨b,A,c,mb,h0,h1,h2,h3,h4,h5,h6,h7⟩
theorem Qt.below{lo:Nat}{w w':World}{p:Value}{xs:List PT}(h:Qt lo w p xs)(hb:Below w.heap.size w w'):Qt lo w' p xs:=by
 obtain⟨b,A,c,mb,e,h0,h1,h2,h3,h4,h5,h6,h7⟩:=h
 obtain⟨hc,_,hz⟩:=By hb
 exact⟨b,A,c,mb,e,hz _ h0,(hc _ _ h0).trans h1,(hc _ _ h0).trans h2,h3.below hb,Dd.below h4 hb,fun x hx=>(h5 x hx).below hb,h6,h7⟩
theorem Qt.far{lo b0:Nat}{w w':World}{p:Value}{xs:List PT}(h:Qt lo w p xs)(hg:w.grownBy w' (some b0))(hb0:b0<lo):Qt lo w' p xs:=by
 obtain⟨b,A,c,mb,e,h0,h1,h2,h3,h4,h5,h6,l1,l2,l3,l4⟩:=h
 have hne:some b≠some b0:=by intro e;injection e with e;omega
 refine⟨b,A,c,mb,e,Nat.lt_of_lt_of_le h0 hg.size,hg.cell h1 hne,hg.cell h2 hne,⟨h3.1,h3.2.1,fun hn=>?_⟩,Dd.kept h4 hg (by intro e;injection e with e;omega),fun x hx=>(h5 x hx).kept hg (fun e=>?_) (fun k hn hk e=>?_),h6,l1,l2,l3,l4⟩
 ·obtain⟨g,o,eA,hgl,hc⟩:=h3.2.2 hn
  have:=l3 g o hn eA
  exact⟨g,o,eA,Nat.lt_of_lt_of_le hgl hg.size,fun j u hu=>hg.cell (hc j u hu) (by intro e;injection e with e;simp at e;omega)⟩
 ·injection e with e;have:=(l4 x hx).1;omega
 injection e with e;have:=(l4 x hx).2 k hn hk;omega
def Gq(o:Option (List Ty))(w:World)(e:Ending)(w':World):Prop:=
 (match o with
  |some S=>∃p xs,Ae xs=S/\e=.returned (.tuple #[p,.bool true])/\Qt w.heap.size w' p xs
  |none=>∃p:Option Addr,e=.returned (.tuple #[.pointer p,.bool false]))/\Below w.heap.size w w'
theorem Gq.no{w w':World}{e:Ending}{o:Option (List Ty)}(ho:o=none){p:Option Addr}(he:e=.returned (.tuple #[.pointer p,.bool false]))(hb:Below w.heap.size w w'):Gq o w e w':=by
 rw[ho];exact⟨⟨p,he⟩,hb⟩
theorem Gq.yes{w w':World}{e:Ending}{o:Option (List Ty)}{p:Value}{xs:List PT}(ho:o=some (Ae xs))(he:e=.returned (.tuple #[p,.bool true]))(hs:Qt w.heap.size w' p xs)(hb:Below w.heap.size w w'):Gq o w e w':=by
 rw[ho];exact⟨⟨p,xs,rfl,he,hs⟩,hb⟩
theorem Qaw{xs:List PT}{x:PT}(h:Ef xs x.ty.name=none)(l:Lit)(hl:WideAt.IsKeyLit l):(if l.sameKey (.string x.ty.name)=true then x.ptr else V0 xs l)=V0 (xs++[x]) l:=by
 by_cases e:l=.string x.ty.name
 ·subst e
  rw[if_pos (WideAt.sameKey_self hl)]
  unfold Ef at h
  show x.ptr=Xh ((xs++[x]).find? fun y=>decide (y.ty.name=x.ty.name))
  rw[List.find?_append,h]
  simp[Xh]
 rw[if_neg (fun hh=>e ((WideAt.sameKey_iff (show WideAt.IsKeyLit (.string x.ty.name)from Ac)).1 hh))]
 cases l with
 |string s=>
  have hne:¬x.ty.name=s:=fun h2=>e (by rw[h2])
  unfold V0 Ef
  simp only
  rw[List.find?_append]
  simp[hne]
 |_=>rfl
theorem Vp{xs:List PT}{n:Cf}:Ef xs n=none↔(Ae xs).any (fun u=>decide (u.name=n))=false:=by
 unfold Ef Ae
 rw[List.find?_eq_none,List.any_map]
 simp
theorem Tryz.infoPt:(prog.info? 118).map (fun i=>(i.zero,i.size,i.bytes))=some (some (.pointer none),1,8):=by kernel_rfl
theorem Y7(s:List UInt8)(w:World)(hs:s.length<=4000000)(h:400<s.length):
  Calls prog 72 #[.string ⟨s.toArray⟩] w (Gq (Cl s) w):=by
 have HF:=Aa (show Cl s=none from if_pos h)
 have t1:(400:Int)<(s.length:Int):=by omega
 go_enter func72,ntmps72
 go_wp2_with fail
 go_ret2
 exact Gq.no HF.o rfl (Aq _ _)
end
end Go.Proofs.YtkgkoicedddkmaaGreatDoor
