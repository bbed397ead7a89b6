/- Texts joined. Conditions: as each theorem names them. -/
import Derived.Deep.CutRange
import Derived.Deep.DeepCutAuto
import Derived.BigQuiet
import Derived.Test.YtkigmebejmmikaaGreatDoorG22
set_option maxRecDepth 100000
set_option maxHeartbeats 32000000
set_option linter.unusedVariables false
set_option linter.unusedSimpArgs false
namespace Go.Proofs.YtkigmebejmmikaaGreatDoor
open Go.RowKit Go.Proofs.Tryz
section
attribute [local go_sem] Qjy Qiu Qil Qgp ByteArray.mk_append_mk
def PkC(w0:World)(S:List Ty)(xv:Value)(k:Kd)(d:Nat):Prop:=∀(s:List UInt8) (W:World),Below w0.heap.size w0 W->s.length<=600 ->
 Calls prog 20 #[.agg #[xv],.string ⟨s.toArray⟩,.string ⟨(Bi k).toArray⟩,.int .i64 (d:Int)] W (At S k (Cp S d k s) W)
structure Qje(w:World)(xv h0 h1:Value)(S:List Ty)(k:Kd)(K:List UInt8->Option (Vl × List UInt8))(s:List UInt8)(wr:World)(v:Value)(xs:List (Nat × SV))(vs:List Vl)(tt:List UInt8):Prop where
 bel:Below w.heap.size w wr
 st:Nk (w.heap.size+2) (w.heap.size+1) wr h0 h1 (.slice none 0 0) (.slice none 0 0) v v [] xs
 box:wr.cell? ⟨w.heap.size,0,none⟩=some xv
 len:xs.length=vs.length
 eq:xs.map (·.2)=vs.map (Cd S k.part)
 it:A0 K 1000 s=G0 vs (A0 K (1000 - vs.length) tt)
 le:vs.length+tt.length<=s.length
theorem Vr(w0:World)(S:List Ty)(xv:Value)(hxv:xv.oneCell'=true)(k:Kd)(sg:List UInt8)(hsg:k.signs=91::sg)(hkl:(Bi k).length<=100)(d:Nat)(hd:d<=1000)(s0:List UInt8)(w:World)(hw:Below w0.heap.size w0 w)(hne:s0≠[])(hs:s0.length<=600)
  (H:PkC w0 S xv k.part d) (HG:∀s v r,Cp S d k.part s=some (v,r)->r.length<s.length) (q:Option (Vl × List UInt8)) (hq:q=Xq (Cp S d k.part) 1000 s0):
  Calls prog 46 #[.agg #[xv],.string ⟨s0.toArray⟩,.string ⟨(Bi k).toArray⟩,.int .i64 ((d+1:Nat):Int)] w (At S k q w):=by
 have hkp:Bi k=91::Bi k.part:=by unfold Bi Kd.part;rw[hsg];rfl
 have HQ:=Aa hq
 have HH:=Aa H
 have HG:=Aa HG
 have HW:=Aa hw
 have Hsv:=Aa (fun ks=>hkp ▸ Qv S k ks)
 have hkl2:(Bi k.part).length<=100:=by rw[hkp]at hkl;simp at hkl;omega
 unfold PkC at HH
 rw[hkp]
 generalize Bi k.part=kp at *
 have d1:(((d+1:Nat):Int)) - 1=(d:Int):=by omega
 have d4:(0:Int)<=(d:Int):=by omega
 have d5:(d:Int)<=1000:=by omega
 have hwd:IntKind.i64.wrap (d:Int)=(d:Int):=IntWalk.i64_in _ (by omega)
 generalize (((d+1:Nat):Int))=dd at *
 generalize hKK:Cp S d k.part=KK at *
 clear H hw hq hkp hkl hsg hKK
 obtain⟨c0,s,rfl⟩:∃c s,s0=c::s:=by cases s0 with|nil=>exact absurd rfl hne|cons c s=>exact⟨c,s,rfl⟩
 simp only[List.length_cons]at hs
 clear hne
 by_cases hc:c0=91
 ·subst hc
  by_cases h93:∃z,s=93::z
  ·obtain⟨z,rfl⟩:=h93
   have HN:=Aa (show q=some (.mk 91 [] 0 [],z)from by rw[HQ.o];simp[Xq,Ae])
   go_enter func46,ntmps46
   go_wp2_with fail
   go_quiet (fail)
   go_wp2_with fail
   refine bodyPost_ret (v:=.tuple #[.pointer (some ⟨w.heap.size+1,0,none⟩),.string ⟨z.toArray⟩,.bool true]) (by simp[results,results46,go_sem]) rfl ?_
   rw[HN.o]
   have hl:=Fh.leaf (P:=fun c=>w.heap.size<=c) (w:=w.alloc (.cells #[xv] 35)) (kind:=91::kp) (text:=[]) (T:=68) (by simp)
   refine⟨⟨w.heap.size+1,rfl,?_⟩,below_drewN (((Ay w.heap.size w).alloc (As _) _).alloc (by simp) _) _⟩
   rw[Hsv.o]
   have hl2:Fh (fun c=>w.heap.size<=c) ((w.alloc (.cells #[xv] 35)).alloc (.cells #[.string ⟨(91::kp:List UInt8).toArray⟩,.string ⟨#[]⟩,.slice none 0 0,.slice none 0 0] 68)) (w.heap.size+1) (.mk (91::kp) [] [] []):=by simpa using hl
   exact hl2.after (below_drewN (Ay _ _) _)
  have HQ2:=Aa (show q=match A0 KK 1000 s with|some (vs,z)=>some (.mk 91 [] 0 vs,z)|none=>none from by
   rw[HQ.o]
   unfold Xq
   rw[Aq]
   simp only
   cases s with
   |nil=>rfl
   |cons c z=>rw[Bl (fun e=>h93 ⟨z,by rw[e]⟩) z];rfl)
  obtain⟨W1,hW1⟩:∃W1,W1=(w.alloc (.cells #[xv] 35)).alloc (.cells #[.string ⟨(91::kp:List UInt8).toArray⟩,.string ⟨#[]⟩,.slice none 0 0,.slice none 0 0] 68):=⟨_,rfl⟩
  have L0:=Aa (show Qje w xv (.string ⟨(91::kp:List UInt8).toArray⟩) (.string ⟨#[]⟩) S k KK s W1 (.slice none 0 0) [] [] s from by
   have:=Nk.new (W:=w.alloc (.cells #[xv] 35)) (T:=68) (.string ⟨(91::kp:List UInt8).toArray⟩) (.string ⟨#[]⟩)
   rw[hW1]
   exact⟨((Ay w.heap.size w).alloc (As _) _).alloc (by simp) _,by simpa using this,by simp[go_sem],rfl,rfl,by cases h:A0 KK 1000 s<;>simp[G0,h],by simp⟩)
  have HWr:=Aa hW1
  go_enter func46,ntmps46
  go_upto_region 2 with fail
  rw[<-HWr.o]
  clear hW1
  go_cut [25]from 15 to 78 (fun bt wx=>bt=.bool false/\wx=W1)
  case first=>
   cases s with
   |nil=>
    go_wp2_with fail
    go_meet
    exact⟨rfl,rfl⟩
   |cons c z=>
    have t1:([91,c] == ([91,93]:List UInt8))=false:=by
     have:c≠93:=fun e=>h93 ⟨z,by rw[e]⟩
     simpa using this
    have t2:(2:Int)<=(z.length:Int)+1+1:=by omega
    clear h93
    go_wp2_with fail
    go_meet
    exact⟨rfl,rfl⟩
  case rest=>
   clear h93
   obtain⟨rfl,rfl⟩:=hcut
   go_wp2_with fail
   go_loopw [1] (fun s0 wr=>∃(c1:UInt8) (A:Option Addr) (c:Nat) (xs:List (Nat × SV)) (vs:List Vl) (tt:List UInt8),s0=.string ⟨(c1::tt).toArray⟩/\tt.length<=s.length/\Hid (Qje w xv (.string ⟨(91::kp:List UInt8).toArray⟩) (.string ⟨#[]⟩) S k KK s wr (.slice A xs.length c) xs vs tt)) (fun s0 _=>J6 s0)
   case atStart=>exact⟨91,none,0,[],[],s,rfl,As _,L0.o⟩
   case round=>
    obtain⟨c1,A,c,xs,vs,tt,rfl,htl,HL⟩:=hrel
    have p0:=HL.o.box
    have hlt:=HL.o.st.lt
    have hl0:w.heap.size<wr.heap.size:=by omega
    have hle:=HL.o.le
    have hxl:xs.length<=600:=by have:=HL.o.len;omega
    have hvl:vs.length<=600:=by omega
    have HC:=Aa (HH.o tt wr.drew ((HW.o.trans (HL.o.bel.mono HW.o.size)).drew) (by omega))
    clear L0
    go_wp2_with fail
    refine rgT (SrQ wr.drew S k.part (KK tt)) 7 (fun W vp vr vk h=>h.1) ?_
    iterate 2 refine sq ?_
    refine sqS (.string ⟨tt.toArray⟩) ?_
    refine sq ?_
    refine sqS (.string ⟨kp.toArray⟩) ?_
    iterate 2 refine sq ?_
    refine sqK HC.o ?_
    refine sqM ?_
    iterate 3 refine sqP ?_
    iterate 3 refine sqA ?_
    intro l u W hl _ hR
    obtain⟨vp,vr,vk,hq5,ua,ub,ue⟩:=RK.fin hR hl (by decide)
    simp only[Nat.reduceAdd]at ua ub ue
    simp only[ua,ub,ue]
    obtain⟨hb5,hm⟩:=hq5
    have HB5:=Aa (show Below wr.heap.size wr W from(Ay _ _).drew.trans hb5)
    have HS5:=Aa (HL.o.st.after HB5.o)
    have Hw5:=Aa (HL.o.bel.trans (HB5.o.mono HL.o.bel.size))
    have Hx5:=Aa (show W.cell? ⟨w.heap.size,0,none⟩=some xv from(HB5.o.cell (p:=⟨w.heap.size,0,none⟩) hl0).trans p0)
    have hz5:=hb5.size
    have Hit:=Aa (show A0 KK 1000 s=G0 vs (A0 KK (999 - vs.length+1) tt)from by rw[HL.o.it];congr 2;omega)
    clear p0 hb5 hR hl ua ub ue
    cases hk:KK tt with
    |none=>
     rw[hk]at hm
     obtain⟨⟨q0,rfl⟩,⟨r0,rfl⟩,rfl⟩:=hm
     have HN:=Aa (show q=none from by rw[HQ2.o,Hit.o];unfold A0;rw[hk];simp[G0])
     clear hk
     go_wp2_with fail
     refine bodyPost_ret (v:=.tuple #[.pointer none,.string ⟨(c1::tt:List UInt8).toArray⟩,.bool false]) (by simp[results,results46,go_sem]) rfl ?_
     exact At.no HN.o rfl Hw5.o
    |some y=>
     obtain⟨v,r⟩:=y
     rw[hk]at hm
     obtain⟨⟨b,rfl,hsv⟩,rfl,rfl⟩:=hm
     have hrl:=HG.o tt v r hk
     have Hsv5:=Aa (show Fh (fun c1=>w.heap.size+2<=c1/\(Value.slice A xs.length c).ownBlock≠some c1/\(Value.slice none 0 0).ownBlock≠some c1) W b (Cd S k.part v)from by
      refine hsv.mono fun c1 hc _=>⟨Nat.le_trans HL.o.st.bs hc,fun e=>?_,by simp[Value.ownBlock]⟩
      have h1:=(HL.o.st.row.lt c1 e).2
      have h2:wr.heap.size<=c1:=hc
      omega)
     have HI:=Aa (show A0 KK 1000 s=G0 vs (match Ae 44 r with|some q=>(match A0 KK (999 - vs.length) q with|some (vs,z)=>some (v::vs,z)|none=>none)|none=>match Ae 93 r with|some q=>some ([v],q)|none=>none)from by rw[Hit.o];simp only[A0,hk];rfl)
     clear hk hsv
     cases r with
     |nil=>
      have HN:=Aa (show q=none from by rw[HQ2.o,HI.o];simp[Ae,G0])
      go_wp2_with fail
      refine bodyPost_ret (v:=.tuple #[.pointer none,.string ⟨(c1::tt:List UInt8).toArray⟩,.bool false]) (by simp[results,results46,go_sem]) rfl ?_
      exact At.no HN.o rfl Hw5.o
     |cons c9 z=>
      by_cases hcc:c9=44\/c9=93
      ·obtain⟨b4,b9,h4,h9,hbb⟩:∃b4 b9,((c9.toNat:Int) != 44)=b4/\((c9.toNat:Int) == 93)=b9/\((b4=false/\b9=false/\c9=44)\/(b4=true/\b9=true/\c9=93)):=by
        rcases hcc with rfl|rfl
        ·exact⟨false,false,rfl,rfl,.inl ⟨rfl,rfl,rfl⟩⟩
        exact⟨true,true,rfl,rfl,.inr ⟨rfl,rfl,rfl⟩⟩
       have h7:((c9.toNat:Int) != 93)=!b9:=by rw[<-h9];rfl
       have s3:=HS5.o.c3
       have s4:=HS5.o.lt
       clear hcc
       rcases hbb with⟨rfl,rfl,hc9⟩|⟨rfl,rfl,hc9⟩
       all_goals
        simp only[Bool.not_true,Bool.not_false]at h7
        have HC9:=Aa hc9
        clear hc9
        go_wp2_with (at_builtin;go_loud (refine Dg _ rfl _ _ 66 rfl (w.heap.size+2) 31 (.pointer none) 8 underlying66 Qf rfl W (.pointer (some ⟨b,0,none⟩)) rfl rfl (.slice A xs.length c) xs.length (Cy (xs.map (·.1))) rfl rfl HS5.o.row (by unfold maxLen;omega) (by omega) HS5.o.bs ?_;intro v6 w6 hown6 hg6 hwh6;obtain⟨A6,c6,e6,hS6,hb6⟩:=HS5.o.push (x:=(b,Cd S k.part v)) Hsv5.o hown6 hg6 hwh6;subst e6;have HS6:=Aa hS6;have HB6:=Aa hb6;have p3:=hS6.c3;have f3:=hS6.bk.live 3;have hz6:=hS6.lt;clear hS6 hb6 hown6 hg6 hwh6))
        have hw6:=HB6.o.mono (show w.heap.size<=w.heap.size+2 by omega)
        have Hbel:=Aa ((Hw5.o.trans hw6).setCell (p:=⟨w.heap.size+1,3,none⟩) (show w.heap.size<=w.heap.size+1 by omega) (.slice A6 (xs++[(b,Cd S k.part v)]).length c6))
        have Hst7:=Aa HS6.o.set3
        have Hbx7:=Aa ((Ap w6 (w.heap.size+1) 3 (.slice A6 (xs++[(b,Cd S k.part v)]).length c6)).cell ((HB6.o.cell (p:=⟨w.heap.size,0,none⟩) (show w.heap.size<w.heap.size+2 by omega)).trans Hx5.o) (by simp))
        have Heq7:=Aa (show (xs++[(b,Cd S k.part v)]).map (·.2)=(vs++[v]).map (Cd S k.part)from by simp[HL.o.eq])
        have el:(xs++[(b,Cd S k.part v)]).length=xs.length+1:=by simp
        rw[el]at Hbel Hst7 Hbx7
       ·have Hit7:=Aa (show A0 KK 1000 s=G0 (vs++[v]) (A0 KK (1000 - (vs++[v]).length) z)from by
         rw[HI.o,show 1000 - (vs++[v]).length=999 - vs.length by simp,HC9.o,Aq]
         simp only
         cases A0 KK (999 - vs.length) z<;>simp[G0])
        have Hlen7:=Aa (show (xs++[(b,Cd S k.part v)]).length=(vs++[v]).length from by simp[HL.o.len])
        simp only[List.length_cons]at hrl
        go_roundw
        case rel=>exact⟨c9,A6,c6,xs++[(b,Cd S k.part v)],vs++[v],z,rfl,by omega,⟨Hbel.o,by rw[el];exact Hst7.o,Hbx7.o,Hlen7.o,Heq7.o,Hit7.o,by simp;omega⟩⟩
        case measure=>simp[J6,ByteArray.size];omega
       have HY:=Aa (show q=some (.mk 91 [] 0 (vs++[v]),z)from by rw[HQ2.o,HI.o,HC9.o,Bl (by decide),Aq];simp[G0])
       go_quiet (fail)
       go_wp2_with fail
       refine bodyPost_ret (v:=.tuple #[.pointer (some ⟨w.heap.size+1,0,none⟩),.string ⟨z.toArray⟩,.bool true]) (by simp[results,results46,go_sem]) rfl ?_
       rw[HY.o]
       refine⟨⟨w.heap.size+1,rfl,?_⟩,below_drewN Hbel.o _⟩
       rw[Hsv.o,<-Heq7.o]
       have hd:=Hst7.o.done (kind:=91::kp) (text:=[]) (by simp) (by simp;omega)
       exact(hd.mono fun c1 hc _=>by have:w.heap.size+1<=c1:=hc;show w.heap.size<=c1;omega).after (below_drewN (Ay _ _) _)
      have hc4:c9≠44:=fun e=>hcc (.inl e)
      have hc9:c9≠93:=fun e=>hcc (.inr e)
      have HN:=Aa (show q=none from by rw[HQ2.o,HI.o,Bl hc4,Bl hc9];simp[G0])
      have t44:((c9.toNat:Int) != 44)=true:=by have:=Am hc4;simpa using this
      have t93:((c9.toNat:Int) != 93)=true:=by have:=Am hc9;simpa using this
      clear hc4 hc9 hcc
      go_wp2_with fail
      refine bodyPost_ret (v:=.tuple #[.pointer none,.string ⟨(c1::tt:List UInt8).toArray⟩,.bool false]) (by simp[results,results46,go_sem]) rfl ?_
      exact At.no HN.o rfl Hw5.o
 have HN:=Aa (show q=none from by rw[HQ.o];unfold Xq;rw[Bl hc])
 have hcn:((c0.toNat:Int) != 91)=true:=by have:=Am hc;simpa using this
 cases s with
 |nil=>
  clear hc
  go_enter func46,ntmps46
  go_wp2_with fail
  refine bodyPost_ret (v:=.tuple #[.pointer none,.string ⟨([c0]:List UInt8).toArray⟩,.bool false]) (by simp[results,results46,go_sem]) rfl ?_
  exact At.no HN.o rfl (((Ay _ _).alloc (As _) _).alloc (by simp) _)
 |cons c z=>
  have t1:([c0,c] == ([91,93]:List UInt8))=false:=by simp[hc]
  have t2:(2:Int)<=(z.length:Int)+1+1:=by omega
  clear hc
  go_enter func46,ntmps46
  go_wp2_with fail
  refine bodyPost_ret (v:=.tuple #[.pointer none,.string ⟨(c0::c::z:List UInt8).toArray⟩,.bool false]) (by simp[results,results46,go_sem]) rfl ?_
  exact At.no HN.o rfl (((Ay _ _).alloc (As _) _).alloc (by simp) _)
theorem Vx(s:List UInt8)(w:World)(hs:s.length<=4000000):
  Calls prog 81 #[.string ⟨s.toArray⟩] w fun e w'=>e=.returned (.int .i64 ((s.takeWhile Ao).length:Int))/\w=w':=by
 have HT:=Aa (Yo Ao s)
 have hle:=(J0 Ao s).2.2
 generalize hn:(s.takeWhile Ao).length=n at *
 clear hn
 go_enter func81,ntmps81
 go_wp2_with fail
 go_loop [3] (fun i=>∃k:Nat,i=.int .i64 k/\k<=n) (fun i=>n - (intOf i).toNat)
 case atStart=>exact⟨0,rfl,Nat.zero_le _⟩
 case round=>
  obtain⟨k,rfl,hk⟩:=hrel
  by_cases hlt:k<s.length
  ·obtain⟨q1,q2⟩:=HT.o k hlt
   have hc:=(s[k]).toNat_lt
   by_cases hkn:k<n
   ·obtain⟨h3,h4⟩:=Jf.1 (q1 hkn)
    clear q1 q2
    go_wp2_with fail
    go_round
    case rel=>exact⟨k+1,by go_num,by omega⟩
    case measure=>simp[intOf];omega
   have hd:=q2 (by omega)
   have hkn2:k=n:=by omega
   have h2:(s[k]).toNat<97\/(97<=(s[k]).toNat/\122<(s[k]).toNat):=by
    by_cases h3:97<=(s[k]).toNat
    ·refine .inr ⟨h3,?_⟩
     by_cases h4:122<(s[k]).toNat
     ·exact h4
     have:=Jf.2 ⟨h3,by omega⟩;rw[hd]at this;cases this
    exact .inl (by omega)
   clear q1 q2 hd
   subst hkn2
   rcases h2 with h2|⟨h2,h3⟩
   ·go_wp2_with fail
    go_ret
    exact⟨rfl,rfl⟩
   go_wp2_with fail
   go_ret
   exact⟨rfl,rfl⟩
  ·have hkn2:k=n:=by omega
   subst hkn2
   go_wp2_with fail
   go_ret
   exact⟨rfl,rfl⟩
theorem Vd(st nm fv:Value)(fs:List Fd)(n:List UInt8)(w:World)(h:Fc w fv fs):
  Calls prog 82 #[.agg #[st,nm,fv],.string ⟨n.toArray⟩] w fun e w'=>e=.returned (sfR (Cx fs n))/\Below w.heap.size w w':=by
 obtain⟨A,c,rfl,hl,hr⟩:=h
 have Hr:=Aa hr
 clear hr
 go_enter func82,ntmps82
 go_wp2_with fail
 go_loopw [6] (fun i wr=>∃k:Nat,i=.int .i64 k/\k<=fs.length/\wr=(w.alloc (.cells #[st,nm,.slice A fs.length c] 95)).alloc (.cells #[.int .i64 0,.string ⟨#[]⟩,.string ⟨#[]⟩,.string ⟨#[]⟩] 118)/\Hid (∀f∈fs.take k,decide (f.name=n)=false)) (fun i _=>fs.length - (intOf i).toNat)
 case atStart=>exact⟨0,rfl,Nat.zero_le _,rfl,by intro f hf;simp at hf⟩
 case round=>
  obtain⟨k,rfl,hk,rfl,hin⟩:=hrel
  by_cases hlt:k<fs.length
  ·obtain⟨b,off,rfl,hb,c0,c1,c2,c3⟩:=Fc.at_ Hr.o hlt
   have Hts:=Aa (Bx fs k hlt)
   have Hft:=Aa (Pk (p:=fun f=>decide (f.name=n)) hlt hin.o)
   generalize fs[k]=f at c0 c1 c2 c3 Hts Hft
   have k1:(0:Int)<=(k:Int):=by omega
   have k2:(k:Int)<(fs.length:Int):=by omega
   by_cases he:f.name=n
   ·have t1:(f.name == n)=true:=by simp[he]
    have Hfin:=Aa (show Cx fs n=some f by unfold Cx;rw[Hft.o,if_pos (by simpa using he)])
    clear he
    go_wp2_with fail
    exact bodyPost_ret (v:=.tuple #[sfV f,.bool true]) (by simp[results,results82,go_sem,sfV]) rfl ⟨by rw[Hfin.o];rfl,((Ay _ _).alloc (As _) _).alloc (by simp) _⟩
   have t1:(f.name == n)=false:=by simpa using he
   have Hin:=Aa (show ∀g∈fs.take (k+1),decide (g.name=n)=false by
    intro g hg
    rw[Hts.o]at hg
    rcases List.mem_append.1 hg with hg|hg
    ·exact hin.o g hg
    simp at hg;subst hg;simpa using he)
   clear he
   go_wp2_with fail
   go_roundw
   case rel=>exact⟨k+1,by go_num,by omega,Ad,Hin.o⟩
   case measure=>simp[intOf];omega
  ·have Hfin:=Aa (show Cx fs n=none from Ji (fun f hf=>hin.o f (by rw[List.take_of_length_le (by omega)];exact hf)))
   go_wp2_with fail
   exact bodyPost_ret (v:=.tuple #[sf0,.bool false]) (by simp[results,results82,go_sem,sf0]) rfl ⟨by rw[Hfin.o];rfl,((Ay _ _).alloc (As _) _).alloc (by simp) _⟩
def enN(fs:List Fd)(s:List UInt8):Option (Vl × List UInt8):=match Ae 34 s with
 |none=>none
 |some r=>match Cx fs (r.takeWhile Ao)with
  |none=>none
  |some f=>match Ae 34 (r.dropWhile Ao)with|some q=>some (.mk 69 [] f.tag [],q)|none=>none
theorem Y8(o:Option Fd):∃(n:Nat) (a b c:List UInt8),sfR o=.tuple #[.agg #[.int .i64 (n:Int),.string ⟨a.toArray⟩,.string ⟨b.toArray⟩,.string ⟨c.toArray⟩],.bool o.isSome]/\∀f,o=some f->n=f.tag/\a=f.name/\b=Bi f.kind/\c=f.given:=by
 cases o with
 |none=>exact⟨0,[],[],[],rfl,fun f h=>by cases h⟩
 |some f=>exact⟨f.tag,f.name,Bi f.kind,f.given,rfl,fun g h=>by injection h with h;subst h;exact⟨rfl,rfl,rfl,rfl⟩⟩
def Qw(w1 w2 w3:World)(la lb:Bool)(W:World):Prop:=(la=false->W=w1/\lb=false)/\(la=true->lb=false->W=w2)/\(lb=true->W=w3)
section
variable {w W:World} {o1 o2:Obj} {la lb:Bool}
theorem Qw.start{w1 w2 w3:World}:Qw w1 w2 w3 false false w1:=⟨fun _=>⟨rfl,rfl⟩,fun h=>Bool.noConfusion h,fun h=>Bool.noConfusion h⟩
theorem Qw.put1{w1 w2 w3:World}(h:Qw w1 w2 w3 la lb W)(hl:la=false):W=w1/\Qw w1 w2 w3 true lb w2:=
 ⟨(h.1 hl).1,fun h=>Bool.noConfusion h,fun _ _=>rfl,fun e=>absurd ((h.1 hl).2.symm.trans e) (by decide)⟩
theorem Qw.put2{w1 w2 w3:World}(h:Qw w1 w2 w3 la lb W)(ha:la=true)(hl:lb=false):W=w2/\Qw w1 w2 w3 la true w3:=
 ⟨h.2.1 ha hl,fun e=>absurd (ha.symm.trans e) (by decide),fun _ e=>Bool.noConfusion e,fun _=>rfl⟩
theorem Qw.cells(h:Qw w.drew (w.drew.alloc o1) ((w.drew.alloc o1).alloc o2) la lb W):Dz w W:=by
 intro b o k hb
 cases la with
 |false=>rw[(h.1 rfl).1];rfl
 |true=>
  cases lb with
  |false=>rw[h.2.1 rfl rfl];simp[go_sem,hb,Nat.ne_of_lt hb]
  |true=>
   rw[h.2.2 rfl]
   have:¬(b=w.heap.size+1):=by omega
   simp[go_sem,hb,Nat.ne_of_lt hb,this]
end
theorem Vk(S:List Ty)(k:Kd)(hkl:(Bi k).length<=100)(xv:Value)(hxv:xv.oneCell'=true)(nm:List UInt8)(A9:Option Addr)(c9:Nat)(fs:List Fd)(c:UInt8)(r:List UInt8)(w:World)(hs:r.length<=1000)(hfs:Fc w (.slice A9 fs.length c9) fs)(q:Option (Vl × List UInt8))(hq:q=enN fs (c::r)):
  Calls prog 48 #[.agg #[xv],.string ⟨(c::r).toArray⟩,.string ⟨(Bi k).toArray⟩,.agg #[.int .u8 69,.string ⟨nm.toArray⟩,.slice A9 fs.length c9]] w (At S k q w):=by
 have HQ:=Aa hq
 have Hsv:=Aa (fun g=>Q9 S k g)
 have Hfs:=Aa hfs
 generalize Bi k=kb at *
 clear hq hfs
 by_cases hc:c=34
 ·subst hc
  have HQ2:=Aa (show q=match Cx fs (r.takeWhile Ao)with
   |none=>none
   |some f=>match Ae 34 (r.dropWhile Ao)with|some q=>some (.mk 69 [] f.tag [],q)|none=>none from by rw[HQ.o];unfold enN;rw[Aq])
  obtain⟨hw1,hw2,hw3⟩:=J0 Ao r
  have Hwd:=Aa (fun W=>Vx r W (by omega))
  obtain⟨n,hn⟩:∃n,n=(r.takeWhile Ao).length:=⟨_,rfl⟩
  rw[<-hn]at Hwd hw3
  have e1:r.take n=r.takeWhile Ao:=by rw[hn];exact hw1
  go_enter func48,ntmps48
  go_wp2_with fail
  refine(Hwd.o _).mono ?_
  rintro e w1 ⟨rfl,hw1e⟩
  have y0:w1.cell? ⟨w.heap.size+1,0,none⟩=some (.int .u8 69):=by rw[<-hw1e];simp[go_sem]
  have y1:w1.cell? ⟨w.heap.size+1,1,none⟩=some (.string ⟨nm.toArray⟩):=by rw[<-hw1e];simp[go_sem]
  have y2:w1.cell? ⟨w.heap.size+1,2,none⟩=some (.slice A9 fs.length c9):=by rw[<-hw1e];simp[go_sem]
  have hb1:Below w.heap.size w w1:=by rw[<-hw1e];exact((Ay _ _).alloc (As _) _).alloc (by simp) _
  have hl1:w.heap.size+1<w1.heap.size:=by rw[<-hw1e];simp
  have Hb1:=Aa hb1
  have HX:=Aa (fun W (hW:Below w1.heap.size w1 W)=>Vd (.int .u8 69) (.string ⟨nm.toArray⟩) (.slice A9 fs.length c9) fs (r.takeWhile Ao) W ((Hfs.o.below hb1).below hW))
  obtain⟨o,ho⟩:∃o,Cx fs (r.takeWhile Ao)=o:=⟨_,rfl⟩
  rw[ho]at HX HQ2
  obtain⟨fn,fa,fb,fc,e9,h9⟩:=Y8 o
  have H9:=Aa h9
  rw[e9]at HX
  clear hw1e hb1 h9 e9 ho
  have n1:(n:Int)<=(r.length:Int):=by omega
  have n2:(0:Int)<=(n:Int):=by omega
  have n3:IntKind.i64.wrap (1+(n:Int))=1+(n:Int):=IntWalk.i64_in _ (by omega)
  have n4:(0:Int)<=1+(n:Int):=by omega
  have n5:1+(n:Int)<=(r.length:Int)+1:=by omega
  have n6:(1:Int)<=1+(n:Int):=by omega
  have n7:(1+(n:Int)).toNat - 1=n:=by omega
  have n8:(1+(n:Int)).toNat=n+1:=by omega
  have n9:(1+n) - 1=n:=by omega
  have e2:r.drop n=r.dropWhile Ao:=by rw[hn];exact hw2
  have hdl:(r.dropWhile Ao).length<=1000:=by rw[<-e2];simp;omega
  have e3:(r.dropWhile Ao).take (r.length - n)=r.dropWhile Ao:=by rw[<-e2];exact List.take_of_length_le (by simp)
  clear hn hw1 hw2
  generalize r.takeWhile Ao=nl at *
  generalize r.dropWhile Ao=rs at *
  go_wp2_with fail
  refine Z9 (fun l u W=>Mk w1 [.int .i64 (fn:Int),.string ⟨fa.toArray⟩,.string ⟨fb.toArray⟩,.string ⟨fc.toArray⟩] (l 9) (l 10) (u 9) W) (Dz w1) (fun _ _ _ h=>M3 h.1) Mk.start ?_
  iterate 5 refine sq ?_
  refine sqB (fun _ _ _ h=>h.1) (fun _ _ _ _ h hb=>h.below hb) HX.o ?_
  iterate 3 refine sq ?_
  refine Gy (fun _=>True) (by
   intro l u W hl hp hF hG hi K hK
   have h:Mk w1 [.int .i64 (fn:Int),.string ⟨fa.toArray⟩,.string ⟨fb.toArray⟩,.string ⟨fc.toArray⟩] (l 9) (l 10) (u 9) W:=hF.o
   rw[hl]at h
   have Hh:=Aa (h.alloc [.int .i64 0,.string ⟨#[]⟩,.string ⟨#[]⟩,.string ⟨#[]⟩] rfl 118)
   clear h hp hi hG
   go_simp
   exact hK _ _ _ Ad Hh.o rfl) ?_
  refine Gy (fun _=>True) (by
   intro l u W hl hp hF hG hi K hK
   have h:Mk w1 [.int .i64 (fn:Int),.string ⟨fa.toArray⟩,.string ⟨fb.toArray⟩,.string ⟨fc.toArray⟩] (l 9) (l 10) (u 9) W:=hF.o
   simp[Region.binds,Ck]at hp
   obtain⟨b9,e9,_,_,h9,_⟩:=h.2.2 (by simp[hp])
   simp only[Region.wanted,if_true]
   refine wp_store_mid 118 _ _ rfl b9 0 #[.int .i64 (fn:Int),.string ⟨fa.toArray⟩,.string ⟨fb.toArray⟩,.string ⟨fc.toArray⟩] (by simp[e9];rfl) (by simp[hp];rfl) h9 (by kernel_rfl) (by simp[Value.oneCell']) ?_
   exact hK undef _ _ Ad (h.store (by simp[hp]) e9) rfl) ?_
  refine sq ?_
  intro l u W hl hφ hR
  simp only[Te,List.nil_append,List.cons_append,Nat.zero_add,Nat.reduceAdd]at hφ
  have hR:Mk w1 [.int .i64 (fn:Int),.string ⟨fa.toArray⟩,.string ⟨fb.toArray⟩,.string ⟨fc.toArray⟩] (l 9) (l 10) (u 9) W:=hR
  obtain⟨B,eB,hB1,hBl,_,hrg⟩:=hR.2.2 (hl 9 (by decide))
  have z0:W.cell? ⟨B,0,none⟩=some (.int .i64 (fn:Int)):=by simpa using Ab (hrg (hl 10 (by decide))) 0 rfl
  have Hb2:=Aa (Hb1.o.trans (hR.1.mono Hb1.o.size))
  simp only[eB,hφ]
  have hBz:w.heap.size<=B:=by have:=Hb1.o.size;omega
  clear hl hR eB hrg HX y0 y1 y2 hφ
  cases o with
  |none=>
   go_wp2_with fail
   refine bodyPost_ret (v:=.tuple #[.pointer none,.string ⟨(34::r:List UInt8).toArray⟩,.bool false]) (by simp[results,results48,go_sem]) rfl ?_
   exact At.no HQ2.o rfl Hb2.o
  |some f=>
   obtain⟨rfl,rfl,rfl,rfl⟩:=H9.o f rfl
   have ok:(some f).isSome=true:=rfl
   by_cases h34:∃z,rs=34::z
   ·obtain⟨z,rfl⟩:=h34
    have HY:=Aa (show q=some (.mk 69 [] f.tag [],z)from by rw[HQ2.o,Aq])
    go_wp2_with fail
    refine Z9 (fun l u W'=>Qw W.drew (W.drew.alloc (.cells #[.int .i64 (f.tag:Int)] 3)) ((W.drew.alloc (.cells #[.int .i64 (f.tag:Int)] 3)).alloc (.cells #[.string ⟨kb.toArray⟩,.string ⟨#[69]⟩,.slice (some ⟨W.heap.size,0,none⟩) 1 1,.slice none 0 0] 68)) (l 3) (l 5) W'/\(l 4=true->l 3=true)) (Dz W) (fun l u W' h=>h.1.cells) ⟨Qw.start,fun h=>h⟩ ?_
    iterate 3 refine sq ?_
    refine Gy (fun v=>v=.slice (some ⟨W.heap.size,0,none⟩) 1 1) (by
     intro l u W' hl hp hF hG hi K hK
     obtain⟨hW,hn⟩:=Qw.put1 hF.o.1 hl
     simp[Region.binds,Ck]at hp
     clear hG hi hF
     subst hW
     go_simp
     exact hK _ _ _ rfl ⟨hn,fun _=>rfl⟩ (by simp[Act.put,hp])) ?_
    refine Gy (fun v=>v=.agg #[.string ⟨kb.toArray⟩,.string ⟨#[69]⟩,.slice (some ⟨W.heap.size,0,none⟩) 1 1,.slice none 0 0]) (by
     intro l u W' hl hp hF hG hi K hK
     simp[Region.binds,Ck]at hp
     have h1:=hF.o.1
     clear hG hi
     go_simp
     exact hK _ _ _ rfl ⟨h1,fun _=>by simp[hp]⟩ (by simp[Act.put,hp])) ?_
    refine Gy (fun v=>v=.pointer (some ⟨W.heap.size+1,0,none⟩)) (by
     intro l u W' hl hp hF hG hi K hK
     simp[Region.binds,Ck]at hp
     obtain⟨hW,hn⟩:=Qw.put2 hF.o.1 (hF.o.2 (by simp[hp])) hl
     have h2:=hF.o.2
     clear hG hi hF
     subst hW
     go_simp
     exact hK _ _ _ rfl ⟨hn,h2⟩ (by simp[Act.put,hp])) ?_
    refine sq ?_
    refine sqS (.string ⟨z.toArray⟩) ?_
    iterate 3 refine sq ?_
    refine dn (fun l u W' hl _ hR=>?_)
    have hW:W'=_:=hR.o.1.2.2 (hl 5 (by decide))
    subst hW
    go_wp2_with fail
    refine bodyPost_ret (v:=.tuple #[.pointer (some ⟨W.heap.size+1,0,none⟩),.string ⟨z.toArray⟩,.bool true]) (by simp[results,results48,go_sem]) rfl ?_
    have hzz:=Hb2.o.size
    rw[HY.o]
    refine⟨⟨W.heap.size+1,rfl,?_⟩,((Hb2.o.drew.alloc (by simpa using hzz) _).alloc (by simp;omega) _)⟩
    rw[Hsv.o]
    refine .mk kb [69] [f.tag] (some ⟨W.heap.size,0,none⟩) none 1 0 [] rfl (by simp) (by show w.heap.size<=W.heap.size+1;omega) (by simp[go_sem]) (by simp[go_sem]) (by simp[go_sem]) (by simp[go_sem]) ⟨by simp[B6],by simp[maxLen],fun _=>⟨W.heap.size,0,rfl,by simp;omega,fun j u hu=>?_⟩⟩ ⟨rfl,Nat.zero_le _,fun h=>absurd h (by simp)⟩ (by simp) (by simp) (fun g o _ e=>?_) (fun _ _ h=>absurd h (by simp)) (by simp)
    ·match j,hu with
     |0,hu=>
      simp[B6]at hu
      subst hu
      simp[go_sem]
     |j+1,hu=>simp[B6]at hu
    injection e with e;injection e with e;subst e;exact hzz
   have HN:=Aa (show q=none from by
    rw[HQ2.o]
    cases rs with
    |nil=>rfl
    |cons c z=>simp only;rw[Bl (fun e=>h34 ⟨z,by rw[e]⟩)])
   cases rs with
   |nil=>
    go_wp2_with fail
    refine bodyPost_ret (v:=.tuple #[.pointer none,.string ⟨(34::r:List UInt8).toArray⟩,.bool false]) (by simp[results,results48,go_sem]) rfl ?_
    exact At.no HN.o rfl Hb2.o
   |cons c z=>
    have hcn:((c.toNat:Int) != 34)=true:=by have:=Am (show c≠34 from fun e=>h34 ⟨z,by rw[e]⟩);simpa using this
    clear h34
    go_wp2_with fail
    refine bodyPost_ret (v:=.tuple #[.pointer none,.string ⟨(34::r:List UInt8).toArray⟩,.bool false]) (by simp[results,results48,go_sem]) rfl ?_
    exact At.no HN.o rfl Hb2.o
 have HN:=Aa (show q=none from by rw[HQ.o];unfold enN;rw[Bl hc])
 have hcn:((c.toNat:Int) != 34)=true:=by have:=Am hc;simpa using this
 clear hc
 go_enter func48,ntmps48
 go_wp2_with fail
 refine bodyPost_ret (v:=.tuple #[.pointer none,.string ⟨(c::r:List UInt8).toArray⟩,.bool false]) (by simp[results,results48,go_sem]) rfl ?_
 exact At.no HN.o rfl (((Ay _ _).alloc (As _) _).alloc (by simp) _)
end
structure Ml(base B:Nat)(W:World)(h0 h1 tu tv ku kv:Value)(gs bs:List Nat):Prop where
 lt:B<W.heap.size
 sz:base<=W.heap.size
 hB:B<base
 bk:Mu W B
 c0:W.cell? ⟨B,0,none⟩=some h0
 c1:W.cell? ⟨B,1,none⟩=some h1
 c2:W.cell? ⟨B,2,none⟩=some tu
 c3:W.cell? ⟨B,3,none⟩=some ku
 tags:W.ownsRow base 3 1 tv gs.length (B6 gs)
 row:W.ownsRow base 31 1 kv bs.length (Cy bs)
section
variable {base B:Nat} {W W':World} {h0 h1 tu tv tv' ku kv kv':Value} {gs bs:List Nat} {g p:Nat}
theorem Ml.after(h:Ml base B W h0 h1 tu tv ku kv gs bs)(hb:Below W.heap.size W W'):Ml base B W' h0 h1 tu tv ku kv gs bs:=by
 obtain⟨hc,_,hz⟩:=B4 hb
 exact⟨hz _ h.lt,Nat.le_trans h.sz hb.size,h.hB,h.bk.belowAt h.lt hb,(hc _ _ h.lt).trans h.c0,(hc _ _ h.lt).trans h.c1,(hc _ _ h.lt).trans h.c2,(hc _ _ h.lt).trans h.c3,Bm h.tags hb,Bm h.row hb⟩
theorem Ml.set2(h:Ml base B W h0 h1 tu tv ku kv gs bs):Ml base B (W.setCell ⟨B,2,none⟩ tv) h0 h1 tv tv ku kv gs bs:=by
 have hg:=Ap W B 2 tv
 exact⟨by simpa using h.lt,by simpa using h.sz,h.hB,h.bk.set _,by simp[go_sem,h.c0],by simp[go_sem,h.c1],by simp[go_sem,h.c2],by simp[go_sem,h.c3],h.tags.kept hg (Kz (fun k hk=>(h.tags.lt k hk).1) h.hB),h.row.kept hg (Kz (fun k hk=>(h.row.lt k hk).1) h.hB)⟩
theorem Ml.set3(h:Ml base B W h0 h1 tu tv ku kv gs bs):Ml base B (W.setCell ⟨B,3,none⟩ kv) h0 h1 tu tv kv kv gs bs:=by
 have hg:=Ap W B 3 kv
 exact⟨by simpa using h.lt,by simpa using h.sz,h.hB,h.bk.set _,by simp[go_sem,h.c0],by simp[go_sem,h.c1],by simp[go_sem,h.c2],by simp[go_sem,h.c3],h.tags.kept hg (Kz (fun k hk=>(h.tags.lt k hk).1) h.hB),h.row.kept hg (Kz (fun k hk=>(h.row.lt k hk).1) h.hB)⟩
theorem Ml.appK(h:Ml base B W h0 h1 tu tv ku kv gs bs)(hown:W'.ownsRow base 31 1 kv' (bs.length+1) (Cy bs++[.pointer (some ⟨p,0,none⟩)]))(hg:W.grownBy W' kv.ownBlock):Ml base B W' h0 h1 tu tv ku kv' gs (bs++[p]):=by
 have hn:some B≠kv.ownBlock:=fun e=>by have:=(h.row.lt B e.symm).1;have:=h.hB;omega
 exact⟨Nat.lt_of_lt_of_le h.lt hg.size,Nat.le_trans h.sz hg.size,h.hB,h.bk.grown h.lt hg hn,hg.cell h.c0 hn,hg.cell h.c1 hn,hg.cell h.c2 hn,hg.cell h.c3 hn,h.tags.kept hg (Nf h.tags h.row (by decide)),by simpa [Cy]using hown⟩
theorem Ml.appT(h:Ml base B W h0 h1 tu tv ku kv gs bs)(hown:W'.ownsRow base 3 1 tv' (gs.length+1) (B6 gs++[.int .i64 (g:Int)]))(hg:W.grownBy W' tv.ownBlock):Ml base B W' h0 h1 tu tv' ku kv (gs++[g]) bs:=by
 have hn:some B≠tv.ownBlock:=fun e=>by have:=(h.tags.lt B e.symm).1;have:=h.hB;omega
 exact⟨Nat.lt_of_lt_of_le h.lt hg.size,Nat.le_trans h.sz hg.size,h.hB,h.bk.grown h.lt hg hn,hg.cell h.c0 hn,hg.cell h.c1 hn,hg.cell h.c2 hn,hg.cell h.c3 hn,by simpa [B6]using hown,h.row.kept hg (Nf h.row h.tags (by decide))⟩
theorem Ml.pushT{A:Option Addr}{n c m:Nat}(hm:m=gs.length)(h:Ml base B W h0 h1 tu (.slice A n c) ku kv gs bs)(hown:W'.ownsRow base 3 1 tv' (gs.length+1) (B6 gs++[.int .i64 (g:Int)]))(hg:W.grownBy W' (Value.slice A n c).ownBlock):
  ∃A6 c6,tv'=.slice A6 (m+1) c6/\Ml base B W' h0 h1 tu tv' ku kv (gs++[g]) bs/\Below B W W':=by
 have hA:=h.appT hown hg
 subst hm
 rcases hown.2 with⟨e0,h0⟩|⟨g9,cap,cur,e1,_⟩
 ·omega
 exact⟨_,_,e1,hA,(Ay _ _).grown hg (Nat.le_of_lt h.lt) (fun k hk=>by have:=(h.tags.lt k hk).1;have:=h.hB;omega)⟩
theorem Ml.pushK{A:Option Addr}{n c m:Nat}(hm:m=bs.length)(h:Ml base B W h0 h1 tu tv ku (.slice A n c) gs bs)(hown:W'.ownsRow base 31 1 kv' (bs.length+1) (Cy bs++[.pointer (some ⟨p,0,none⟩)]))(hg:W.grownBy W' (Value.slice A n c).ownBlock):
  ∃A6 c6,kv'=.slice A6 (m+1) c6/\Ml base B W' h0 h1 tu tv ku kv' gs (bs++[p])/\Below B W W':=by
 have hA:=h.appK hown hg
 subst hm
 rcases hown.2 with⟨e0,h0⟩|⟨g9,cap,cur,e1,_⟩
 ·omega
 exact⟨_,_,e1,hA,(Ay _ _).grown hg (Nat.le_of_lt h.lt) (fun k hk=>by have:=(h.row.lt k hk).1;have:=h.hB;omega)⟩
theorem Ml.done{kind text:List UInt8}{Q:Nat->Prop}{zs:List (Nat × SV)}(h:Ml base B W (.string ⟨kind.toArray⟩) (.string ⟨text.toArray⟩) tv tv kv kv gs (zs.map (·.1)))(hg:gs.length<=1000)(hx:zs.length<=1000)(hQ:∀c,B<=c->Q c)(hz:∀x∈zs,Fh Q W x.1 x.2):Fh Q W B (.mk kind text gs (zs.map (·.2))):=by
 obtain⟨A1,c1,rfl,r1,p1⟩:=N3 h.tags (by simp[B6]) hg
 have hrow:=h.row
 rw[List.length_map]at hrow
 obtain⟨A2,c2,rfl,r2,p2⟩:=N3 hrow (by simp[Cy]) hx
 have hB:=h.hB
 exact .mk kind text gs A1 A2 c1 c2 zs rfl h.lt (hQ _ (As _)) h.c0 h.c1 h.c2 h.c3 r1 r2 hg hx (fun g o hn e=>hQ _ (by have:=p1 g o hn e;omega)) (fun g o hn e=>hQ _ (by have:=p2 g o hn e;omega)) hz
theorem Ml.new{T:TypeId}(h0 h1:Value):Ml (W.heap.size+1) W.heap.size (W.alloc (.cells #[h0,h1,.slice none 0 0,.slice none 0 0] T)) h0 h1 (.slice none 0 0) (.slice none 0 0) (.slice none 0 0) (.slice none 0 0) [] []:=
 ⟨by simp,by simp,by omega,Mu.new _ _ _,by simp[go_sem],by simp[go_sem],by simp[go_sem],by simp[go_sem],World.ownsRow_nil _ _ _ _,World.ownsRow_nil _ _ _ _⟩
end
structure Ko(base B f:Nat)(T:TypeId)(W1:World)(old:Value)(n:Nat)(row:List Value)(x:Value)(lb la ls:Bool)(ub ua:Value)(W:World):Prop where
 p0:lb=false->W=W1
 p1:lb=true->la=false->W=W1.alloc (.cells [x].toArray T)/\ub=.slice (some ⟨W1.heap.size,0,none⟩) 1 1
 p2:la=true->∃W5,(W=if ls then W5.setCell ⟨B,f,none⟩ ua else W5)/\W5.ownsRow base T 1 ua (n+1) (row++[x])/\W1.grownBy W5 old.ownBlock
 oa:la=true->lb=true
 os:ls=true->la=true
section
variable {base B f n:Nat} {T:TypeId} {W1 W W':World} {old x ub ua v:Value} {row:List Value} {lb la ls:Bool}
theorem Ko.start:Ko base B f T W1 old n row x false false false ub ua W1:=⟨fun _=>rfl,fun h=>Bool.noConfusion h,fun h=>Bool.noConfusion h,id,id⟩
theorem Ko.no(h:Ko base B f T W1 old n row x lb la ls ub ua W)(hb:lb=false):la=false/\ls=false:=by
 have ha:la=false:=by cases la with|false=>rfl|true=>exact absurd ((h.oa rfl).symm.trans hb) (by decide)
 exact⟨ha,by cases ls with|false=>rfl|true=>exact absurd ((h.os rfl).symm.trans ha) (by decide)⟩
theorem Ko.be(h:Ko base B f T W1 old n row x lb la ls ub ua W)(ha:la=false):Below W1.heap.size W1 W:=by
 cases lb with
 |false=>rw[h.p0 rfl];exact Ay _ _
 |true=>rw[(h.p1 rfl ha).1];exact(Ay _ _).alloc (As _) _
theorem Ko.bel{m:Nat}(h:Ko base B f T W1 old n row x lb la ls ub ua W)(hm:m<=W1.heap.size)(hb:m<=B)(ho:∀k,old.ownBlock=some k->m<=k):Below m W1 W:=by
 cases la with
 |false=>exact(h.be rfl).mono hm
 |true=>
  obtain⟨W5,e,h1,h2⟩:=h.p2 rfl
  have hg:Below m W1 W5:=(Ay _ _).grown h2 hm ho
  rw[e]
  cases ls with
  |false=>exact hg
  |true=>exact hg.setCell (p:=⟨B,f,none⟩) hb _
theorem Ko.put1(h:Ko base B f T W1 old n row x lb la ls ub ua W)(hb:lb=false):W=W1/\Ko base B f T W1 old n row x true la ls (.slice (some ⟨W1.heap.size,0,none⟩) 1 1) ua (W1.alloc (.cells [x].toArray T)):=by
 obtain⟨ha,hs⟩:=h.no hb
 exact⟨h.p0 hb,fun h=>Bool.noConfusion h,fun _ _=>⟨rfl,rfl⟩,fun h=>absurd (ha.symm.trans h) (by decide),fun _=>rfl,fun h=>absurd (hs.symm.trans h) (by decide)⟩
theorem Ko.put2(h:Ko base B f T W1 old n row x lb la ls ub ua W)(hb:lb=true)(ha:la=false)(hown:W'.ownsRow base T 1 v (n+1) (row++[x]))(hg:W1.grownBy W' old.ownBlock):Ko base B f T W1 old n row x lb true ls ub v W':=by
 have hs:ls=false:=by cases ls with|false=>rfl|true=>exact absurd ((h.os rfl).symm.trans ha) (by decide)
 subst hs
 exact⟨fun e=>absurd (hb.symm.trans e) (by decide),fun _ h=>Bool.noConfusion h,fun _=>⟨W',rfl,hown,hg⟩,fun _=>hb,fun _=>rfl⟩
theorem Ko.put3(h:Ko base B f T W1 old n row x lb la ls ub ua W)(ha:la=true)(hs:ls=false):Ko base B f T W1 old n row x lb la true ub ua (W.setCell ⟨B,f,none⟩ ua):=by
 obtain⟨W5,e,h1,h2⟩:=h.p2 ha
 subst hs
 exact⟨fun e=>absurd ((h.oa ha).symm.trans e) (by decide),fun _ e=>absurd (ha.symm.trans e) (by decide),fun _=>⟨W5,by rw[e];rfl,h1,h2⟩,h.oa,fun _=>ha⟩
end
theorem Ko.form{base B f n:Nat}{T:TypeId}{W1 W:World}{old x ub ua:Value}{row:List Value}{lb la ls:Bool}(h:Ko base B f T W1 old n row x lb la ls ub ua W)(ha:la=true):∃A c,ua=.slice A (n+1) c:=by
 obtain⟨W5,e,h1,h2⟩:=h.p2 ha
 rcases h1.2 with⟨e0,h0⟩|⟨g9,cap,cur,e1,_⟩
 ·omega
 exact⟨_,_,e1⟩
theorem Ko.finT{base B n g:Nat}{W1 W:World}{h0 h1 tv ku ub ua:Value}{gs bs:List Nat}{lb la ls:Bool}(hO:Ml base B W1 h0 h1 tv tv ku ku gs bs)(hn:n=gs.length)(h:Ko base B 2 3 W1 tv n (B6 gs) (.int .i64 (g:Int)) lb la ls ub ua W)(ha:la=true)(hs:ls=true):
  Ml base B W h0 h1 ua ua ku ku (gs++[g]) bs:=by
 obtain⟨W5,e,h1,h2⟩:=h.p2 ha
 subst hn hs
 rw[e]
 exact(hO.appT h1 h2).set2
theorem Ko.finK{base B n p:Nat}{W1 W:World}{h0 h1 tv kv ub ua:Value}{gs bs:List Nat}{lb la ls:Bool}(hO:Ml base B W1 h0 h1 tv tv kv kv gs bs)(hn:n=bs.length)(h:Ko base B 3 31 W1 kv n (Cy bs) (.pointer (some ⟨p,0,none⟩)) lb la ls ub ua W)(ha:la=true)(hs:ls=true):
  Ml base B W h0 h1 tv tv ua ua gs (bs++[p]):=by
 obtain⟨W5,e,h1,h2⟩:=h.p2 ha
 subst hn hs
 rw[e]
 exact(hO.appK h1 h2).set3
section
attribute [local go_sem] Qjy Qiu Qil Qgp ByteArray.mk_append_mk
theorem Qcx{α β:Type}:∀(l:List α) (m:List β),l.length=m.length->(l.zip m).map (·.1)=l
 |[],[],_=>rfl
 |a::l,b::m,h=>by rw[List.zip_cons_cons,List.map_cons,Qcx l m (by simpa using h)]
theorem Qcl{α β:Type}:∀(l:List α) (m:List β),l.length=m.length->(l.zip m).map (·.2)=m
 |[],[],_=>rfl
 |a::l,b::m,h=>by rw[List.zip_cons_cons,List.map_cons,Qcl l m (by simpa using h)]
theorem Xo{α β:Type}(f:α->β)(g:Nat)(y:α):∀l:List (Nat × α),(G1 g y l).map (fun z=>(z.1,f z.2))=G1 g (f y) (l.map fun z=>(z.1,f z.2))
 |[]=>rfl
 |q::l=>by
  simp only[List.map_cons]
  unfold G1
  split
  ·rfl
  rw[List.map_cons,Xo f g y l]
theorem Zk{α:Type}{g:Nat}{y:α}{z:Nat × α}:∀{l:List (Nat × α)},z∈G1 g y l->z=(g,y)\/z∈l
 |[],h=>by simpa [G1]using h
 |q::l,h=>by
  unfold G1 at h
  split at h
  ·simpa using h
  rcases List.mem_cons.1 h with rfl|h
  ·exact .inr (by simp)
  rcases Zk h with h|h
  ·exact .inl h
  exact .inr (by simp[h])
def BxR(w1 w2:World)(lc:Bool)(W:World):Prop:=(lc=false->W=w1)/\(lc=true->W=w2)
structure Wst(w:World)(h0 h1:Value)(g:Nat)(y:Nat × SV)(zs:List (Nat × (Nat × SV)))(wr:World)(tv kv:Value)(out:List (Nat × (Nat × SV)))(dn:Bool):Prop where
 bel:Below w.heap.size w wr
 ost:Ml (w.heap.size+1) w.heap.size wr h0 h1 tv tv kv kv (out.map (·.1)) (out.map (·.2.1))
 ins:Nl g y zs out dn
theorem Qc6(P:Nat->Prop)(kd tx:List UInt8)(gs:List Nat)(vs:List SV)(hlen:gs.length=vs.length)(hn:gs.length<=900)(g:Nat)(hg:g<=1000)(hgs:∀q∈gs,q<=1000/\q≠g)(b yb:Nat)(yv:SV)(w:World)(hb:Fh P w b (.mk kd tx gs vs))(hy:Fh P w yb yv):
  Calls prog 84 #[.pointer (some ⟨b,0,none⟩),.int .i64 (g:Int),.pointer (some ⟨yb,0,none⟩)] w fun e w'=>∃B,e=.returned (.pointer (some ⟨B,0,none⟩))/\Below w.heap.size w w'/\Fh (fun c=>P c\/w.heap.size<=c) w' B (.mk kd tx ((G1 g yv (gs.zip vs)).map (·.1)) ((G1 g yv (gs.zip vs)).map (·.2))):=by
 cases hb with
 |mk _ _ _ A1 A2 c1 c2 xs hv hb hP y0 y1 y2 y3 hr1 hr2 hl1 hl2 hp1 hp2 hks=>
  injection hv with e1 e2 e3 e4
  subst e1 e2 e3 e4
  rw[List.length_map]at hlen
  obtain⟨zs,hzs⟩:∃zs,zs=gs.zip xs:=⟨_,rfl⟩
  have hzl:zs.length=xs.length:=by rw[hzs,List.length_zip];omega
  have hz1:zs.map (·.1)=gs:=by rw[hzs];exact Qcx _ _ hlen
  have hz2:zs.map (·.2)=xs:=by rw[hzs];exact Qcl _ _ hlen
  have Hr1:=Aa hr1
  have Hr2:=Aa hr2
  have Hy:=Aa hy
  have Hks:=Aa hks
  have Hgs:=Aa hgs
  have Hz1:=Aa hz1
  have Hz2:=Aa hz2
  rw[hlen]at y2 hn Hr1
  have hzn:zs.length<=900:=by omega
  generalize hxn:xs.length=n at *
  have Hxn:=Aa hxn
  clear hxn
  clear hr1 hr2 hy hks hgs hz1 hz2 hp1 hp2 hP hzs hl1 hl2
  go_enter func84,ntmps84
  go_wp2_with fail
  refine Z9 (fun l u W=>BxR w.drew (w.drew.alloc (.cells #[.string ⟨kd.toArray⟩,.string ⟨tx.toArray⟩,.slice none 0 0,.slice none 0 0] 68)) (l 9) W) (Dz w) (fun l u W h b o k hb=>by
   cases h9:l 9 with
   |false=>rw[h.1 h9];rfl
   |true=>rw[h.2 h9];simp[go_sem,hb,Nat.ne_of_lt hb]) ⟨fun _=>rfl,fun h=>Bool.noConfusion h⟩ ?_
  iterate 9 refine sq ?_
  refine Gy (fun v=>v=.pointer (some ⟨w.heap.size,0,none⟩)) (by
   intro l u W hl hp hF hG hi K hK
   have hW:W=w.drew:=hF.o.1 hl
   simp[Region.binds,Ck]at hp
   clear hG hi hF
   subst hW
   go_simp
   exact hK _ _ _ rfl ⟨fun h=>Bool.noConfusion h,fun _=>rfl⟩ (by simp[Act.put,hp])) ?_
  refine sq ?_
  refine dn (fun l u W hl _ hR=>?_)
  have hW:W=_:=hR.o.2 (hl 9 (by decide))
  have L0:=Aa (show Wst w (.string ⟨kd.toArray⟩) (.string ⟨tx.toArray⟩) g (yb,yv) (zs.take 0) W (.slice none 0 0) (.slice none 0 0) [] false from by
   rw[hW]
   exact⟨(Ay _ _).drew.alloc (As _) _,Ml.new (W:=w.drew) _ _,Nl.init⟩)
  clear hW hl hR
  go_wp2_with fail
  go_loopw [8,9] (fun s8 s9 wr=>∃(k:Nat) (dn:Bool) (A2' A3':Option Addr) (c2' c3':Nat) (out:List (Nat × (Nat × SV))),s8=.bool dn/\s9=.int .i64 (k:Int)/\k<=n/\Hid (Wst w (.string ⟨kd.toArray⟩) (.string ⟨tx.toArray⟩) g (yb,yv) (zs.take k) wr (.slice A2' out.length c2') (.slice A3' out.length c3') out dn)) (fun _ s9 _=>n - (intOf s9).toNat)
  case atStart=>exact⟨0,false,none,none,0,0,[],rfl,rfl,Nat.zero_le _,L0.o⟩
  case round=>
   obtain⟨k,dn,A2',A3',c2',c3',out,rfl,rfl,hk,HL⟩:=hrel
   have HB:=Aa HL.o.bel
   have x2:=(HB.o.cell (p:=⟨b,2,none⟩) hb).trans y2
   have x3:=(HB.o.cell (p:=⟨b,3,none⟩) hb).trans y3
   have hbl:b<wr.heap.size:=Nat.lt_of_lt_of_le hb HB.o.size
   have hol:=HL.o.ins.len
   have HO:=Aa HL.o.ost
   have HI:=Aa HL.o.ins
   have hsz:=HB.o.size
   simp only[List.length_take]at hol
   have Y2:=Aa y2
   have Y3:=Aa y3
   clear HL L0 y0 y1 y2 y3
   by_cases hlt:k<n
   ·have hlz:k<zs.length:=by omega
    have Ht:=Aa (Bx zs k hlz)
    obtain⟨b6,o6,rfl,hb6,hc6⟩:=Hr1.o.at_ (k:=k) (by omega)
    obtain⟨b7,o7,rfl,hb7,hc7⟩:=Hr2.o.at_ (k:=k) (by omega)
    have e6:gs[k]'(by omega)=zs[k].1:=by simp[<-Hz1.o]
    have e7:(xs.map (·.1))[k]'(by have:=Hxn.o;simp;omega)=zs[k].2.1:=by simp[<-Hz2.o]
    replace hc6:w.cell? ⟨b6,o6+k,none⟩=some (.int .i64 (zs[k].1:Int)):=by rw[<-e6];simpa [B6]using hc6
    replace hc7:w.cell? ⟨b7,o7+k,none⟩=some (.pointer (some ⟨zs[k].2.1,0,none⟩)):=by rw[<-e7];simpa [Cy]using hc7
    obtain⟨hq1,hq2⟩:=Hgs.o zs[k].1 (by rw[<-Hz1.o];exact List.mem_map_of_mem (List.getElem_mem hlz))
    have Hc6:=Aa hc6
    have Hc7:=Aa hc7
    replace hc6:=(HB.o.cell (p:=⟨b6,o6+k,none⟩) hb6).trans hc6
    replace hc7:=(HB.o.cell (p:=⟨b7,o7+k,none⟩) hb7).trans hc7
    clear e6 e7
    generalize zs[k]=zk at *
    have t0:decide ((k:Int)<(n:Int))=true:=decide_eq_true (by omega)
    have t0i:(k:Int)<(n:Int):=by omega
    go_upto_region 6 with fail
    obtain⟨tb,htb⟩:∃tb,tb=(!dn && decide (g<zk.1)):=⟨_,rfl⟩
    have Htb:=Aa htb
    clear htb
    go_cut [43]from 22 to 104 (fun b43 wx=>b43=.bool tb/\wx=wr)
    case first=>
     cases dn with
     |true=>
      have hb:tb=false:=Htb.o
      subst hb
      go_wp2_with fail
      go_meet
      exact⟨rfl,rfl⟩
     |false=>
      by_cases hgt:g<zk.1
      ·have t1:decide ((g:Int)<(zk.1:Int))=true:=decide_eq_true (by omega)
       have t1i:(g:Int)<(zk.1:Int):=by omega
       have hb:tb=true:=by rw[Htb.o];simpa using hgt
       subst hb
       clear hgt
       go_wp2_with fail
       go_meet
       exact⟨rfl,rfl⟩
      have t1:decide ((g:Int)<(zk.1:Int))=false:=decide_eq_false (by omega)
      have t1i:¬((g:Int)<(zk.1:Int)):=by omega
      have hb:tb=false:=by rw[Htb.o];simpa using hgt
      subst hb
      clear hgt
      go_wp2_with fail
      go_meet
      exact⟨rfl,rfl⟩
    case rest=>
     obtain⟨rfl,rfl⟩:=hcut
     go_upto_if 43 with fail
     go_cut [8]from 22 to 104 (fun d8 wx=>∃(dn':Bool) (A2' A3':Option Addr) (c2' c3':Nat) (out:List (Nat × (Nat × SV))),d8=.bool dn'/\Hid (Below w.heap.size w wx)/\Hid (Ml (w.heap.size+1) w.heap.size wx (.string ⟨kd.toArray⟩) (.string ⟨tx.toArray⟩) (.slice A2' out.length c2') (.slice A2' out.length c2') (.slice A3' out.length c3') (.slice A3' out.length c3') (out.map (·.1)) (out.map (·.2.1)))/\Hid (Nl g (yb,yv) (zs.take (k+1)) (out++[zk]) dn'))
     case first=>
      cases tb with
      |true=>
       have hd:dn=false:=by have:=Htb.o;cases dn with|false=>rfl|true=>cases this
       subst hd
       have hgt:g<zk.1:=by have:=Htb.o;simpa using this
       have HI2:=Aa (show Nl g (yb,yv) (zs.take (k+1)) (out++[(g,(yb,yv))]++[zk]) true by rw[Ht.o];exact HI.o.here hgt)
       clear hgt
       have o2:=HO.o.c2
       have ol:=HO.o.lt
       have ok2:=HO.o.bk.live 2
       go_upto_region 8 with(at_builtin;go_loud (refine Dg _ rfl _ _ 65 rfl (w.heap.size+1) 3 (.int .i64 0) 8 underlying65 Xx rfl wc (.int .i64 (g:Int)) rfl rfl (.slice A2' out.length c2') out.length (B6 (out.map (·.1))) rfl rfl (by simpa using HO.o.tags) (by unfold maxLen;omega) (by omega) HO.o.sz ?_;intro v7 w7 hown7 hg7 _;obtain⟨A7,c7,e7,hO7,hb7⟩:=Ml.pushT (g:=g) (m:=out.length) (by simp) HO.o (by simpa using hown7) hg7;subst e7;have HO7:=Aa hO7;have HB7:=Aa hb7;have o2:=hO7.c2;have ol:=hO7.lt;have ok2:=hO7.bk.live 2;clear hown7 hg7 hO7 hb7))
       generalize hwg:World.setCell _ _ _=w8
       have HO8:=Aa (show Ml (w.heap.size+1) w.heap.size w8 _ _ _ _ _ _ _ _ from by rw[<-hwg];exact HO7.o.set2)
       have HB8:=Aa (show Below w.heap.size w w8 from by rw[<-hwg];exact(HB.o.trans (HB7.o.mono (As _))).setCell (p:=⟨w.heap.size,2,none⟩) (As _) _)
       clear hwg o2 ol ok2 HO7 HB7
       have o3:=HO8.o.c3
       have ol:=HO8.o.lt
       have ok2:=HO8.o.bk.live 3
       go_wp2_with (at_builtin;go_loud (refine Dg _ rfl _ _ 66 rfl (w.heap.size+1) 31 (.pointer none) 8 underlying66 Qf rfl w8 (.pointer (some ⟨yb,0,none⟩)) rfl rfl (.slice A3' out.length c3') out.length (Cy (out.map (·.2.1))) rfl rfl (by simpa using HO8.o.row) (by unfold maxLen;omega) (by omega) HO8.o.sz ?_;intro v7 w7 hown7 hg7 _;obtain⟨A9,c9,e9,hO9,hb9⟩:=Ml.pushK (p:=yb) (m:=out.length) (by simp) HO8.o (by simpa using hown7) hg7;subst e9;have HO9:=Aa hO9;have HB9:=Aa hb9;have o3:=hO9.c3;have ol:=hO9.lt;have ok2:=hO9.bk.live 3;clear hown7 hg7 hO9 hb9))
       generalize hwg:World.setCell _ _ _=wA
       have HOA:=Aa (show Ml (w.heap.size+1) w.heap.size wA _ _ _ _ _ _ _ _ from by rw[<-hwg];exact HO9.o.set3)
       have HBA:=Aa (show Below w.heap.size w wA from by rw[<-hwg];exact(HB8.o.trans (HB9.o.mono (As _))).setCell (p:=⟨w.heap.size,3,none⟩) (As _) _)
       clear hwg o3 ol ok2 HO9 HB9
       go_meet
       refine⟨true,A7,A9,c7,c9,out++[(g,(yb,yv))],rfl,HBA.o,?_,HI2.o⟩
       exact Aa (by simpa using HOA.o)
      |false=>
       go_wp2_with fail
       go_meet
       exact⟨dn,A2',A3',c2',c3',out,rfl,HB.o,HO.o,by rw[Ht.o];exact HI.o.step fun hd=>by have:=Htb.o;rw[hd]at this;simp at this;omega⟩
     case rest=>
      obtain⟨dn',A2',A3',c2',c3',out,rfl,HB,HO,HI⟩:=hcut
      obtain⟨w5,rfl⟩:∃w5,w5=wc:=⟨_,rfl⟩
      have x2:=(HB.o.cell (p:=⟨b,2,none⟩) hb).trans Y2.o
      have x3:=(HB.o.cell (p:=⟨b,3,none⟩) hb).trans Y3.o
      have hc6:=(HB.o.cell (p:=⟨b6,o6+k,none⟩) hb6).trans Hc6.o
      have hc7:=(HB.o.cell (p:=⟨b7,o7+k,none⟩) hb7).trans Hc7.o
      have hbl:b<w5.heap.size:=Nat.lt_of_lt_of_le hb HB.o.size
      have hb6':b6<w5.heap.size:=Nat.lt_of_lt_of_le hb6 HB.o.size
      have hb7':b7<w5.heap.size:=Nat.lt_of_lt_of_le hb7 HB.o.size
      have hol:=HI.o.len
      simp only[List.length_take,List.length_append,List.length_cons,List.length_nil]at hol
      have tne:((zk.1:Int) != (g:Int))=true:=by simp;omega
      have k1:(0:Int)<=(k:Int):=by omega
      have hoN:out.length<=901:=by omega
      clear hol
      go_wp2_with fail
      clear x2 x3 hc6 hc7 hbl hb6' hb7'
      have y2:=Y2.o
      have y3:=Y3.o
      have h6:=Hc6.o
      have h7:=Hc7.o
      refine Z9 (fun l u W=>Ko (w.heap.size+1) w.heap.size 2 3 w5.drew (.slice A2' out.length c2') out.length (B6 (out.map (·.1))) (.int .i64 (zk.1:Int)) (l 12) (l 13) (l 16) (u 12) (u 13) W) (Dz w) (fun l u W h b o k hb=>by
       have hq:=h.bel (m:=w.heap.size) (by have:=HB.o.size;simpa using this) (As _) (fun k hk=>by have:=(HO.o.tags.lt k hk).1;omega)
       exact(hq.cell (p:=⟨b,o,k⟩) hb).trans ((World.cell?_drew _ _).trans (HB.o.cell (p:=⟨b,o,k⟩) hb))) Ko.start ?_
      iterate 4 refine sq ?_
      refine Gy (fun v=>v=.slice A2' out.length c2') (by
       intro l u W hl hp hF hG hi K hK
       have hb:=(Ko.be hF.o (hi.o 13 (by rfl)).1).cell (p:=⟨w.heap.size,2,none⟩) (by have:=HO.o.lt;simpa using this)
       have x2:=hb.trans ((World.cell?_drew _ _).trans HO.o.c2)
       simp[Region.binds,Ck]at hp
       clear hb hG hi
       go_simp
       exact hK _ _ _ rfl hF.o (by simp[Act.put,hp])) ?_
      iterate 7 refine sq ?_
      refine Gy (fun _=>True) (by
       intro l u W hl hp hF hG hi K hK
       obtain⟨hW,hn⟩:=Ko.put1 hF.o hl
       simp[Region.binds,Ck]at hp
       clear hG hi hF
       subst hW
       go_simp
       exact hK _ _ _ Ad hn (by simp[Act.put,hp])) ?_
      refine Gy (fun _=>True) (by
       intro l u W hl hp hF hG hi K hK
       simp[Region.binds,Ck]at hp
       obtain⟨hW,ub⟩:=Ko.p1 hF.o (by simp[hp]) hl
       subst hW
       simp only[Region.wanted,if_true]
       refine Mz w5.drew (.tmp 77) (.tmp 85) 65 rfl (w.heap.size+1) 3 (.int .i64 0) 1 8 underlying65 Xx rfl (by decide) [(.int .i64 (zk.1:Int))] rfl (by simp[Value.oneCell']) (.slice A2' out.length c2') out.length (B6 (out.map (·.1))) ?_ ?_ (by simpa using(HO.o.after (Ay _ _).drew).tags) (by unfold maxLen;omega) (by omega) (by have:=HO.o.sz;simpa using this) ?_
       ·simp[hp];rfl
       ·simp[hp,ub];rfl
       intro v6 w6 hown hg _
       exact hK _ _ _ Ad (Ko.put2 hF.o (by simp[hp]) hl hown hg) rfl) ?_
      iterate 2 refine sq ?_
      refine Gy (fun _=>True) (by
       intro l u W hl hp hF hG hi K hK
       simp[Region.binds,Ck]at hp
       have l13:l 13=true:=by simp[hp]
       obtain⟨A9,c9,u9⟩:=Ko.form hF.o l13
       obtain⟨W5,e5,h1,h2⟩:=Ko.p2 hF.o l13
       rw[hl]at e5
       simp only[Bool.false_eq_true,if_false]at e5
       subst e5
       have hO5:=(HO.o.after (Ay _ _).drew).appT (by simpa using h1) h2
       have x2:=hO5.c2
       have x3:=hO5.bk.live 2
       have x4:=hO5.lt
       have hn:=Aa (Ko.put3 hF.o l13 hl)
       rw[u9]at hn
       clear hG hi hF h1 h2 hO5
       go_simp
       exact hK undef _ _ Ad (by simpa [u9]using hn.o) (by simp[Act.put,hp,u9])) ?_
      intro l u W2 hl _ hR
      have hR:Ko (w.heap.size+1) w.heap.size 2 3 w5.drew (.slice A2' out.length c2') out.length (B6 (out.map (·.1))) (.int .i64 (zk.1:Int)) (l 12) (l 13) (l 16) (u 12) (u 13) W2:=hR
      obtain⟨A29,c29,u29⟩:=hR.form (hl 13 (by decide))
      have HB2:=Aa (show Below w.heap.size w W2 from HB.o.trans ((Ay _ _).drew.trans (hR.bel (m:=w.heap.size) (by have:=HB.o.size;simpa using this) (As _) (fun k hk=>by have:=(HO.o.tags.lt k hk).1;omega))))
      have hO2:=Ko.finT (HO.o.after (Ay _ _).drew) (by simp) hR (hl 13 (by decide)) (hl 16 (by decide))
      rw[u29]at hO2
      have HO2:=Aa hO2
      simp only[u29]
      have hz2:=HB2.o.size
      clear hl hR u29 hO2
      go_wp2_with fail
      refine Z9 (fun l u W=>Ko (w.heap.size+1) w.heap.size 3 31 W2.drew (.slice A3' out.length c3') out.length (Cy (out.map (·.2.1))) (.pointer (some ⟨zk.2.1,0,none⟩)) (l 12) (l 13) (l 16) (u 12) (u 13) W) (Dz w) (fun l u W h b o k hb=>by
       have hq:=h.bel (m:=w.heap.size) (by have:=HB2.o.size;simpa using this) (As _) (fun k hk=>by have:=(HO2.o.row.lt k hk).1;omega)
       exact(hq.cell (p:=⟨b,o,k⟩) hb).trans ((World.cell?_drew _ _).trans (HB2.o.cell (p:=⟨b,o,k⟩) hb))) Ko.start ?_
      iterate 4 refine sq ?_
      refine Gy (fun v=>v=.slice A3' out.length c3') (by
       intro l u W hl hp hF hG hi K hK
       have hb:=(Ko.be hF.o (hi.o 13 (by rfl)).1).cell (p:=⟨w.heap.size,3,none⟩) (by have:=HO2.o.lt;simpa using this)
       have x2:=hb.trans ((World.cell?_drew _ _).trans HO2.o.c3)
       simp[Region.binds,Ck]at hp
       clear hb hG hi
       go_simp
       exact hK _ _ _ rfl hF.o (by simp[Act.put,hp])) ?_
      iterate 7 refine sq ?_
      refine Gy (fun _=>True) (by
       intro l u W hl hp hF hG hi K hK
       obtain⟨hW,hn⟩:=Ko.put1 hF.o hl
       simp[Region.binds,Ck]at hp
       clear hG hi hF
       subst hW
       go_simp
       exact hK _ _ _ Ad hn (by simp[Act.put,hp])) ?_
      refine Gy (fun _=>True) (by
       intro l u W hl hp hF hG hi K hK
       simp[Region.binds,Ck]at hp
       obtain⟨hW,ub⟩:=Ko.p1 hF.o (by simp[hp]) hl
       subst hW
       simp only[Region.wanted,if_true]
       refine Mz W2.drew (.tmp 93) (.tmp 101) 66 rfl (w.heap.size+1) 31 (.pointer none) 1 8 underlying66 Qf rfl (by decide) [(.pointer (some ⟨zk.2.1,0,none⟩))] rfl (by simp[Value.oneCell']) (.slice A3' out.length c3') out.length (Cy (out.map (·.2.1))) ?_ ?_ (by simpa using(HO2.o.after (Ay _ _).drew).row) (by unfold maxLen;omega) (by omega) (by have:=HO2.o.sz;simpa using this) ?_
       ·simp[hp];rfl
       ·simp[hp,ub];rfl
       intro v6 w6 hown hg _
       exact hK _ _ _ Ad (Ko.put2 hF.o (by simp[hp]) hl hown hg) rfl) ?_
      iterate 2 refine sq ?_
      refine Gy (fun _=>True) (by
       intro l u W hl hp hF hG hi K hK
       simp[Region.binds,Ck]at hp
       have l13:l 13=true:=by simp[hp]
       obtain⟨A9,c9,u9⟩:=Ko.form hF.o l13
       obtain⟨W5,e5,h1,h2⟩:=Ko.p2 hF.o l13
       rw[hl]at e5
       simp only[Bool.false_eq_true,if_false]at e5
       subst e5
       have hO5:=(HO2.o.after (Ay _ _).drew).appK (by simpa using h1) h2
       have x2:=hO5.c3
       have x3:=hO5.bk.live 3
       have x4:=hO5.lt
       have hn:=Aa (Ko.put3 hF.o l13 hl)
       rw[u9]at hn
       clear hG hi hF h1 h2 hO5
       go_simp
       exact hK undef _ _ Ad (by simpa [u9]using hn.o) (by simp[Act.put,hp,u9])) ?_
      intro l u W3 hl _ hR
      have hR:Ko (w.heap.size+1) w.heap.size 3 31 W2.drew (.slice A3' out.length c3') out.length (Cy (out.map (·.2.1))) (.pointer (some ⟨zk.2.1,0,none⟩)) (l 12) (l 13) (l 16) (u 12) (u 13) W3:=hR
      obtain⟨A39,c39,u39⟩:=hR.form (hl 13 (by decide))
      have HB3:=Aa (show Below w.heap.size w W3 from HB2.o.trans ((Ay _ _).drew.trans (hR.bel (m:=w.heap.size) (by have:=HB2.o.size;simpa using this) (As _) (fun k hk=>by have:=(HO2.o.row.lt k hk).1;omega))))
      have hO3:=Ko.finK (HO2.o.after (Ay _ _).drew) (by simp) hR (hl 13 (by decide)) (hl 16 (by decide))
      rw[u39]at hO3
      have HO3:=Aa hO3
      simp only[u39]
      have hz3:=HB3.o.size
      clear hl hR u39 hO3
      go_wp2_with fail
      go_roundw
      case rel=>exact⟨k+1,dn',A29,A39,c29,c39,out++[zk],rfl,by go_num,by omega,⟨HB3.o,by simpa using HO3.o,HI.o⟩⟩
      case measure=>simp[intOf];omega
   ·have t0:decide ((k:Int)<(n:Int))=false:=decide_eq_false (by omega)
    have t0i:¬((k:Int)<(n:Int)):=by omega
    have hkn:k=n:=by omega
    have hzt:zs.take k=zs:=List.take_of_length_le (by omega)
    rw[hzt]at HI
    have HZ:=Aa (show gs.zip (xs.map (·.2))=zs.map fun z=>(z.1,z.2.2)from by rw[<-Hz1.o,<-Hz2.o,List.map_map,List.zip_map'];rfl)
    have Hfin:=Aa (fun(out:List (Nat × (Nat × SV))) (W:World) (tv kv:Value) (hB:Below w.heap.size w W) (hO:Ml (w.heap.size+1) w.heap.size W (.string ⟨kd.toArray⟩) (.string ⟨tx.toArray⟩) tv tv kv kv (out.map (·.1)) (out.map (·.2.1))) (ho:out=G1 g (yb,yv) zs)=>show Fh (fun c=>P c\/w.heap.size<=c) W w.heap.size (.mk kd tx ((G1 g yv (gs.zip (xs.map (·.2)))).map (·.1)) ((G1 g yv (gs.zip (xs.map (·.2)))).map (·.2)))from by
     have e:=Xo (fun z:Nat × SV=>z.2) g (yb,yv) zs
     rw[HZ.o,<-e,<-ho]
     have hl:out.length=zs.length+1:=by rw[ho,Ve]
     have:=Ml.done (Q:=fun c=>P c\/w.heap.size<=c) (zs:=out.map (·.2)) (by rw[List.map_map];exact hO) (by simp;omega) (by simp;omega) (fun c hc=>.inr hc) (fun x hx=>by
      obtain⟨z,hz,rfl⟩:=List.mem_map.1 hx
      rw[ho]at hz
      rcases Zk hz with rfl|hz
      ·exact(Hy.o.after hB).mono fun c h _=>.inl h
      exact((Hks.o z.2 (by rw[<-Hz2.o];exact List.mem_map_of_mem hz)).after hB).mono fun c h _=>.inl h)
     rw[List.map_map,List.map_map]
     rw[List.map_map]at this
     exact this)
    cases dn with
    |true=>
     have Ho:=Aa HI.o.fin'
     go_wp2_with fail
     refine bodyPost_ret (v:=.pointer (some ⟨w.heap.size,0,none⟩)) (by simp[results,results84,go_sem]) rfl ?_
     exact⟨_,rfl,HB.o,Hfin.o _ _ _ _ HB.o HO.o Ho.o⟩
    |false=>
     have Ho:=Aa HI.o.fin
     have o2:=HO.o.c2
     have ol:=HO.o.lt
     have ok2:=HO.o.bk.live 2
     go_upto_region 15 with(at_builtin;go_loud (refine Dg _ rfl _ _ 65 rfl (w.heap.size+1) 3 (.int .i64 0) 8 underlying65 Xx rfl wr (.int .i64 (g:Int)) rfl rfl (.slice A2' out.length c2') out.length (B6 (out.map (·.1))) rfl rfl (by simpa using HO.o.tags) (by unfold maxLen;omega) (by omega) HO.o.sz ?_;intro v7 w7 hown7 hg7 _;obtain⟨A7,c7,e7,hO7,hb7⟩:=Ml.pushT (g:=g) (m:=out.length) (by simp) HO.o (by simpa using hown7) hg7;subst e7;have HO7:=Aa hO7;have HB7:=Aa hb7;have o2:=hO7.c2;have ol:=hO7.lt;have ok2:=hO7.bk.live 2;clear hown7 hg7 hO7 hb7))
     generalize hwg:World.setCell _ _ _=w8
     have HO8:=Aa (show Ml (w.heap.size+1) w.heap.size w8 _ _ _ _ _ _ _ _ from by rw[<-hwg];exact HO7.o.set2)
     have HB8:=Aa (show Below w.heap.size w w8 from by rw[<-hwg];exact(HB.o.trans (HB7.o.mono (As _))).setCell (p:=⟨w.heap.size,2,none⟩) (As _) _)
     clear hwg o2 ol ok2 HO7 HB7
     have o3:=HO8.o.c3
     have ol:=HO8.o.lt
     have ok2:=HO8.o.bk.live 3
     go_wp2_with (at_builtin;go_loud (refine Dg _ rfl _ _ 66 rfl (w.heap.size+1) 31 (.pointer none) 8 underlying66 Qf rfl w8 (.pointer (some ⟨yb,0,none⟩)) rfl rfl (.slice A3' out.length c3') out.length (Cy (out.map (·.2.1))) rfl rfl (by simpa using HO8.o.row) (by unfold maxLen;omega) (by omega) HO8.o.sz ?_;intro v7 w7 hown7 hg7 _;obtain⟨A9,c9,e9,hO9,hb9⟩:=Ml.pushK (p:=yb) (m:=out.length) (by simp) HO8.o (by simpa using hown7) hg7;subst e9;have HO9:=Aa hO9;have HB9:=Aa hb9;have o3:=hO9.c3;have ol:=hO9.lt;have ok2:=hO9.bk.live 3;clear hown7 hg7 hO9 hb9))
     generalize hwg:World.setCell _ _ _=wA
     have HOA:=Aa (show Ml (w.heap.size+1) w.heap.size wA _ _ _ _ _ _ _ _ from by rw[<-hwg];exact HO9.o.set3)
     have HBA:=Aa (show Below w.heap.size w wA from by rw[<-hwg];exact(HB8.o.trans (HB9.o.mono (As _))).setCell (p:=⟨w.heap.size,3,none⟩) (As _) _)
     clear hwg o3 ol ok2 HO9 HB9
     refine bodyPost_ret (v:=.pointer (some ⟨w.heap.size,0,none⟩)) (by simp[results,results84,go_sem]) rfl ?_
     exact⟨_,rfl,HBA.o,Hfin.o (out++[(g,(yb,yv))]) _ _ _ HBA.o (by simpa using HOA.o) Ho.o⟩
def rcN(S:List Ty)(K:Kd->List UInt8->Option (Vl × List UInt8))(t:UInt8)(fs:List Fd)(s:List UInt8):Option (Vl × List UInt8):=match Ae 123 s with
 |none=>none
 |some r=>if t=85 then(match Cu K fs r with
   |none=>none
   |some (p,q)=>match Ae 125 q with|some z=>some (.mk 85 [] p.1.tag [p.2],z)|none=>none)
  else match Ae 125 r with
   |some q=>some (.mk 82 [] 0 [],q)
   |none=>match C9 K fs 1000 [] r with|some (ps,q)=>some (.mk 82 [] 0 ((Fg S ps).map Cw),q)|none=>none
theorem Qgt(S:List Ty)(ps:List (Fd × Vl)):(Fg S ps).length<=ps.length:=by
 refine Pd (P:=fun ps=>(Fg S ps).length<=ps.length) (As _) (fun l x ih=>?_) ps
 rw[Gx,List.length_append,List.length_singleton]
 unfold Qu
 split
 ·omega
 rw[(Gu x _).length_eq,List.length_cons];omega
theorem Qif{S:List Ty}{k:Kd}{kb:List UInt8}{fs:List Fd}{a:List (Fd × Vl)}{f:Fd}{v:Vl}(hsv:∀ps:List (Fd × Vl),(∀p∈ps,p.1∈fs)->Cd S k (.mk 82 [] 0 (ps.map Cw))=.mk kb [82] (ps.map fun p=>p.1.tag) (ps.map fun p=>Cd S p.1.kind p.2))(ha:∀p∈a,p.1∈fs)(hf:f∈fs):
  SV.mk kb [82] ((G1 f.tag (Cd S f.kind v) ((a.map fun p=>p.1.tag).zip (a.map fun p=>Cd S p.1.kind p.2))).map (·.1)) ((G1 f.tag (Cd S f.kind v) ((a.map fun p=>p.1.tag).zip (a.map fun p=>Cd S p.1.kind p.2))).map (·.2))=Cd S k (.mk 82 [] 0 ((Ql (f,v) a).map Cw)):=by
 rw[hsv _ (fun p hp=>by
  rcases List.mem_cons.1 ((Gu (f,v) a).mem_iff.1 hp)with rfl|hp
  ·exact hf
  exact ha p hp),List.zip_map',<-Qa0 (fun p:Fd × Vl=>Cd S p.1.kind p.2) (f,v) a,List.map_map,List.map_map]
 rfl
structure PkH(w0:World)(xv:Value)(S:List Ty)(k:Kd)(R:Kd->List UInt8->Option (Vl × List UInt8))(st nm fv:Value)(fs:List Fd)(d:Int):Prop where
 fd:Fc w0 fv fs
 rd:∀f∈fs,∀(s:List UInt8) W,Below w0.heap.size w0 W->s.length<=600->Calls prog 20 #[.agg #[xv],.string ⟨s.toArray⟩,.string ⟨(Bi f.kind).toArray⟩,.int .i64 d] W (At S f.kind (R f.kind s) W)
 len:∀f∈fs,∀s v r,R f.kind s=some (v,r)->r.length<s.length
 outp:∀f∈fs,∀(s:List UInt8) v r (P:Nat->Prop) (b:Nat) W,s.length<=600->R f.kind s=some (v,r)->Fh P W b (Cd S f.kind v)->Calls prog 22 #[.pointer (some ⟨b,0,none⟩)] W (E8 (Au v) W)
 sta:∀f∈fs,∀W,Below w0.heap.size w0 W->Calls prog 83 #[xv,.agg #[.int .i64 (f.tag:Int),.string ⟨f.name.toArray⟩,.string ⟨(Bi f.kind).toArray⟩,.string ⟨f.given.toArray⟩]] W (Fp (Kn S f) W)
 sv:∀ps:List (Fd × Vl),(∀p∈ps,p.1∈fs)->Cd S k (.mk 82 [] 0 (ps.map Cw))=.mk (Bi k) [82] (ps.map fun p=>p.1.tag) (ps.map fun p=>Cd S p.1.kind p.2)
 svu:∀f∈fs,∀v,Cd S k (.mk 85 [] f.tag [v])=.mk (Bi k) [85] [f.tag] [Cd S f.kind v]
 few:∀f∈fs,f.tag<=200/\(Bi f.kind).length<=100/\f.name.length<=100
 inj:∀f∈fs,∀g∈fs,f.name=g.name\/f.tag=g.tag->f=g
structure S1(w:World)(xv y0 y1 y2:Value)(S:List Ty)(k:Kd)(wr:World)(b:Nat)(mv:Value)(ps:List (Fd × Vl))(ns:List (List UInt8)):Prop where
 bel:Below w.heap.size w wr
 lt:w.heap.size+2<=wr.heap.size
 box:wr.cell? ⟨w.heap.size,0,none⟩=some xv
 b0:wr.cell? ⟨w.heap.size+1,0,none⟩=some y0
 b1:wr.cell? ⟨w.heap.size+1,1,none⟩=some y1
 b2:wr.cell? ⟨w.heap.size+1,2,none⟩=some y2
 val:Fh (fun c=>w.heap.size+2<=c/\mv.ownBlock≠some c) wr b (Cd S k (.mk 82 [] 0 ((Fg S ps).map Cw)))
 met:wr.ownsRow (w.heap.size+2) 9 1 mv ns.length (Br ns)
section
variable {w wr W:World} {xv y0 y1 y2 mv mv':Value} {S:List Ty} {k:Kd} {b b':Nat} {ps ps':List (Fd × Vl)} {ns:List (List UInt8)} {nm:List UInt8}
theorem S1.after(h:S1 w xv y0 y1 y2 S k wr b mv ps ns)(hb:Below wr.heap.size wr W):S1 w xv y0 y1 y2 S k W b mv ps ns:=by
 have hlt:=h.lt
 have hc:∀b o,b<w.heap.size+2->W.cell? ⟨b,o,none⟩=wr.cell? ⟨b,o,none⟩:=fun b o hb'=>hb.cell (p:=⟨b,o,none⟩) (show b<wr.heap.size by omega)
 exact⟨h.bel.trans (hb.mono h.bel.size),Nat.le_trans h.lt hb.size,(hc _ _ (by omega)).trans h.box,(hc _ _ (by omega)).trans h.b0,(hc _ _ (by omega)).trans h.b1,(hc _ _ (by omega)).trans h.b2,h.val.after hb,Bm h.met hb⟩
theorem S1.push(h:S1 w xv y0 y1 y2 S k wr b mv ps ns)(hown:W.ownsRow (w.heap.size+2) 9 1 mv' (ns.length+1) (Br ns++[.string ⟨nm.toArray⟩]))(hg:wr.grownBy W mv.ownBlock)(hwh:mv'.ownBlock=mv.ownBlock\/∃k,mv'.ownBlock=some k/\wr.heap.size<=k):
  S1 w xv y0 y1 y2 S k W b mv' ps (ns++[nm]):=by
 have hf:∀c,c<w.heap.size+2->some c≠mv.ownBlock:=fun c hc e=>by have:=(h.met.lt c e.symm).1;omega
 refine⟨h.bel.grown hg (by have:=h.lt;omega) (fun k hk=>by have:=(h.met.lt k hk).1;omega),Nat.le_trans h.lt hg.size,hg.cell h.box (hf _ (by show w.heap.size<_;omega)),hg.cell h.b0 (hf _ (by show w.heap.size+1<_;omega)),hg.cell h.b1 (hf _ (by show w.heap.size+1<_;omega)),hg.cell h.b2 (hf _ (by show w.heap.size+1<_;omega)),?_,by simpa [Br]using hown⟩
 refine h.val.kept (fun b o v hb _ hv=>hg.cell hv fun e=>hb.2 e.symm) hg.size fun c hc hl=>⟨hc.1,?_⟩
 rcases hwh with e|⟨k,e,hk⟩
 ·rw[e];exact hc.2
 rw[e];intro e;injection e with e;omega
theorem S1.turn(h:S1 w xv y0 y1 y2 S k wr b mv ps ns)(hv:Fh (fun c=>w.heap.size+2<=c/\mv.ownBlock≠some c) wr b' (Cd S k (.mk 82 [] 0 ((Fg S ps').map Cw)))):S1 w xv y0 y1 y2 S k wr b' mv ps' ns:=
 ⟨h.bel,h.lt,h.box,h.b0,h.b1,h.b2,hv,h.met⟩
end
theorem Qhw{w:World}{base n:Nat}{e:TypeId}{v:Value}{xs:List Value}(h:w.ownsRow base e 1 v (n+1) xs):∃A c,v=.slice A (n+1) c:=by
 rcases h.2 with⟨e0,h0⟩|⟨g9,cap,cur,e1,_⟩
 ·omega
 exact⟨_,_,e1⟩
structure Py(W1:World)(vk vt x3 x5:Value)(l3 l5 l6 l7 l10:Bool)(u3 u5 u6 u7 u10:Value)(W:World):Prop where
 be:Below W1.heap.size W1 W
 s3:l3=true->∃B,u3=.slice (some ⟨B,0,none⟩) 1 1/\W1.heap.size<=B/\B<W.heap.size/\W.cell? ⟨B,0,none⟩=some x3
 s5:l5=true->∃B,u5=.slice (some ⟨B,0,none⟩) 1 1/\W1.heap.size<=B/\B<W.heap.size/\W.cell? ⟨B,0,none⟩=some x5
 s6:l6=true->u6=.agg #[vk,vt,u3,u5]/\l3=true/\l5=true
 s7:l7=true->l6=true/\∃B,u7=.pointer (some ⟨B,0,none⟩)/\W1.heap.size<=B/\B<W.heap.size/\W.cell? ⟨B,0,none⟩=some vk/\W.cell? ⟨B,1,none⟩=some vt/\W.cell? ⟨B,2,none⟩=some u3/\W.cell? ⟨B,3,none⟩=some u5
 s10:l10=true->u10=u7/\l7=true
section
variable {W1 W W':World} {vk vt x3 x5 u3 u5 u6 u7 u10:Value} {l3 l5 l6 l7 l10:Bool}
theorem Py.after(h:Py W1 vk vt x3 x5 l3 l5 l6 l7 l10 u3 u5 u6 u7 u10 W)(hb:Below W.heap.size W W'):Py W1 vk vt x3 x5 l3 l5 l6 l7 l10 u3 u5 u6 u7 u10 W':=by
 have hc:∀b o,b<W.heap.size->W'.cell? ⟨b,o,none⟩=W.cell? ⟨b,o,none⟩:=fun b o hb'=>hb.cell (p:=⟨b,o,none⟩) hb'
 refine⟨h.be.trans (hb.mono h.be.size),fun e=>?_,fun e=>?_,h.s6,fun e=>?_,h.s10⟩
 ·obtain⟨B,e1,e2,e3,e4⟩:=h.s3 e;exact⟨B,e1,e2,Nat.lt_of_lt_of_le e3 hb.size,(hc _ _ e3).trans e4⟩
 ·obtain⟨B,e1,e2,e3,e4⟩:=h.s5 e;exact⟨B,e1,e2,Nat.lt_of_lt_of_le e3 hb.size,(hc _ _ e3).trans e4⟩
 obtain⟨e0,B,e1,e2,e3,e4,e5,e6,e7⟩:=h.s7 e;exact⟨e0,B,e1,e2,Nat.lt_of_lt_of_le e3 hb.size,(hc _ _ e3).trans e4,(hc _ _ e3).trans e5,(hc _ _ e3).trans e6,(hc _ _ e3).trans e7⟩
theorem Py.start:Py W1 vk vt x3 x5 false false false false false u3 u5 u6 u7 u10 W1.drew:=
 ⟨(Ay _ _).drew,fun h=>Bool.noConfusion h,fun h=>Bool.noConfusion h,fun h=>Bool.noConfusion h,fun h=>Bool.noConfusion h,fun h=>Bool.noConfusion h⟩
theorem Py.no3(h:Py W1 vk vt x3 x5 l3 l5 l6 l7 l10 u3 u5 u6 u7 u10 W)(e:l3=false\/l5=false\/l6=false):l6=false/\l7=false:=by
 have h6:l6=false:=by
  cases l6 with
  |false=>rfl
  |true=>
   obtain⟨_,a,b⟩:=h.s6 rfl
   subst a b
   rcases e with e|e|e<;>cases e
 refine⟨h6,?_⟩
 cases l7 with
 |false=>rfl
 |true=>exact absurd (h6.symm.trans (h.s7 rfl).1) (by decide)
theorem Py.put3(h:Py W1 vk vt x3 x5 false l5 l6 l7 l10 u3 u5 u6 u7 u10 W)(T:TypeId):Py W1 vk vt x3 x5 true l5 l6 l7 l10 (.slice (some ⟨W.heap.size,0,none⟩) 1 1) u5 u6 u7 u10 (W.alloc (.cells #[x3] T)):=by
 obtain⟨h6,h7⟩:=h.no3 (.inl rfl)
 subst h6 h7
 have ha:=h.after ((Ay _ _).alloc (As _) (.cells #[x3] T))
 exact⟨ha.be,fun _=>⟨_,rfl,h.be.size,by simp,by simp[go_sem]⟩,ha.s5,fun h=>Bool.noConfusion h,fun h=>Bool.noConfusion h,fun e=>absurd (ha.s10 e).2 (by decide)⟩
theorem Py.put5(h:Py W1 vk vt x3 x5 l3 false l6 l7 l10 u3 u5 u6 u7 u10 W)(T:TypeId):Py W1 vk vt x3 x5 l3 true l6 l7 l10 u3 (.slice (some ⟨W.heap.size,0,none⟩) 1 1) u6 u7 u10 (W.alloc (.cells #[x5] T)):=by
 obtain⟨h6,h7⟩:=h.no3 (.inr (.inl rfl))
 subst h6 h7
 have ha:=h.after ((Ay _ _).alloc (As _) (.cells #[x5] T))
 exact⟨ha.be,ha.s3,fun _=>⟨_,rfl,h.be.size,by simp,by simp[go_sem]⟩,fun h=>Bool.noConfusion h,fun h=>Bool.noConfusion h,fun e=>absurd (ha.s10 e).2 (by decide)⟩
theorem Py.put6(h:Py W1 vk vt x3 x5 l3 l5 false l7 l10 u3 u5 u6 u7 u10 W)(h3:l3=true)(h5:l5=true):Py W1 vk vt x3 x5 l3 l5 true l7 l10 u3 u5 (.agg #[vk,vt,u3,u5]) u7 u10 W:=by
 obtain⟨_,h7⟩:=h.no3 (.inr (.inr rfl))
 subst h7
 exact⟨h.be,h.s3,h.s5,fun _=>⟨rfl,h3,h5⟩,fun h=>Bool.noConfusion h,h.s10⟩
theorem Py.put7(h:Py W1 vk vt x3 x5 l3 l5 l6 false l10 u3 u5 u6 u7 u10 W)(h6:l6=true)(T:TypeId):Py W1 vk vt x3 x5 l3 l5 l6 true l10 u3 u5 u6 (.pointer (some ⟨W.heap.size,0,none⟩)) u10 (W.alloc (.cells #[vk,vt,u3,u5] T)):=by
 have ha:=h.after ((Ay _ _).alloc (As _) (.cells #[vk,vt,u3,u5] T))
 exact⟨ha.be,ha.s3,ha.s5,ha.s6,fun _=>⟨h6,_,rfl,h.be.size,by simp,by simp[go_sem],by simp[go_sem],by simp[go_sem],by simp[go_sem]⟩,fun e=>absurd (ha.s10 e).2 (by decide)⟩
theorem Py.put10(h:Py W1 vk vt x3 x5 l3 l5 l6 l7 l10 u3 u5 u6 u7 u10 W)(h7:l7=true):Py W1 vk vt x3 x5 l3 l5 l6 l7 true u3 u5 u6 u7 u7 W:=⟨h.be,h.s3,h.s5,h.s6,h.s7,fun _=>⟨rfl,h7⟩⟩
theorem Py.at_{kind text:List UInt8}{g b:Nat}{sv:SV}{P:Nat->Prop}(h:Py W1 (.string ⟨kind.toArray⟩) (.string ⟨text.toArray⟩) (.int .i64 (g:Int)) (.pointer (some ⟨b,0,none⟩)) l3 l5 l6 l7 l10 u3 u5 u6 u7 u10 W)(h10:l10=true)(hP:∀c,W1.heap.size<=c->P c)(hs:Fh P W1 b sv):
  ∃B,u10=.pointer (some ⟨B,0,none⟩)/\Fh P W B (.mk kind text [g] [sv]):=by
 obtain⟨e10,h7⟩:=h.s10 h10
 obtain⟨h6,B,e1,e2,e3,e4,e5,e6,e7⟩:=h.s7 h7
 obtain⟨_,h3,h5⟩:=h.s6 h6
 obtain⟨B3,f1,f2,f3,f4⟩:=h.s3 h3
 obtain⟨B5,g1,g2,g3,g4⟩:=h.s5 h5
 refine⟨B,e10.trans e1,?_⟩
 rw[f1]at e6
 rw[g1]at e7
 refine .mk kind text [g] (some ⟨B3,0,none⟩) (some ⟨B5,0,none⟩) 1 1 [(b,sv)] rfl e3 (hP _ e2) e4 e5 e6 e7 ⟨by simp[B6],by simp[maxLen],fun _=>⟨B3,0,rfl,f3,fun j u hu=>?_⟩⟩ ⟨by simp[Cy],by simp[maxLen],fun _=>⟨B5,0,rfl,g3,fun j u hu=>?_⟩⟩ (by simp) (by simp) (fun g o _ e=>?_) (fun g o _ e=>?_) (fun x hx=>?_)
 ·match j,hu with
  |0,hu=>simp[B6]at hu;subst hu;simpa using f4
  |j+1,hu=>simp[B6]at hu
 ·match j,hu with
  |0,hu=>simp[Cy]at hu;subst hu;simpa using g4
  |j+1,hu=>simp[Cy]at hu
 ·injection e with e;injection e with e;subst e;exact hP _ f2
 ·injection e with e;injection e with e;subst e;exact hP _ g2
 simp at hx;subst hx;exact hs.after h.be
end
theorem S2(w0:World)(xv:Value)(hxv:xv.oneCell'=true)(S:List Ty)(k:Kd)(hkl:(Bi k).length<=100)(R:Kd->List UInt8->Option (Vl × List UInt8))(st:UInt8)(hst:st=82\/st=85)(nm:List UInt8)(A9:Option Addr)(c9:Nat)(fs:List Fd)(d:Nat)(hd:d<=1000)
  (HR0:PkH w0 xv S k R (.int .u8 (st.toNat:Int)) (.string ⟨nm.toArray⟩) (.slice A9 fs.length c9) fs (d:Int)) (c0:UInt8) (s:List UInt8) (w:World) (hw:Below w0.heap.size w0 w) (hs:s.length<=599) (q:Option (Vl × List UInt8)) (hq:q=rcN S R st fs (c0::s)):
  Calls prog 49 #[.agg #[xv],.string ⟨(c0::s).toArray⟩,.string ⟨(Bi k).toArray⟩,.agg #[.int .u8 (st.toNat:Int),.string ⟨nm.toArray⟩,.slice A9 fs.length c9],.int .i64 ((d+1:Nat):Int)] w (At S k q w):=by
 have HH:=Aa HR0
 have HQ:=Aa hq
 have HW:=Aa hw
 have Hkb:=Aa (rfl:Bi k=Bi k)
 generalize hkb:Bi k=kb at *
 have HKB:=Aa hkb
 have d1:(((d+1:Nat):Int)) - 1=(d:Int):=by omega
 have d4:(0:Int)<=(d:Int):=by omega
 have d5:(d:Int)<=1000:=by omega
 have hwd:IntKind.i64.wrap (d:Int)=(d:Int):=IntWalk.i64_in _ (by omega)
 generalize (((d+1:Nat):Int))=dd at *
 obtain⟨bR,hbR⟩:∃bR,((st.toNat:Int) == 82)=bR:=⟨_,rfl⟩
 obtain⟨bU,hbU⟩:∃bU,((st.toNat:Int) == 85)=bU:=⟨_,rfl⟩
 have HST:=Aa (show (bR=true/\bU=false/\st=82)\/(bR=false/\bU=true/\st=85)from by
  rcases hst with rfl|rfl
  ·exact .inl ⟨hbR.symm,hbU.symm,rfl⟩
  exact .inr ⟨hbR.symm,hbU.symm,rfl⟩)
 clear HR0 hw hq hst Hkb hkb
 by_cases hE:c0=123/\st=82/\∃z,s=125::z
 ·obtain⟨rfl,h82,z,rfl⟩:=hE
  have HN:=Aa (show q=some (.mk 82 [] 0 [],z)from by rw[HQ.o,h82];simp[rcN,Ae])
  have hb:bR=true:=by rw[<-hbR,h82];rfl
  subst hb
  clear h82
  go_enter func49,ntmps49
  go_wp2_with fail
  go_quiet (fail)
  go_wp2_with fail
  refine bodyPost_ret (v:=.tuple #[.pointer (some ⟨w.heap.size+2,0,none⟩),.string ⟨z.toArray⟩,.bool true]) (by simp[results,results49,go_sem]) rfl ?_
  rw[HN.o]
  have hl:=Fh.leaf (P:=fun c=>w.heap.size<=c) (w:=(w.alloc (.cells #[xv] 35)).alloc (.cells #[.int .u8 (st.toNat:Int),.string ⟨nm.toArray⟩,.slice A9 fs.length c9] 95)) (kind:=kb) (text:=[82]) (T:=68) (by simp;omega)
  refine⟨⟨w.heap.size+2,rfl,?_⟩,below_drewN (((((Ay w.heap.size w).alloc (As _) _).alloc (by simp) _).alloc (by simp;omega) _).alloc (by simp;omega) _) _⟩
  rw[show (Vl.mk 82 [] 0 [])=.mk 82 [] 0 (([]:List (Fd × Vl)).map Cw)from rfl,HH.o.sv [] (by simp),HKB.o]
  have hl2:Fh (fun c=>w.heap.size<=c) (((w.alloc (.cells #[xv] 35)).alloc (.cells #[.int .u8 (st.toNat:Int),.string ⟨nm.toArray⟩,.slice A9 fs.length c9] 95)).alloc (.cells #[.string ⟨kb.toArray⟩,.string ⟨#[82]⟩,.slice none 0 0,.slice none 0 0] 68)) (w.heap.size+2) (.mk kb [82] [] []):=by simpa using hl
  exact(hl2.after ((Ay _ _).alloc (As _) _)).after (below_drewN (Ay _ _) _)
 obtain⟨W2,hW2⟩:∃W2,W2=(((w.alloc (.cells #[xv] 35)).alloc (.cells #[.int .u8 (st.toNat:Int),.string ⟨nm.toArray⟩,.slice A9 fs.length c9] 95)).alloc (.cells #[.string ⟨kb.toArray⟩,.string ⟨#[82]⟩,.slice none 0 0,.slice none 0 0] 68)).alloc (.cells #[] 9):=⟨_,rfl⟩
 have hb2:Below w.heap.size w W2:=by rw[hW2];exact((((Ay w.heap.size w).alloc (As _) _).alloc (by simp) _).alloc (by simp;omega) _).alloc (by simp;omega) _
 have z0:W2.cell? ⟨w.heap.size+1,0,none⟩=some (.int .u8 (st.toNat:Int)):=by rw[hW2];simp[go_sem]
 have hz2:W2.heap.size=w.heap.size+4:=by rw[hW2];simp
 have L0:=Aa (show S1 w xv (.int .u8 (st.toNat:Int)) (.string ⟨nm.toArray⟩) (.slice A9 fs.length c9) S k W2 (w.heap.size+2) (.slice (some ⟨w.heap.size+3,0,none⟩) 0 0) [] []from by
  refine⟨hb2,by omega,by rw[hW2];simp[go_sem],z0,by rw[hW2];simp[go_sem],by rw[hW2];simp[go_sem],?_,?_⟩
  ·have hl:=Fh.leaf (P:=fun c=>w.heap.size+2=c) (w:=(w.alloc (.cells #[xv] 35)).alloc (.cells #[.int .u8 (st.toNat:Int),.string ⟨nm.toArray⟩,.slice A9 fs.length c9] 95)) (kind:=kb) (text:=[82]) (T:=68) (by simp)
   rw[show (Fg S [])=[]from rfl,HH.o.sv [] (by simp),HKB.o]
   have hl2:=(hl.after ((Ay _ _).alloc (As _) (.cells #[] 9))).mono (Q:=fun c=>w.heap.size+2<=c/\(Value.slice (some ⟨w.heap.size+3,0,none⟩) 0 0).ownBlock≠some c) fun c hc _=>⟨by omega,by subst hc;simp[Value.ownBlock]⟩
   rw[hW2]
   simpa using hl2
  have:=Qdo (((w.alloc (.cells #[xv] 35)).alloc (.cells #[.int .u8 (st.toNat:Int),.string ⟨nm.toArray⟩,.slice A9 fs.length c9] 95)).alloc (.cells #[.string ⟨kb.toArray⟩,.string ⟨#[82]⟩,.slice none 0 0,.slice none 0 0] 68)) 9 (w.heap.size+2) (by simp)
  rw[hW2]
  simpa [Br]using this)
 have HW2:=Aa hW2
 have hl1:w.heap.size+1<W2.heap.size:=by omega
 clear hW2 hz2
 go_enter func49,ntmps49
 go_upto_region 3 with fail
 rw[<-HW2.o]
 clear HW2
 go_cut [40]from 24 to 47 (fun bt wx=>bt=.bool false/\wx=W2)
 case first=>
  cases s with
  |nil=>
   go_wp2_with fail
   go_meet
   exact⟨rfl,rfl⟩
  |cons c z=>
   obtain⟨t1,ht1⟩:∃t1,([c0,c] == ([123,125]:List UInt8))=t1:=⟨_,rfl⟩
   have t2:(2:Int)<=(z.length:Int)+1+1:=by omega
   have hb:t1=true->bR=false:=fun h=>by
    rw[h]at ht1
    simp at ht1
    rcases HST.o with⟨_,_,h2⟩|⟨h1,_⟩
    ·exact absurd ⟨ht1.1,h2,z,by rw[ht1.2]⟩ hE
    exact h1
   clear hE
   cases t1 with
   |false=>
    clear hb
    go_wp2_with fail
    go_meet
    exact⟨rfl,rfl⟩
   |true=>
    have hb:=hb rfl
    subst hb
    go_wp2_with fail
    go_meet
    exact⟨rfl,rfl⟩
 case rest=>
  obtain⟨rfl,rfl⟩:=hcut
  by_cases hc:c0=123
  ·subst hc
   have HQ2:=Aa (show q=if st=85 then(match Cu R fs s with
     |none=>none
     |some (p,q)=>match Ae 125 q with|some z=>some (.mk 85 [] p.1.tag [p.2],z)|none=>none)
    else match C9 R fs 1000 [] s with|some (ps,q)=>some (.mk 82 [] 0 ((Fg S ps).map Cw),q)|none=>none from by
    rw[HQ.o]
    unfold rcN
    rw[Aq]
    simp only
    by_cases h85:st=85
    ·rw[if_pos h85,if_pos h85]
     try rfl
    rw[if_neg h85,if_neg h85]
    have h82:st=82:=by
     rcases HST.o with⟨_,_,h⟩|⟨_,_,h⟩
     ·exact h
     exact absurd h h85
    cases s with
    |nil=>rfl
    |cons c z=>rw[Bl (fun e=>hE ⟨rfl,h82,z,by rw[e]⟩)];try rfl)
   clear hE z0 hb2 hl1
   go_wp2_with fail
   go_loopw [1,13,14] (fun s1 s13 s14 wr=>∃(c1:UInt8) (b:Nat) (A:Option Addr) (n c:Nat) (ps:List (Fd × Vl)) (tt:List UInt8),s1=.string ⟨(c1::tt).toArray⟩/\s13=.pointer (some ⟨b,0,none⟩)/\s14=.slice A n c/\tt.length<=s.length/\Hid (S1 w xv (.int .u8 (st.toNat:Int)) (.string ⟨nm.toArray⟩) (.slice A9 fs.length c9) S k wr b (.slice A n c) ps (ps.map fun p=>p.1.name)/\Sz S R fs s ps tt/\(st=85->ps=[]/\tt=s))) (fun s1 _ _ _=>J6 s1)
   case atStart=>exact⟨123,_,_,0,0,[],s,rfl,rfl,rfl,As _,L0.o,Sz.init,fun _=>⟨rfl,rfl⟩⟩
   case round=>
    obtain⟨c1,b,A,n0,c,ps,tt,rfl,rfl,rfl,htl,HLU⟩:=hrel
    have HL:=Aa HLU.o.1
    have HFR:=Aa HLU.o.2.1
    have HU:=Aa HLU.o.2.2
    clear L0 HLU
    have p0:=HL.o.box
    have y0:=HL.o.b0
    have y1:=HL.o.b1
    have y2:=HL.o.b2
    have hlt:=HL.o.lt
    have hl0:w.heap.size<wr.heap.size:=by omega
    have hl1:w.heap.size+1<wr.heap.size:=by omega
    have HWr:=Aa (show Below w0.heap.size w0 wr from HW.o.trans (HL.o.bel.mono HW.o.size))
    have hne:n0=ps.length:=by simpa using Qay HL.o.met
    subst hne
    have hpl:ps.length<=599:=by have:=HFR.o.le;omega
    obtain⟨hw1,hw2,hw3⟩:=J0 Ao tt
    have Hwd:=Aa (fun W=>Vx tt W (by omega))
    obtain⟨n,hn⟩:∃n,n=(tt.takeWhile Ao).length:=⟨_,rfl⟩
    rw[<-hn]at Hwd hw3
    have e1:tt.take n=tt.takeWhile Ao:=by rw[hn];exact hw1
    have HX:=Aa (fun W (hW:Below wr.heap.size wr W)=>Vd (.int .u8 (st.toNat:Int)) (.string ⟨nm.toArray⟩) (.slice A9 fs.length c9) fs (tt.takeWhile Ao) W (HH.o.fd.below (HWr.o.trans (hW.mono HWr.o.size))))
    obtain⟨o,ho⟩:∃o,Cx fs (tt.takeWhile Ao)=o:=⟨_,rfl⟩
    have Ho:=Aa ho
    rw[ho]at HX
    obtain⟨fn,fa,fb,fc,e9,h9⟩:=Y8 o
    have H9:=Aa h9
    rw[e9]at HX
    clear h9 e9 ho
    have n1:(n:Int)<=(tt.length:Int):=by omega
    have n2:(0:Int)<=(n:Int):=by omega
    have n3:IntKind.i64.wrap (1+(n:Int))=1+(n:Int):=IntWalk.i64_in _ (by omega)
    have n4:(0:Int)<=1+(n:Int):=by omega
    have n5:1+(n:Int)<=(tt.length:Int)+1:=by omega
    have n6:(1:Int)<=1+(n:Int):=by omega
    have n7:(1+(n:Int)).toNat - 1=n:=by omega
    have n8:(1+(n:Int)).toNat=n+1:=by omega
    have n9:(1+n) - 1=n:=by omega
    have e2:tt.drop n=tt.dropWhile Ao:=by rw[hn];exact hw2
    have e3:(tt.dropWhile Ao).take (tt.length - n)=tt.dropWhile Ao:=by rw[<-e2];exact List.take_of_length_le (by simp)
    have hdl:(tt.dropWhile Ao).length<=tt.length:=by rw[<-e2];simp
    obtain⟨nl,hnl⟩:∃nl,nl=tt.takeWhile Ao:=⟨_,rfl⟩
    obtain⟨rs,hrs⟩:∃rs,rs=tt.dropWhile Ao:=⟨_,rfl⟩
    rw[<-hnl]at e1 HX Ho
    rw[<-hrs]at e2 e3 hdl
    have Hnl:=Aa hnl
    have Hrs:=Aa hrs
    clear hn hw1 hw2 hnl hrs
    go_wp2_with fail
    refine(Hwd.o _).mono ?_
    rintro e w1 ⟨rfl,rfl⟩
    go_wp2_with fail
    refine(HX.o _ (Ay _ _)).mono ?_
    rintro e w2 ⟨rfl,hb2⟩
    have HL2:=Aa (HL.o.after hb2)
    have HW2:=Aa (HWr.o.trans (hb2.mono HWr.o.size))
    clear hb2 HX HL HWr p0 y0 y1 y2
    go_wp2_with fail
    obtain⟨W3,hW3⟩:∃W3,W3=w2.alloc (.cells #[.int .i64 (fn:Int),.string ⟨fa.toArray⟩,.string ⟨fb.toArray⟩,.string ⟨fc.toArray⟩] 118):=⟨_,rfl⟩
    have hb3:Below w2.heap.size w2 W3:=by rw[hW3];exact(Ay _ _).alloc (As _) _
    have HL3:=Aa (HL2.o.after hb3)
    have HW3:=Aa (HW2.o.trans (hb3.mono HW2.o.size))
    have Hrg:=Aa (show W3.rangeAt w2.heap.size 0 [.int .i64 (fn:Int),.string ⟨fa.toArray⟩,.string ⟨fb.toArray⟩,.string ⟨fc.toArray⟩]from by
     rw[hW3]
     intro j u hu
     rw[World.cell?_alloc_new]
     simpa using hu)
    have hBl:w2.heap.size<W3.heap.size:=by rw[hW3];simp
    have hBb:w.heap.size+2<=w2.heap.size:=HL2.o.lt
    have HBo:=Aa (fun g (h:(Value.slice A ps.length c).ownBlock=some g)=>(HL2.o.met.lt g h).2)
    rw[<-hW3]
    clear hb3 HL2 HW2 hW3
    generalize w2.heap.size=B at *
    obtain⟨A5,c5,e5,hr5,_⟩:=N3 (n:=ps.length) (by simpa using HL3.o.met) (by simp[Br]) (by omega)
    injection e5 with e5 _ e6
    subst e5 e6
    have Hr5:=Aa hr5
    clear hr5
    have hN1:Cu R fs tt=none->q=none:=fun h=>by
     rw[HQ2.o]
     by_cases h85:st=85
     ·obtain⟨_,h2⟩:=HU.o h85
      rw[if_pos h85,<-h2,h]
     rw[if_neg h85,HFR.o.fail (by omega) h]
    have HN1:=Aa hN1
    clear hN1
    go_loop [18,20] (fun s18 s20=>∃(m:Nat) (ok:Bool),s18=.bool ok/\s20=.int .i64 (m:Int)/\m<=ps.length/\Hid (ok=(o.isSome && decide (nl∉(ps.take m).map fun p=>p.1.name)))) (fun _ s20=>ps.length - (intOf s20).toNat)
    case atStart=>exact⟨0,o.isSome,rfl,rfl,Nat.zero_le _,Aa (by simp)⟩
    case round=>
     obtain⟨m,ok,rfl,rfl,hm,Hok⟩:=hrel
     have m1:(0:Int)<=(m:Int):=by omega
     by_cases hmt:m<ps.length
     ·have m2:(m:Int)<(ps.length:Int):=by omega
      obtain⟨b6,o6,rfl,hb6,hc6⟩:=Hr5.o.at_ hmt
      replace hc6:W3.cell? ⟨b6,o6+m,none⟩=some (.string ⟨ps[m].1.name.toArray⟩):=by simpa [Br]using hc6
      have Hts:=Aa (Bx ps m hmt)
      generalize ps[m]=pm at *
      obtain⟨be,hbe⟩:∃be,(pm.1.name == nl)=be:=⟨_,rfl⟩
      have Hok2:=Aa (show (ok && !be)=(o.isSome && decide (nl∉(ps.take (m+1)).map fun p=>p.1.name))from by
       rw[Hok.o,Hts.o,<-hbe]
       by_cases h:pm.1.name=nl
       ·simp[h]
       have h':¬nl=pm.1.name:=fun e=>h e.symm
       simp[h,h'])
      cases ok with
      |true=>
       go_wp2_with fail
       go_round
       case rel=>exact⟨m+1,!be,rfl,by go_num,by omega,by simpa using Hok2⟩
       case measure=>simp[intOf];omega
      |false=>
       go_wp2_with fail
       go_round
       case rel=>exact⟨m+1,false,rfl,by go_num,by omega,by simpa using Hok2⟩
       case measure=>simp[intOf];omega
     ·have hmp:m=ps.length:=by omega
      have Hok3:=Aa (show ok=(o.isSome && decide (nl∉ps.map fun p=>p.1.name))from by rw[Hok.o,List.take_of_length_le (by omega)])
      have m2:¬((m:Int)<(ps.length:Int)):=by omega
      clear Hok hmp
      cases ok with
      |false=>
       have HN:=Aa (show q=none from by
        cases o with
        |none=>exact HN1.o (by unfold Cu;rw[<-Hnl.o,Ho.o])
        |some f=>
         obtain⟨f1,f2⟩:=Dd Ho.o
         have hin:nl∈ps.map fun p=>p.1.name:=by
          have:=Hok3.o
          simpa using this
         obtain⟨p,hp,he⟩:=List.mem_map.1 hin
         have hpf:=HH.o.inj p.1 (HFR.o.mem p hp) f f1 (.inl (by rw[f2];exact he))
         by_cases h85:st=85
         ·have:=(HU.o h85).1
          rw[this]at hp;cases hp
         rw[HQ2.o,if_neg h85,HFR.o.dup (by omega) (by rw[<-Hnl.o];exact Ho.o) (List.mem_map.2 ⟨p,hp,by rw[hpf]⟩)])
       clear Hok3
       go_wp2_with fail
       refine bodyPost_ret (v:=.tuple #[.pointer none,.string ⟨(c1::tt:List UInt8).toArray⟩,.bool false]) (by simp[results,results49,go_sem]) rfl ?_
       exact At.no HN.o rfl HL3.o.bel
      |true=>
       obtain⟨f,rfl⟩:∃f,o=some f:=by
        cases o with
        |none=>have:=Hok3.o;simp at this
        |some f=>exact⟨f,rfl⟩
       have Hni:=Aa (show nl∉ps.map fun p=>p.1.name from by have:=Hok3.o;simpa using this)
       obtain⟨f1,f2⟩:=Dd Ho.o
       obtain⟨rfl,rfl,rfl,rfl⟩:=H9.o f rfl
       have Hf1:=Aa f1
       have Htg:=Aa (show f.tag∉ps.map fun p=>p.1.tag from fun h=>by
        obtain⟨p,hp,he⟩:=List.mem_map.1 h
        have:=HH.o.inj p.1 (HFR.o.mem p hp) f f1 (.inr he)
        exact Hni.o (List.mem_map.2 ⟨p,hp,by rw[this];exact f2⟩))
       have Hf2:=Aa f2
       have Hon:=Aa (show Cx fs (tt.takeWhile Ao)=some f from by rw[<-Hnl.o];exact Ho.o)
       obtain⟨hf3,hf4,hf5⟩:=HH.o.few f f1
       clear Hok3 f1 f2 H9
       by_cases h58:∃q1,rs=58::q1
       ·obtain⟨q1,rfl⟩:=h58
        simp only[List.length_cons]at hdl
        have Hbo:=Aa (show Ae 58 (tt.dropWhile Ao)=some q1 from by rw[<-Hrs.o];exact Aq _ _)
        go_upto_region 18 with(at_builtin;go_loud (refine Dg _ rfl _ _ 63 rfl (w.heap.size+2) 9 (.string ⟨#[]⟩) 16 underlying63 Q7 rfl W3 (.string ⟨nl.toArray⟩) rfl rfl (.slice A ps.length c) ps.length (Br (ps.map fun p=>p.1.name)) rfl rfl (by simpa using HL3.o.met) (by unfold maxLen;omega) (by omega) (by have:=HL3.o.lt;omega) ?_;intro v7 w7 hown7 hg7 hwh7;obtain⟨A7,c7,e7⟩:=Qhw hown7;subst e7;have HL7:=Aa (HL3.o.push (nm:=nl) (by simpa using hown7) hg7 hwh7);have HW7:=Aa (HW3.o.grown hg7 (by have:=HW3.o.size;omega) (fun k hk=>by have:=(HL3.o.met.lt k hk).1;have:=HW.o.size;omega));have Hr7:=Aa (Bj Hrg.o hg7 (fun e=>by have:=HBo.o _ e.symm;omega));have hB7:B<w7.heap.size:=Nat.lt_of_lt_of_le hBl hg7.size;have Hb7:=Aa (fun g (h:(Value.slice A7 (ps.length+1) c7).ownBlock=some g)=>(HL7.o.met.lt g h).2);clear hown7 hg7 hwh7))
        have p0:=HL7.o.box
        have hz7:=HL7.o.lt
        have hl0:w.heap.size<w7.heap.size:=by omega
        obtain⟨oq,hoq⟩:∃oq,R f.kind q1=oq:=⟨_,rfl⟩
        have HCR:=Aa (HH.o.rd f Hf1.o q1 w7.drew HW7.o.drew (by omega))
        rw[hoq]at HCR
        have Hoq:=Aa hoq
        have Hlen:=Aa (fun v r=>HH.o.len f Hf1.o q1 v r)
        rw[hoq]at Hlen
        obtain⟨kf,hkfe⟩:∃kf,Bi f.kind=kf:=⟨_,rfl⟩
        have Hkfe:=Aa hkfe
        rw[hkfe]at HCR hf4 Hr7
        have y2:w7.cell? ⟨B,2,none⟩=some (.string ⟨kf.toArray⟩):=by simpa using Ab Hr7.o 2 rfl
        clear hoq hkfe
        refine rgT (SrQ w7.drew S f.kind oq) 7 (fun W vp vr vk h=>h.1) ?_
        iterate 2 refine sq ?_
        refine sqS (.string ⟨q1.toArray⟩) ?_
        iterate 4 refine sq ?_
        refine sqK HCR.o ?_
        refine sqM ?_
        iterate 3 refine sqP ?_
        iterate 3 refine sqA ?_
        intro l u W hl _ hR
        obtain⟨vp,vr,vk,hq5,ua,ub,ue⟩:=RK.fin hR hl (by decide)
        simp only[Nat.reduceAdd]at ua ub ue
        simp only[ua,ub,ue]
        obtain⟨hb5,hm⟩:=hq5
        have hb8:Below w7.heap.size w7 W:=(Ay _ _).drew.trans hb5
        have HL8:=Aa (HL7.o.after hb8)
        have HW8:=Aa (HW7.o.trans (hb8.mono HW7.o.size))
        have Hr8:=Aa (Av Hr7.o hB7 hb8)
        have hB8:B<W.heap.size:=Nat.lt_of_lt_of_le hB7 hb8.size
        have hz8:=hb8.size
        clear y2 p0 hb5 hR hl ua ub ue hb8
        cases oq with
        |none=>
         obtain⟨⟨q0,rfl⟩,⟨r0,rfl⟩,rfl⟩:=hm
         have HN:=Aa (show q=none from HN1.o (by unfold Cu;rw[Hon.o];simp only;rw[Hbo.o];simp only;rw[Hoq.o]))
         go_wp2_with fail
         refine bodyPost_ret (v:=.tuple #[.pointer none,.string ⟨(c1::tt:List UInt8).toArray⟩,.bool false]) (by simp[results,results49,go_sem]) rfl ?_
         exact At.no HN.o rfl HL8.o.bel
        |some y=>
         obtain⟨v,r1⟩:=y
         obtain⟨⟨b8,rfl,hsv⟩,rfl,rfl⟩:=hm
         have hr1:=Hlen.o v r1 rfl
         have Hfl:=Aa (show Cu R fs tt=some ((f,v),r1)from by unfold Cu;rw[Hon.o];simp only;rw[Hbo.o];simp only;rw[Hoq.o])
         have Hsv:=Aa (show Fh (fun c=>w7.heap.size<=c) W b8 (Cd S f.kind v)from hsv)
         have HN3:=Aa (show Ae 125 r1=none->(st=85\/Ae 44 r1=none)->q=none from fun h1 h2=>by
          rw[HQ2.o]
          by_cases h85:st=85
          ·obtain⟨_,h4⟩:=HU.o h85
           rw[if_pos h85,<-h4,Hfl.o]
           simp only
           rw[h1]
          rw[if_neg h85,HFR.o.sep (by omega) Hon.o Hbo.o Hoq.o (h2.resolve_left h85) h1])
         clear hsv HCR
         cases r1 with
         |nil=>
          have HN:=Aa (HN3.o rfl (.inr rfl))
          go_wp2_with fail
          refine bodyPost_ret (v:=.tuple #[.pointer none,.string ⟨(c1::tt:List UInt8).toArray⟩,.bool false]) (by simp[results,results49,go_sem]) rfl ?_
          exact At.no HN.o rfl HL8.o.bel
         |cons c8 z8=>
          simp only[List.length_cons]at hr1
          have z0:=HL8.o.b0
          have hl1:w.heap.size+1<W.heap.size:=by omega
          by_cases hg:c8=125\/(c8=44/\bU=false)
          ·have hpl7:ps.length<=599:=hpl
           have t0:W.cell? ⟨B,0,none⟩=some (.int .i64 (f.tag:Int)):=by simpa using Ab Hr8.o 0 rfl
           cases hbu:bU with
           |true=>
            have h125:c8=125:=by
             rcases hg with h|⟨_,h⟩
             ·exact h
             rw[hbu]at h;cases h
            subst h125
            have h85:st=85:=by
             rcases HST.o with⟨_,h,_⟩|⟨_,_,h⟩
             ·rw[hbu]at h;cases h
             exact h
            have HY:=Aa (show q=some (.mk 85 [] f.tag [v],z8)from by
             obtain⟨_,h4⟩:=HU.o h85
             rw[HQ2.o,if_pos h85,<-h4,Hfl.o]
             simp only
             rw[Aq])
            rw[hbu]at hbU
            clear hg h85 hbu
            go_wp2_with fail
            refine Z9 (fun l u W'=>Py W (.string ⟨kb.toArray⟩) (.string ⟨#[85]⟩) (.int .i64 (f.tag:Int)) (.pointer (some ⟨b8,0,none⟩)) (l 3) (l 5) (l 6) (l 7) (l 10) (u 3) (u 5) (u 6) (u 7) (u 10) W') (Dz W) (fun _ _ _ h=>M3 h.be) Py.start ?_
            iterate 3 refine sq ?_
            refine Gy (fun _=>True) (by
             intro l u W' hl hp hF hG hi K9 hK
             have h:Py W (.string ⟨kb.toArray⟩) (.string ⟨#[85]⟩) (.int .i64 (f.tag:Int)) (.pointer (some ⟨b8,0,none⟩)) (l 3) (l 5) (l 6) (l 7) (l 10) (u 3) (u 5) (u 6) (u 7) (u 10) W':=hF.o
             rw[hl]at h
             have hn:=Aa (h.put3 3)
             simp[Region.binds,Ck]at hp
             clear h hF hG hi
             go_simp
             exact hK _ _ _ Ad hn.o (by simp[Act.put,hp])) ?_
            refine sq ?_
            refine Gy (fun _=>True) (by
             intro l u W' hl hp hF hG hi K9 hK
             have h:Py W (.string ⟨kb.toArray⟩) (.string ⟨#[85]⟩) (.int .i64 (f.tag:Int)) (.pointer (some ⟨b8,0,none⟩)) (l 3) (l 5) (l 6) (l 7) (l 10) (u 3) (u 5) (u 6) (u 7) (u 10) W':=hF.o
             rw[hl]at h
             have hn:=Aa (h.put5 31)
             simp[Region.binds,Ck]at hp
             clear h hF hG hi
             go_simp
             exact hK _ _ _ Ad hn.o (by simp[Act.put,hp])) ?_
            refine Gy (fun _=>True) (by
             intro l u W' hl hp hF hG hi K9 hK
             have h:Py W (.string ⟨kb.toArray⟩) (.string ⟨#[85]⟩) (.int .i64 (f.tag:Int)) (.pointer (some ⟨b8,0,none⟩)) (l 3) (l 5) (l 6) (l 7) (l 10) (u 3) (u 5) (u 6) (u 7) (u 10) W':=hF.o
             rw[hl]at h
             simp[Region.binds,Ck]at hp
             obtain⟨B3,e3,_⟩:=h.s3 (by simp[hp])
             obtain⟨B5,e5,_⟩:=h.s5 (by simp[hp])
             have hn:=h.put6 (by simp[hp]) (by simp[hp])
             rw[show Value.agg #[.string ⟨kb.toArray⟩,.string ⟨#[85]⟩,u 3,u 5]=.agg #[.string ⟨kb.toArray⟩,.string ⟨#[85]⟩,.slice (some ⟨B3,0,none⟩) 1 1,.slice (some ⟨B5,0,none⟩) 1 1]by rw[e3,e5]]at hn
             have hn:=Aa hn
             clear h hF hG hi
             go_simp
             exact hK _ _ _ Ad hn.o (by simp[Act.put,hp,e3,e5])) ?_
            refine Gy (fun _=>True) (by
             intro l u W' hl hp hF hG hi K9 hK
             have h:Py W (.string ⟨kb.toArray⟩) (.string ⟨#[85]⟩) (.int .i64 (f.tag:Int)) (.pointer (some ⟨b8,0,none⟩)) (l 3) (l 5) (l 6) (l 7) (l 10) (u 3) (u 5) (u 6) (u 7) (u 10) W':=hF.o
             rw[hl]at h
             simp[Region.binds,Ck]at hp
             have l6:l 6=true:=by simp[hp]
             obtain⟨e6,h3,h5⟩:=h.s6 l6
             obtain⟨B3,e3,_⟩:=h.s3 h3
             obtain⟨B5,e5,_⟩:=h.s5 h5
             have hn:=h.put7 l6 68
             rw[show Obj.cells #[.string ⟨kb.toArray⟩,.string ⟨#[85]⟩,u 3,u 5] 68=.cells #[.string ⟨kb.toArray⟩,.string ⟨#[85]⟩,.slice (some ⟨B3,0,none⟩) 1 1,.slice (some ⟨B5,0,none⟩) 1 1] 68 by rw[e3,e5]]at hn
             have hn:=Aa hn
             rw[e3,e5]at e6
             clear h hF hG hi
             go_simp
             exact hK _ _ _ Ad hn.o (by simp[Act.put,hp,e6,e3,e5])) ?_
            refine sq ?_
            refine sqS (.string ⟨z8.toArray⟩) ?_
            refine Gy (fun _=>True) (by
             intro l u W' hl hp hF hG hi K9 hK
             have h:Py W (.string ⟨kb.toArray⟩) (.string ⟨#[85]⟩) (.int .i64 (f.tag:Int)) (.pointer (some ⟨b8,0,none⟩)) (l 3) (l 5) (l 6) (l 7) (l 10) (u 3) (u 5) (u 6) (u 7) (u 10) W':=hF.o
             simp[Region.binds,Ck]at hp
             have hn:=Aa (h.put10 (by simp[hp]))
             clear h hF hG hi
             go_simp
             exact hK _ _ _ Ad hn.o (by simp[Act.put,hp])) ?_
            iterate 2 refine sq ?_
            intro l u W9 hl hφ hR
            have hR:Py W (.string ⟨kb.toArray⟩) (.string ⟨#[85]⟩) (.int .i64 (f.tag:Int)) (.pointer (some ⟨b8,0,none⟩)) (l 3) (l 5) (l 6) (l 7) (l 10) (u 3) (u 5) (u 6) (u 7) (u 10) W9:=hR
            obtain⟨Bv,ev,hsv⟩:=hR.at_ (P:=fun c=>w.heap.size<=c) (hl 10 (by decide)) (fun c hc=>by have:=HL8.o.bel.size;omega) (Hsv.o.mono fun c hc _=>by have:w7.heap.size<=c:=hc;show w.heap.size<=c;omega)
            have HB9:=Aa (HL8.o.bel.trans (hR.be.mono HL8.o.bel.size))
            simp only[Te,List.nil_append,List.cons_append,Nat.zero_add,Nat.reduceAdd]at hφ
            simp only[ev,hφ]
            have HS9:=Aa hsv
            clear hR hl hφ ev hsv
            go_wp2_with fail
            refine bodyPost_ret (v:=.tuple #[.pointer (some ⟨Bv,0,none⟩),.string ⟨z8.toArray⟩,.bool true]) (by simp[results,results49,go_sem]) rfl ?_
            rw[HY.o]
            refine⟨⟨Bv,rfl,?_⟩,HB9.o⟩
            rw[HH.o.svu f Hf1.o v,HKB.o]
            exact HS9.o
           |false=>
            have h82:¬(st=85):=by
             rcases HST.o with⟨_,_,h⟩|⟨_,h,_⟩
             ·rw[h];decide
             rw[hbu]at h;cases h
            have H82:=Aa h82
            have hgc:c8=125\/c8=44:=by
             rcases hg with h|⟨h,_⟩
             ·exact .inl h
             exact .inr h
            obtain⟨b1,b4,b5,hb1,hb4,hb5,hbc⟩:∃b1 b4 b5,((c8.toNat:Int) != 125)=b1/\((c8.toNat:Int) != 44)=b4/\((c8.toNat:Int) == 125)=b5/\((b1=false/\b4=true/\b5=true/\c8=125)\/(b1=true/\b4=false/\b5=false/\c8=44)):=by
             rcases hgc with rfl|rfl
             ·exact⟨false,true,true,rfl,rfl,rfl,.inl ⟨rfl,rfl,rfl,rfl⟩⟩
             exact⟨true,false,false,rfl,rfl,rfl,.inr ⟨rfl,rfl,rfl,rfl⟩⟩
            have Hbc:=Aa hbc
            rw[hbu]at hbU
            have p0:=HL8.o.box
            have t1:W.cell? ⟨B,1,none⟩=some (.string ⟨f.name.toArray⟩):=by simpa using Ab Hr8.o 1 rfl
            have t2:W.cell? ⟨B,2,none⟩=some (.string ⟨kf.toArray⟩):=by simpa using Ab Hr8.o 2 rfl
            have t3:W.cell? ⟨B,3,none⟩=some (.string ⟨f.given.toArray⟩):=by simpa using Ab Hr8.o 3 rfl
            have hl0':w.heap.size<W.heap.size:=by omega
            have HO:=Aa (fun W' (hb:Below W.heap.size W W')=>HH.o.outp f Hf1.o q1 v (c8::z8) _ b8 W' (by omega) Hoq.o (Hsv.o.after hb))
            have HS:=Aa (fun W' (hb:Below W.heap.size W W')=>HH.o.sta f Hf1.o W' (HW8.o.trans (hb.mono HW8.o.size)))
            rw[Hkfe.o]at HS
            obtain⟨pv,hpv⟩:∃pv,Au v=pv:=⟨_,rfl⟩
            obtain⟨ov,hov⟩:∃ov,Kn S f=ov:=⟨_,rfl⟩
            rw[hpv]at HO
            rw[hov]at HS
            unfold E8 at HO
            unfold Fp at HS
            obtain⟨be,hbe⟩:∃be,(pv == ov)=be:=⟨_,rfl⟩
            have Hbe:=Aa (show be=decide (Au v=Kn S f)from by rw[hpv,hov,<-hbe];by_cases h:pv=ov<;>simp[h])
            clear hg hgc h82 hbu hbc hpv hov
            have hcut23:True:=Ad
            rcases Hbc.o with⟨rfl,rfl,rfl,-⟩|⟨rfl,rfl,rfl,-⟩
            all_goals
             go_upto_region 23 with fail
             have Hb1:=Aa hb1
             have Hb4:=Aa hb4
             have Hb5:=Aa hb5
             clear hb1 hb4 hb5
             refine rgB ?_
             refine sq ?_
             refine sqC HO.o ?_
             iterate 3 refine sq ?_
             refine sqC HS.o ?_
             refine sq ?_
             refine dnB fun wx HX=>?_
             have HL9:=Aa (HL8.o.after HX.o)
             have HW9:=Aa (HW8.o.trans (HX.o.mono HW8.o.size))
             have Hr9:=Aa (Av Hr8.o hB8 HX.o)
             have hB9:B<wx.heap.size:=Nat.lt_of_lt_of_le hB8 HX.o.size
             have Hsv9:=Aa (Hsv.o.after HX.o)
             have hz9:=HX.o.size
             clear HO HS t0 t1 t2 t3 p0 z0
             go_upto_if 149 with fail
             go_cut [13]from 48 to 161 (fun s13 wy=>∃b',s13=.pointer (some ⟨b',0,none⟩)/\Hid (S1 w xv (.int .u8 (st.toNat:Int)) (.string ⟨nm.toArray⟩) (.slice A9 fs.length c9) S k wy b' (.slice A7 (ps.length+1) c7) (ps++[(f,v)]) ((ps.map fun p=>p.1.name)++[nl])))
             case first=>
              have Hac:=Aa (fun p (hp:p∈Fg S ps)=>HFR.o.mem p (En p hp).1)
              cases be with
              |true=>
               have HE:=Aa (show Fg S (ps++[(f,v)])=Fg S ps from by rw[Gx];unfold Qu;rw[if_pos (by simpa using Hbe.o)])
               go_wp2_with fail
               go_meet
               exact⟨b,rfl,HL9.o.turn (by rw[HE.o];exact HL9.o.val)⟩
              |false=>
               have HE:=Aa (show Fg S (ps++[(f,v)])=Ql (f,v) (Fg S ps)from by rw[Gx];unfold Qu;rw[if_neg (by simpa using Hbe.o)])
               have hv9:=HL9.o.val
               rw[HH.o.sv _ Hac.o,HKB.o]at hv9
               have hal:=Qgt S ps
               have HWi:=Aa (Qc6 _ kb [82] _ _ (by simp) (by simp;omega) f.tag (by omega) (fun g hg=>by
                obtain⟨p,hp,rfl⟩:=List.mem_map.1 hg
                refine⟨by have:=(HH.o.few p.1 (Hac.o p hp)).1;omega,fun e=>Htg.o (List.mem_map.2 ⟨p,(En p hp).1,e⟩)⟩) b b8 (Cd S f.kind v) wx hv9 (Hsv9.o.mono fun c hc _=>⟨by have:w7.heap.size<=c:=hc;omega,fun e=>by have:=Hb7.o c e;have:w7.heap.size<=c:=hc;omega⟩))
               have t0:wx.cell? ⟨B,0,none⟩=some (.int .i64 (f.tag:Int)):=by simpa using Ab Hr9.o 0 rfl
               clear hv9 hal
               go_wp2_with fail
               refine HWi.o.mono ?_
               rintro e wA ⟨BA,rfl,hbA,hsA⟩
               have HbA:=Aa hbA
               have HsA:=Aa hsA
               clear hbA hsA HWi
               go_wp2_with fail
               go_meet
               refine⟨BA,rfl,(HL9.o.after HbA.o).turn ?_⟩
               rw[HE.o,<-Qif (fun ps hp=>by rw[HH.o.sv ps hp,HKB.o]) Hac.o Hf1.o]
               refine HsA.o.mono fun c hc _=>?_
               rcases hc with hc|hc
               ·exact hc
               exact⟨by omega,fun e=>by have:=Hb7.o c e;omega⟩
             case rest=>
              obtain⟨b',rfl,HLA⟩:=hcut
              have Hpn:=Aa (show (ps++[(f,v)]).map (fun p=>p.1.name)=(ps.map fun p=>p.1.name)++[nl]from by rw[List.map_append];simp[Hf2.o])
              have hb1:=Hb1.o
              have hb4:=Hb4.o
              have hb5:=Hb5.o
              go_wp2_with fail
              first
               |have h8:c8=125:=by simpa using Hbc.o
                have HY:=Aa (show q=some (.mk 82 [] 0 ((Fg S (ps++[(f,v)])).map Cw),z8)from by
                 rw[HQ2.o,if_neg H82.o,HFR.o.fin (by omega) Hon.o Hbo.o Htg.o Hoq.o (show Ae 44 (c8::z8)=none from by rw[h8];exact Bl (by decide) _) (show Ae 125 (c8::z8)=some z8 from by rw[h8];exact Aq _ _)])
                clear h8
                go_quiet (fail)
                go_wp2_with fail
                refine bodyPost_ret (v:=.tuple #[.pointer (some ⟨b',0,none⟩),.string ⟨z8.toArray⟩,.bool true]) (by simp[results,results49,go_sem]) rfl ?_
                rw[HY.o]
                exact⟨⟨b',rfl,(HLA.o.val.mono fun c hc _=>by have:=hc.1;show w.heap.size<=c;omega).after (below_drewN (Ay _ _) _)⟩,below_drewN HLA.o.bel _⟩
               |have h8:c8=44:=by simpa using Hbc.o
                have HF2:=Aa (HFR.o.go (by omega) Hon.o Hbo.o Htg.o Hoq.o (show Ae 44 (c8::z8)=some z8 from by rw[h8];exact Aq _ _) (by omega))
                clear h8
                go_roundw
                case rel=>exact⟨c8,b',A7,ps.length+1,c7,ps++[(f,v)],z8,rfl,rfl,rfl,by omega,Aa ⟨by rw[Hpn.o];exact HLA.o,HF2.o,fun h=>absurd h H82.o⟩⟩
                case measure=>simp[J6,ByteArray.size];omega
          have HN:=Aa (show q=none from by
           have h1:c8≠125:=fun e=>hg (.inl e)
           refine HN3.o (Bl h1 _) ?_
           by_cases h44:c8=44
           ·refine .inl ?_
            rcases HST.o with⟨_,h,_⟩|⟨_,_,h⟩
            ·exact absurd (.inr ⟨h44,h⟩) hg
            exact h
           exact .inr (Bl h44 _))
          obtain⟨b1,hb1⟩:∃b1,((c8.toNat:Int) != 125)=b1:=⟨_,rfl⟩
          obtain⟨b4,hb4⟩:∃b4,((c8.toNat:Int) != 44)=b4:=⟨_,rfl⟩
          have e1:b1=true:=by rw[<-hb1];have:=Am (show c8≠125 from fun e=>hg (.inl e));simpa using this
          subst e1
          have e4:b4=false->bU=true:=fun h=>by
           subst h
           have e9:(c8.toNat:Int)=44:=by simpa using hb4
           have h44:c8=44:=UInt8.toNat_inj.1 (show c8.toNat=44 by omega)
           cases hbu:bU with
           |true=>rfl
           |false=>exact absurd (.inr ⟨h44,hbu⟩) hg
          clear hg
          cases b4 with
          |true=>
           clear e4
           go_wp2_with fail
           refine bodyPost_ret (v:=.tuple #[.pointer none,.string ⟨(c1::tt:List UInt8).toArray⟩,.bool false]) (by simp[results,results49,go_sem]) rfl ?_
           exact At.no HN.o rfl HL8.o.bel
          |false=>
           have e5:=e4 rfl
           subst e5
           clear e4
           go_wp2_with fail
           refine bodyPost_ret (v:=.tuple #[.pointer none,.string ⟨(c1::tt:List UInt8).toArray⟩,.bool false]) (by simp[results,results49,go_sem]) rfl ?_
           exact At.no HN.o rfl HL8.o.bel
       have HN:=Aa (show q=none from HN1.o (by
        unfold Cu
        rw[Hon.o,<-Hrs.o]
        simp only
        cases rs with
        |nil=>rfl
        |cons c z=>rw[Bl (fun e=>h58 ⟨z,by rw[e]⟩)]))
       cases rs with
       |nil=>
        clear h58
        go_wp2_with fail
        refine bodyPost_ret (v:=.tuple #[.pointer none,.string ⟨(c1::tt:List UInt8).toArray⟩,.bool false]) (by simp[results,results49,go_sem]) rfl ?_
        exact At.no HN.o rfl HL3.o.bel
       |cons c z=>
        have hcn:((c.toNat:Int) != 58)=true:=by have:=Am (show c≠58 from fun e=>h58 ⟨z,by rw[e]⟩);simpa using this
        clear h58
        go_wp2_with fail
        refine bodyPost_ret (v:=.tuple #[.pointer none,.string ⟨(c1::tt:List UInt8).toArray⟩,.bool false]) (by simp[results,results49,go_sem]) rfl ?_
        exact At.no HN.o rfl HL3.o.bel
  ·have HN:=Aa (show q=none from by rw[HQ.o];unfold rcN;rw[Bl hc])
   have hcn:((c0.toNat:Int) != 123)=true:=by have:=Am hc;simpa using this
   clear hc hE
   go_wp2_with fail
   refine bodyPost_ret (v:=.tuple #[.pointer none,.string ⟨(c0::s:List UInt8).toArray⟩,.bool false]) (by simp[results,results49,go_sem]) rfl ?_
   exact At.no HN.o rfl hb2
def J7(kd:List UInt8):Bool:=decide (kd.take 2=[63,63])
theorem Mv(kd:List UInt8)(w:World):Calls prog 31 #[.string ⟨kd.toArray⟩] w fun e w'=>e=.returned (.bool (J7 kd))/\w'=w:=by
 by_cases h1:1<kd.length
 ·have t1:(1:Int)<(kd.length:Int):=by omega
  have t2:(2:Int)<=(kd.length:Int):=by omega
  have t3:(kd.take 2 == [63,63])=J7 kd:=by unfold J7;by_cases e:kd.take 2=[63,63]<;>simp[e]
  generalize J7 kd=z at *
  go_enter func31,ntmps31
  go_wp2_with fail
  go_ret
  exact⟨by first|rfl|rw[t3],rfl⟩
 have t1:¬(1:Int)<(kd.length:Int):=by omega
 have t3:J7 kd=false:=by
  unfold J7
  rw[decide_eq_false_iff_not]
  intro e
  have:=congrArg List.length e
  simp at this
  omega
 rw[t3]
 clear t3 h1
 go_enter func31,ntmps31
 go_wp2_with fail
 go_ret
 exact⟨rfl,rfl⟩
abbrev PkA(xv:Value)(s:List UInt8)(kb:List UInt8)(dd:Int)(w:World)(Q:Ending->World->Prop):Prop:=Calls prog 20 #[.agg #[xv],.string ⟨s.toArray⟩,.string ⟨kb.toArray⟩,.int .i64 dd] w Q
theorem Qca(S:List Ty)(k:Kd)(xv:Value)(hxv:xv.oneCell'=true)(s kb:List UInt8)(dd:Int)(hd:dd<=1001)(hd0:0<=dd)(w:World)(q:Option (Vl × List UInt8))(hq:q=none)(h:s=[]\/dd<1\/J7 kb=true):PkA xv s kb dd w (At S k q w):=by
 have HN:=Aa hq
 have Hsn:=Aa (fun W=>Mv kb W)
 clear hq
 unfold PkA
 by_cases hne:s=[]
 ·subst hne
  clear h
  go_enter func20,ntmps20
  go_wp2_with fail
  refine bodyPost_ret (v:=.tuple #[.pointer none,.string ⟨#[]⟩,.bool false]) (by simp[results,results20,go_sem]) rfl ?_
  exact At.no HN.o rfl ((Ay _ _).alloc (As _) _)
 have he:s.isEmpty=false:=by cases s with|nil=>exact absurd rfl hne|cons c z=>rfl
 have h:=h.resolve_left hne
 clear hne
 by_cases h1:dd<1
 ·clear h
  go_enter func20,ntmps20
  go_wp2_with fail
  refine bodyPost_ret (v:=.tuple #[.pointer none,.string ⟨s.toArray⟩,.bool false]) (by simp[results,results20,go_sem]) rfl ?_
  exact At.no HN.o rfl ((Ay _ _).alloc (As _) _)
 have h:=h.resolve_left h1
 rw[h]at Hsn
 clear h
 go_enter func20,ntmps20
 go_wp2_with fail
 refine(Hsn.o _).mono ?_
 rintro e w1 ⟨rfl,rfl⟩
 go_wp2_with fail
 refine bodyPost_ret (v:=.tuple #[.pointer none,.string ⟨s.toArray⟩,.bool false]) (by simp[results,results20,go_sem]) rfl ?_
 exact At.no HN.o rfl ((Ay _ _).alloc (As _) _)
theorem Qhr(w0:World)(S:List Ty)(k:Kd)(xv:Value)(hxv:xv.oneCell'=true)(s kp:List UInt8)(hkl:kp.length<=100)(dd:Int)(hd:dd<=1001)(hd0:1<=dd)(w:World)(hw:Below w0.heap.size w0 w)(hne:s≠[])(q:Option (Vl × List UInt8))
  (HP:∀W,Below w0.heap.size w0 W->Calls prog 46 #[.agg #[xv],.string ⟨s.toArray⟩,.string ⟨(91::kp).toArray⟩,.int .i64 dd] W (At S k q W)):PkA xv s (91::kp) dd w (At S k q w):=by
 have HP:=Aa HP
 have Hsn:=Aa (fun W=>Mv (91::kp) W)
 rw[show J7 (91::kp)=false by simp[J7]]at Hsn
 have HW:=Aa (show Below w0.heap.size w0 (w.alloc (.cells #[xv] 35))from hw.alloc hw.size _)
 have he:s.isEmpty=false:=by cases s with|nil=>exact absurd rfl hne|cons c z=>rfl
 have h1:¬(dd<1):=by omega
 clear hne hw
 unfold PkA
 go_enter func20,ntmps20
 go_wp2_with fail
 refine(Hsn.o _).mono ?_
 rintro e w1 ⟨rfl,rfl⟩
 go_wp2_with fail
 refine(HP.o _ HW.o).mono ?_
 rintro e w5 hp
 obtain⟨vp,vr,vk,rfl,hq5⟩:=hp.q
 have Hq5:=Aa hq5
 clear hq5 hp
 go_wp2_with fail
 refine bodyPost_ret (v:=.tuple #[vp,vr,vk]) (by simp[results,results20,go_sem]) rfl ?_
 exact Hq5.o.post ((Ay _ _).alloc (As _) _)
theorem Rk(S:List Ty)(k:Kd)(xv:Value)(hxv:xv.oneCell'=true)(s:List UInt8)(kb:UInt8)(hkb:kb=110\/kb=116\/kb=102)(dd:Int)(hd:dd<=1001)(hd0:1<=dd)(w:World)(hne:s≠[])(q:Option (Vl × List UInt8))
  (HP:∀W,Calls prog 50 #[.agg #[xv],.string ⟨s.toArray⟩,.string ⟨[kb].toArray⟩] W (At S k q W)):PkA xv s [kb] dd w (At S k q w):=by
 have HP:=Aa HP
 have Hsn:=Aa (fun W=>Mv [kb] W)
 rw[show J7 [kb]=false by rcases hkb with rfl|rfl|rfl<;>rfl]at Hsn
 have he:s.isEmpty=false:=by cases s with|nil=>exact absurd rfl hne|cons c z=>rfl
 have h1:¬(dd<1):=by omega
 clear hne
 unfold PkA
 rcases hkb with rfl|rfl|rfl<;>
 ·go_enter func20,ntmps20
  go_wp2_with fail
  refine(Hsn.o _).mono ?_
  rintro e w1 ⟨rfl,rfl⟩
  go_wp2_with fail
  refine(HP.o _).mono ?_
  rintro e w5 hp
  obtain⟨vp,vr,vk,rfl,hq5⟩:=hp.q
  have Hq5:=Aa hq5
  clear hq5 hp
  go_wp2_with fail
  refine bodyPost_ret (v:=.tuple #[vp,vr,vk]) (by simp[results,results20,go_sem]) rfl ?_
  exact Hq5.o.post ((Ay _ _).alloc (As _) _)
def Qij:Option (Vl × List UInt8)->Option (Vl × List UInt8)
 |some (v,r)=>some (.mk 63 [] 0 [v],r)
 |none=>none
theorem Qg3(w0:World)(S:List Ty)(k:Kd)(xv:Value)(hxv:xv.oneCell'=true)(s kp:List UInt8)(hkp:Bi k=63::kp)(hkl:kp.length<=100)(hnn:J7 (63::kp)=false)(d:Nat)(hd:d<=1000)(w:World)(hw:Below w0.heap.size w0 w)(hne:s≠[])(hs:s.length<=600)(o:Option (Vl × List UInt8))
  (HC:∀W,Below w0.heap.size w0 W->Calls prog 20 #[.agg #[xv],.string ⟨s.toArray⟩,.string ⟨kp.toArray⟩,.int .i64 (d:Int)] W (At S k.part o W)) (q:Option (Vl × List UInt8))
  (hq:q=match Dt Fv s with|some z=>some (.mk 63 [] 0 [],z)|none=>Qij o):PkA xv s (63::kp) ((d+1:Nat):Int) w (At S k q w):=by
 have HQ:=Aa hq
 have Hsn:=Aa (fun W=>Mv (63::kp) W)
 rw[hnn]at Hsn
 have Hsv:=Aa (fun ks=>hkp ▸ My S k ks)
 obtain⟨W1,hW1⟩:∃W1,W1=w.alloc (.cells #[xv] 35):=⟨_,rfl⟩
 have hb1:Below w.heap.size w W1:=by rw[hW1];exact(Ay _ _).alloc (As _) _
 have p0:W1.cell? ⟨w.heap.size,0,none⟩=some xv:=by rw[hW1];simp[go_sem]
 have hl0:w.heap.size<W1.heap.size:=by rw[hW1];simp
 have HC:=Aa (HC W1.drew (hw.trans (hb1.mono hw.size)).drew)
 have HW1:=Aa hW1
 have Hb1:=Aa hb1
 have he:s.isEmpty=false:=by cases s with|nil=>exact absurd rfl hne|cons c z=>rfl
 have d1:(((d+1:Nat):Int)) - 1=(d:Int):=by omega
 have h1:¬((((d+1:Nat):Int))<1):=by omega
 have h2:(((d+1:Nat):Int))<=1001:=by omega
 have d4:(0:Int)<=(d:Int):=by omega
 have d5:(d:Int)<=1000:=by omega
 have hwd:IntKind.i64.wrap (d:Int)=(d:Int):=IntWalk.i64_in _ (by omega)
 generalize (((d+1:Nat):Int))=dd at *
 unfold PkA
 clear hne hw hkp hnn hq hW1 hb1
 cases hwl:Dt Fv s with
 |some z=>
  have hss:=Du.1 hwl
  have HY:=Aa (show q=some (.mk 63 [] 0 [],z)from by rw[HQ.o,hwl])
  clear hwl
  subst hss
  simp only[Fv,List.cons_append,List.nil_append]at *
  go_enter func20,ntmps20
  go_wp2_with fail
  refine(Hsn.o _).mono ?_
  rintro e w1 ⟨rfl,rfl⟩
  go_wp2_with fail
  rw[<-HW1.o]
  refine Z9 (fun l u W=>BxR W1.drew (W1.drew.alloc (.cells #[.string ⟨(63::kp:List UInt8).toArray⟩,.string ⟨#[]⟩,.slice none 0 0,.slice none 0 0] 68)) (l 2) W) (Dz W1) (fun l u W h b o k hb=>by
   cases h9:l 2 with
   |false=>rw[h.1 h9];rfl
   |true=>rw[h.2 h9];simp[go_sem,hb,Nat.ne_of_lt hb]) ⟨fun _=>rfl,fun h=>Bool.noConfusion h⟩ ?_
  iterate 2 refine sq ?_
  refine Gy (fun v=>v=.pointer (some ⟨W1.heap.size,0,none⟩)) (by
   intro l u W hl hp hF hG hi K hK
   have hW:W=W1.drew:=hF.o.1 hl
   simp[Region.binds,Ck]at hp
   clear hG hi hF
   subst hW
   go_simp
   exact hK _ _ _ rfl ⟨fun h=>Bool.noConfusion h,fun _=>rfl⟩ (by simp[Act.put,hp])) ?_
  iterate 5 refine sq ?_
  refine dn (fun l u W hl _ hR=>?_)
  have hW:W=_:=hR.o.2 (hl 2 (by decide))
  subst hW
  clear hR hl
  go_wp2_with fail
  refine bodyPost_ret (v:=.tuple #[.pointer (some ⟨W1.heap.size,0,none⟩),.string ⟨z.toArray⟩,.bool true]) (by simp[results,results20,go_sem]) rfl ?_
  rw[HY.o]
  refine⟨⟨W1.heap.size,rfl,?_⟩,Hb1.o.drew.alloc (by simpa using Hb1.o.size) _⟩
  rw[Hsv.o]
  have:=Fh.leaf (P:=fun c=>w.heap.size<=c) (w:=W1.drew) (kind:=63::kp) (text:=[]) (T:=68) (by simpa using Hb1.o.size)
  exact this
 |none=>
  have HQ2:=Aa (show q=Qij o from by rw[HQ.o,hwl])
  have ht4:(s.take 4 == ([110,117,108,108]:List UInt8))=false:=by
   cases h:(s.take 4 == ([110,117,108,108]:List UInt8))with
   |false=>rfl
   |true=>
    have e:s.take 4=Fv:=by unfold Fv;simpa using h
    have:=Du (p:=Fv) (s:=s) (r:=s.drop 4)
    rw[hwl]at this
    have h2:=this.2 (by rw[<-e];exact(List.take_append_drop 4 s).symm)
    cases h2
  clear hwl
  have h4:(4:Int)<=(s.length:Int)\/¬((4:Int)<=(s.length:Int)):=by omega
  rcases h4 with h4|h4
  all_goals
   go_enter func20,ntmps20
   go_wp2_with fail
   refine(Hsn.o _).mono ?_
   rintro e w1 ⟨rfl,rfl⟩
   rw[<-HW1.o]
   go_upto_region 9 with fail
   refine rgT (SrQ W1.drew S k.part o) 6 (fun W vp vr vk h=>h.1) ?_
   iterate 3 refine sq ?_
   refine sqS (.string ⟨kp.toArray⟩) ?_
   iterate 2 refine sq ?_
   refine sqK HC.o ?_
   refine sqM ?_
   iterate 3 refine sqP ?_
   iterate 3 refine sqA ?_
   intro l u W hl _ hR
   obtain⟨vp,vr,vk,hq5,ua,ub,ue⟩:=RK.fin hR hl (by decide)
   simp only[Nat.reduceAdd]at ua ub ue
   simp only[ua,ub,ue]
   obtain⟨hb5,hm⟩:=hq5
   have Hb5:=Aa (show Below w.heap.size w W from Hb1.o.drew.trans (hb5.mono (by have:=Hb1.o.size;simpa using this)))
   have hz5:=Hb5.o.size
   have hz1:=hb5.size
   have hz2:=Hb1.o.size
   clear hb5 hR hl ua ub ue p0
   cases o with
   |none=>
    obtain⟨⟨q0,rfl⟩,⟨r0,rfl⟩,rfl⟩:=hm
    go_wp2_with fail
    refine bodyPost_ret (v:=.tuple #[.pointer (some ⟨W.heap.size+1,0,none⟩),.string r0,.bool false]) (by simp[results,results20,go_sem]) rfl ?_
    exact At.no HQ2.o rfl ((Hb5.o.alloc hz5 _).alloc (by simp;omega) _)
   |some y=>
    obtain⟨v,r⟩:=y
    obtain⟨⟨b,rfl,hsv⟩,rfl,rfl⟩:=hm
    have HY:=Aa (show q=some (.mk 63 [] 0 [v],r)from HQ2.o)
    have Hsv5:=Aa (hsv.mono (Q:=fun c=>w.heap.size<=c) fun c1 hc _=>by have:W1.drew.heap.size<=c1:=hc;simp at this;omega)
    clear hsv
    go_wp2_with fail
    refine bodyPost_ret (v:=.tuple #[.pointer (some ⟨W.heap.size+1,0,none⟩),.string ⟨r.toArray⟩,.bool true]) (by simp[results,results20,go_sem]) rfl ?_
    rw[HY.o]
    refine⟨⟨W.heap.size+1,rfl,?_⟩,((Hb5.o.alloc hz5 _).alloc (by simp;omega) _)⟩
    rw[Hsv.o]
    refine .mk (63::kp) [] [] none (some ⟨W.heap.size,0,none⟩) 0 1 [(b,Cd S k.part v)] rfl (by simp) (by show w.heap.size<=W.heap.size+1;omega) (by simp[go_sem]) (by simp[go_sem]) (by simp[go_sem]) (by simp[go_sem]) ⟨rfl,Nat.zero_le _,fun h=>absurd h (by simp)⟩ ⟨rfl,by simp[maxLen],fun _=>⟨W.heap.size,0,rfl,by simp;omega,fun j u hu=>?_⟩⟩ (by simp) (by simp) (fun _ _ h=>absurd h (by simp)) (fun g o _ e=>?_) (fun x hx=>?_)
    ·match j,hu with
     |0,hu=>
      simp[Cy]at hu
      subst hu
      simp[go_sem]
     |j+1,hu=>simp[Cy]at hu
    ·injection e with e;injection e with e;subst e;exact hz5
    simp at hx
    subst hx
    exact Hsv5.o.after (((Ay _ _).alloc (As _) _).alloc (by simp) _)
theorem Qg4(w0:World)(S:List Ty)(k:Kd)(xv:Value)(hxv:xv.oneCell'=true)(s kn:List UInt8)(hkl:kn.length<=100)(dd:Int)(hd:dd<=1001)(hd0:1<=dd)(w:World)(hw:Below w0.heap.size w0 w)(hne:s≠[])(q:Option (Vl × List UInt8))(st:UInt8)(nm:List UInt8)(A:Option Addr)(n c:Nat)
  (HR:∀W,Below w0.heap.size w0 W->Calls prog 47 #[xv,.string ⟨(64::kn).toArray⟩] W fun e w'=>e=.returned (.tuple #[.agg #[.int .u8 (st.toNat:Int),.string ⟨nm.toArray⟩,.slice A n c],.bool true])/\Below W.heap.size W w')
  (HE:st=69->∀W,Below w0.heap.size w0 W->Calls prog 48 #[.agg #[xv],.string ⟨s.toArray⟩,.string ⟨(64::kn).toArray⟩,.agg #[.int .u8 (st.toNat:Int),.string ⟨nm.toArray⟩,.slice A n c]] W (At S k q W))
  (HF:st≠69->∀W,Below w0.heap.size w0 W->Calls prog 49 #[.agg #[xv],.string ⟨s.toArray⟩,.string ⟨(64::kn).toArray⟩,.agg #[.int .u8 (st.toNat:Int),.string ⟨nm.toArray⟩,.slice A n c],.int .i64 dd] W (At S k q W)):PkA xv s (64::kn) dd w (At S k q w):=by
 have HR:=Aa HR
 have HE:=Aa HE
 have HF:=Aa HF
 have Hsn:=Aa (fun W=>Mv (64::kn) W)
 rw[show J7 (64::kn)=false by simp[J7]]at Hsn
 have he:s.isEmpty=false:=by cases s with|nil=>exact absurd rfl hne|cons c z=>rfl
 have h1:¬(dd<1):=by omega
 obtain⟨W1,hW1⟩:∃W1,W1=w.alloc (.cells #[xv] 35):=⟨_,rfl⟩
 have hb1:Below w.heap.size w W1:=by rw[hW1];exact(Ay _ _).alloc (As _) _
 have p0:W1.cell? ⟨w.heap.size,0,none⟩=some xv:=by rw[hW1];simp[go_sem]
 have hl0:w.heap.size<W1.heap.size:=by rw[hW1];simp
 have HW1:=Aa hW1
 have HWa:=Aa (hw.trans (hb1.mono hw.size))
 have Hb1:=Aa hb1
 clear hne hw hW1 hb1
 unfold PkA
 go_enter func20,ntmps20
 go_wp2_with fail
 refine(Hsn.o _).mono ?_
 rintro e w1 ⟨rfl,rfl⟩
 go_wp2_with fail
 rw[<-HW1.o]
 refine(HR.o _ HWa.o).mono ?_
 rintro e w2 ⟨rfl,hb2⟩
 have Hb2:=Aa (Hb1.o.trans (hb2.mono Hb1.o.size))
 have HWb:=Aa (HWa.o.trans (hb2.mono HWa.o.size))
 replace p0:=(hb2.cell (p:=⟨w.heap.size,0,none⟩) hl0).trans p0
 replace hl0:=Nat.lt_of_lt_of_le hl0 hb2.size
 have hbn:¬(w.heap.size=w2.heap.size):=by omega
 clear hb2
 obtain⟨W3,hW3⟩:∃W3,W3=w2.alloc (.cells #[.int .u8 (st.toNat:Int),.string ⟨nm.toArray⟩,.slice A n c] 95):=⟨_,rfl⟩
 have Hb3:=Aa (show Below w.heap.size w W3 from by rw[hW3];exact Hb2.o.alloc Hb2.o.size _)
 have HWc:=Aa (show Below w0.heap.size w0 W3 from by rw[hW3];exact HWb.o.alloc HWb.o.size _)
 have HW3:=Aa hW3
 clear hW3
 by_cases h69:st=69
 ·have HE:=Aa (HE.o h69)
  have h9:((st.toNat:Int) == 69)=true:=by rw[h69];rfl
  clear h69 HF
  go_wp2_with fail
  rw[<-HW3.o]
  refine(HE.o _ HWc.o).mono ?_
  rintro e w5 hp
  obtain⟨vp,vr,vk,rfl,hq5⟩:=hp.q
  have Hq5:=Aa hq5
  clear hq5 hp
  go_wp2_with fail
  refine bodyPost_ret (v:=.tuple #[vp,vr,vk]) (by simp[results,results20,go_sem]) rfl ?_
  exact Hq5.o.post Hb3.o
 have HF:=Aa (HF.o h69)
 have h9:((st.toNat:Int) == 69)=false:=by have:=Am h69;simpa using this
 clear h69 HE
 go_wp2_with fail
 rw[<-HW3.o]
 refine(HF.o _ HWc.o).mono ?_
 rintro e w5 hp
 obtain⟨vp,vr,vk,rfl,hq5⟩:=hp.q
 have Hq5:=Aa hq5
 clear hq5 hp
 go_wp2_with fail
 refine bodyPost_ret (v:=.tuple #[vp,vr,vk]) (by simp[results,results20,go_sem]) rfl ?_
 exact Hq5.o.post Hb3.o
theorem Qhv(w0:World)(xs:List (Ty × Value))(A:Option Addr)(c:Nat)(hsc:Mc w0 (.slice A xs.length c) xs)(hok:No (Ah xs))(k:Kd)(t:Ty)(tv:Value)(hx:E0 xs k.name=some (t,tv))(h9:t.sort≠69)(d:Nat)
  (H:∀k',C0 k'->B9 (Ah xs) k'->PkC w0 (Ah xs) (.slice A xs.length c) k' d):PkH w0 (.slice A xs.length c) (Ah xs) k (Cp (Ah xs) d) (.int .u8 (t.sort.toNat:Int)) (.string ⟨t.name.toArray⟩) tv t.fields (d:Int):=by
 obtain⟨hm,_,hft⟩:=Ek hx
 have htS:t∈Ah xs:=(Bq hft).1
 have hty:=hok.1.1 t htS
 have htF:=hty.2.2.1
 have hfo:∀f∈t.fields,Q5 t.sort f:=htF.1
 have hk:∀f∈t.fields,C0 f.kind:=fun f hf=>((hfo f hf).2.2.2.2 h9).1
 refine⟨by obtain⟨_,_,_,_,_,hf⟩:=hsc;exact hf _ hm,fun f hf=>H f.kind (hk f hf) (hok.2.1 t htS h9 f hf),fun f hf s v r h=>(J9 hok.1.1 d f.kind (hk f hf) s v r h).2.1,fun f hf s v r P b W hs h hsv=>?_,fun f hf W hW=>?_,fun ps hp=>?_,fun f hf v=>?_,fun f hf=>?_,fun f hf g hg e=>?_⟩
 ·obtain⟨h1,_,h3⟩:=J9 hok.1.1 d f.kind (hk f hf) s v r h
  exact Qcy hok.1.1 P d f.kind v h1 (hk f hf) b W hsv (by omega)
 ·exact Tk _ xs hok f W (hsc.below hW) (hk f hf) (hok.2.1 t htS h9 f hf) (Nat.le_trans (Rz (hfo f hf)) (by decide))
 ·rw[Qy]
  congr 1
  exact List.map_congr_left fun p hp'=>by rw[Ga hft (Dl htF (hp p hp'))]
 ·rw[Q6,Ga hft (Dl htF hf)]
 ·have h1:=hfo f hf
  have h2:=(hk f hf).2.2
  have h3:=(Ep.1 h1.2.2.1).2.1
  exact⟨h1.2.1,by omega,by omega⟩
 rcases e with e|e
 ·exact Qfm htF f hf g hg e
 have h1:=Dl htF hf
 have h2:=Dl htF hg
 rw[e]at h1
 exact Option.some.inj (h1.symm.trans h2)
theorem Qep{k:Kd}(hk:C0 k){sg:List UInt8}(hs:k.signs=63::sg):J7 (63::Bi k.part)=decide (k.part.signs.head?=some 63):=by
 have e:k.part.signs=sg:=by unfold Kd.part;rw[hs];rfl
 obtain⟨h1,h2,h3⟩:=(Gh hk).1
 unfold J7
 cases hsg:k.part.signs with
 |cons c z=>
  have:Bi k.part=c::(z++Ca k.part):=by unfold Bi;rw[hsg];rfl
  rw[this]
  by_cases hc:c=63<;>simp[hc]
 |nil=>
  have hb:∃c z,Bi k.part=c::z/\c≠63:=by
   unfold Bi Ca
   rw[hsg]
   rcases h2 with⟨hb,_⟩|⟨hb,_⟩
   ·rw[hb];exact⟨64,_,rfl,by decide⟩
   rcases hb with hb|hb|hb<;>rw[hb]<;>exact⟨_,_,rfl,by decide⟩
  obtain⟨c,z,e1,e2⟩:=hb
  rw[e1]
  simp[e2]
theorem Qdr(w0:World)(xs:List (Ty × Value))(A:Option Addr)(c:Nat)(hsc:Mc w0 (.slice A xs.length c) xs)(hok:No (Ah xs)):∀d,d<=1001->∀k,C0 k->B9 (Ah xs) k->PkC w0 (Ah xs) (.slice A xs.length c) k d:=by
 intro d
 induction d with
 |zero=>
  intro _ k hk hr s W hW hs
  exact Qca (Ah xs) k _ rfl s (Bi k) 0 (by omega) (by omega) W _ rfl (.inr (.inl (by decide)))
 |succ d ih=>
  intro hd k hk hr s W hW hs
  have ih:=ih (by omega)
  have hkl:=hk.2.2
  have hp:=(Gh hk).1
  have hG:=J9 hok.1.1 (d+1) k hk s
  by_cases hne:s=[]
  ·refine Qca (Ah xs) k _ rfl s (Bi k) _ (by omega) (by omega) W _ ?_ (.inl hne)
   cases h:Cp (Ah xs) (d+1) k s with
   |none=>rfl
   |some y=>have:=(hG y.1 y.2 h).2.1;rw[hne]at this;simp at this
  cases hsg:k.signs with
  |cons c0 sg=>
   have hrp:B9 (Ah xs) k.part:=fun h=>hr h
   have hkp:Bi k=c0::Bi k.part:=by unfold Bi Kd.part;rw[hsg];rfl
   rcases Kb hk hsg with rfl|rfl
   ·have hq:Cp (Ah xs) (d+1) k s=Xq (Cp (Ah xs) d k.part) 1000 s:=by conv=>lhs;unfold Cp;rw[hsg];simp
    rw[hq,hkp]
    refine Qhr w0 (Ah xs) k _ rfl s (Bi k.part) (by rw[hkp]at hkl;simp at hkl;omega) _ (by omega) (by omega) W hW hne _ fun W' hW'=>?_
    have:=Vr w0 (Ah xs) (.slice A xs.length c) rfl k sg hsg (by omega) d (by omega) s W' hW' hne hs (ih k.part hp hrp) (fun s v r h=>(J9 hok.1.1 d k.part hp s v r h).2.1) _ rfl
    rwa [hkp]at this
   have hnk:=Qep hk hsg
   by_cases h63:k.part.signs.head?=some 63
   ·have hq:Cp (Ah xs) (d+1) k s=none:=by conv=>lhs;unfold Cp;rw[hsg];simp[h63]
    refine Qca (Ah xs) k _ rfl s (Bi k) _ (by omega) (by omega) W _ hq (.inr (.inr ?_))
    rw[hkp,hnk,h63];rfl
   have hq:Cp (Ah xs) (d+1) k s=match Dt Fv s with|some z=>some (.mk 63 [] 0 [],z)|none=>Qij (Cp (Ah xs) d k.part s):=by
    conv=>lhs;unfold Cp;rw[hsg]
    simp only
    rw[if_neg (by decide),if_neg h63]
    cases Dt Fv s with
    |some z=>rfl
    |none=>cases Cp (Ah xs) d k.part s<;>rfl
   rw[hkp]
   exact Qg3 w0 (Ah xs) k _ rfl s (Bi k.part) hkp (by rw[hkp]at hkl;simp at hkl;omega) (by rw[hnk];exact decide_eq_false h63) d (by omega) W hW hne hs (Cp (Ah xs) d k.part s) (fun W' hW'=>ih k.part hp hrp s W' hW' hs) _ hq
  |nil=>
   have hk':=hk
   obtain⟨h1,h2,h3⟩:=hk
   rcases h2 with⟨hb,hn⟩|⟨hb,_⟩
   ·have hft:∃t tv,E0 xs k.name=some (t,tv):=by
     have:=hr hb
     rw[Ki]at this
     cases h:E0 xs k.name with
     |none=>rw[h]at this;cases this
     |some y=>exact⟨y.1,y.2,rfl⟩
    obtain⟨t,tv,hx⟩:=hft
    obtain⟨hm,_,hft⟩:=Ek hx
    have htS:t∈Ah xs:=(Bq hft).1
    have hty:=hok.1.1 t htS
    have hfs:Fc w0 tv t.fields:=by obtain⟨_,_,_,_,_,hf⟩:=hsc;exact hf _ hm
    have hq:Cp (Ah xs) (d+1) k s=Jn (Ah xs) (Cp (Ah xs) d) t s:=by conv=>lhs;unfold Cp;rw[hsg];simp only;rw[if_pos hb,hft]
    have hkb:Bi k=64::(k.name++[59]):=by unfold Bi Ca;rw[hsg,hb];rfl
    have hrf:M1 xs k=some (t,tv):=by unfold M1;rw[if_pos ⟨hsg,hb⟩];exact hx
    have hrc:=fun W' (hW':Below w0.heap.size w0 W')=>G6 (.slice A xs.length c) xs k W' (hsc.below hW') hk'
    rw[hrf]at hrc
    obtain⟨A5,c5,rfl,hl5,hr5⟩:=hfs
    have hfs:Fc w0 (.slice A5 t.fields.length c5) t.fields:=⟨A5,c5,rfl,hl5,hr5⟩
    obtain⟨c0,z,rfl⟩:∃c0 z,s=c0::z:=by cases s with|nil=>exact absurd rfl hne|cons c z=>exact⟨c,z,rfl⟩
    rw[hq]
    have hnl:k.name.length<=98:=by rw[hkb]at h3;simp at h3;omega
    have key:=Qg4 w0 (Ah xs) k (.slice A xs.length c) rfl (c0::z) (k.name++[59]) (by simp;omega) ((d+1:Nat):Int) (by omega) (by omega) W hW hne (Jn (Ah xs) (Cp (Ah xs) d) t (c0::z)) t.sort t.name A5 t.fields.length c5
    rw[<-hkb]at key
    refine key hrc (fun h69 W' hW'=>?_) (fun h69 W' hW'=>?_)
    ·have:=Vk (Ah xs) k (by omega) (.slice A xs.length c) rfl t.name A5 c5 t.fields c0 z W' (by simp at hs;omega) (hfs.below hW') (enN t.fields (c0::z)) rfl
     have e:Jn (Ah xs) (Cp (Ah xs) d) t (c0::z)=enN t.fields (c0::z):=by unfold Jn;rw[if_pos h69];rfl
     rw[e,h69]
     exact this
    have hst:t.sort=82\/t.sort=85:=by
     rcases hty.1 with h|h|h
     ·exact .inl h
     ·exact .inr h
     exact absurd h h69
    have e:Jn (Ah xs) (Cp (Ah xs) d) t (c0::z)=rcN (Ah xs) (Cp (Ah xs) d) t.sort t.fields (c0::z):=by
     unfold Jn;rw[if_neg h69];rfl
    rw[e]
    exact S2 w0 (.slice A xs.length c) rfl (Ah xs) k (by omega) (Cp (Ah xs) d) t.sort hst t.name A5 c5 t.fields d (by omega) (Qhv w0 xs A c hsc hok k t _ hx h69 d ih) c0 z W' hW' (by simp at hs;omega) _ rfl
   have hb64:k.base≠[64]:=by rcases hb with h|h|h<;>rw[h]<;>decide
   have hq:Cp (Ah xs) (d+1) k s=Ak (Ah xs) 1000 1 k s:=by conv=>lhs;unfold Cp;rw[hsg];simp only;rw[if_neg hb64]
   rw[hq]
   rcases hb with hb|hb|hb
   ·have hk:Bi k=[110]:=by unfold Bi Ca;rw[hsg,hb];rfl
    rw[hk]
    exact Rk (Ah xs) k _ rfl s 110 (.inl rfl) _ (by omega) (by omega) W hne _ fun W'=>Qab (Ah xs) _ rfl s k hsg hb W' (by omega) _ (by unfold Ak;rw[hsg,hb];rfl)
   ·have hk:Bi k=[116]:=by unfold Bi Ca;rw[hsg,hb];rfl
    rw[hk]
    exact Rk (Ah xs) k _ rfl s 116 (.inr (.inl rfl)) _ (by omega) (by omega) W hne _ fun W'=>Z7 (Ah xs) _ rfl s k hsg hb W' (by omega) hne _ (by unfold Ak;rw[hsg,hb];rfl)
   have hk:Bi k=[102]:=by unfold Bi Ca;rw[hsg,hb];rfl
   rw[hk]
   exact Rk (Ah xs) k _ rfl s 102 (.inr (.inr rfl)) _ (by omega) (by omega) W hne _ fun W'=>Qaj (Ah xs) _ rfl s k hsg hb W' (by omega) _ (by unfold Ak;rw[hsg,hb];rfl)
theorem Qi2(w0:World)(xs:List (Ty × Value))(xv:Value)(hxv:xv.oneCell'=true)(hsc:Mc w0 xv xs)(k:Kd)(hk:C0 k)(hsg:k.signs=[])(hbs:k.base=[64])(nm:List UInt8)(fs:List Fd)(tv:Value)(hx:E0 xs k.name=some (⟨69,nm,fs⟩,tv))(hfs:Fc w0 tv fs)(htg:∀f∈fs,f.tag<=200)
  (d:Nat) (hd:d<=1000) (z:List UInt8) (w:World) (hw:Below w0 w0 w) (hz:z.length<=1000000) (o:Option (Fd × List UInt8)) (ho:o=Fz fs z):
  Calls prog 67 #[.agg #[xv],(35::z:List UInt8),.string ⟨(Bi k).toArray⟩,.int .i64 ((d+1:Nat):Int)] w (At (Ah xs) k (enL o) w):=by
 have hkd:∀g,Cd (Ah xs) k (.mk 69 [] g [])=.mk (Bi k) [69] [g] []:=Q9 (Ah xs) k;generalize (((d+1:Nat):Int))=dd at *;obtain⟨A9,c9,rfl,hl9,_⟩:=hfs;have HFs:=@Aa (∀W,Below w0 w0 W->Fc W (.slice A9 fs.length c9) fs) (fun W hW=>Fc.below (show Fc w0 (.slice A9 fs.length c9) fs from⟨A9,c9,rfl,hl9,by assumption⟩) hW)
 have Hr:=Aa (show ∀W,Below w0 w0 W->Calls prog 47 #[xv,.string ⟨(Bi k).toArray⟩] W fun e w'=>e=.returned (.tuple #[.agg #[.int .u8 69,nm,.slice A9 fs.length c9],.bool true])/\Below W W w' from fun W hW=>by
  have h:=G6 xv xs k W (hsc.below hW) hk;rw[show M1 xs k=some (⟨69,nm,fs⟩,.slice A9 fs.length c9)from by unfold M1;rw[if_pos ⟨hsg,hbs⟩];exact hx]at h;exact h)
 have HT:=@Aa (∀W,Below w0 w0 W->Calls prog 108 #[.agg #[xv],z,.agg #[.int .u8 69,nm,.slice A9 fs.length c9]] W (Kv (Fz fs z) z W)) (fun W hW=>Tw xv (.int .u8 69) nm _ hxv rfl rfl fs z W (HFs.o W hW) htg aE);have hkl:(Bi k).length<=100:=cY;have hzl:z.length<=1000000:=hz;have Ho:=Aa ho;rw[<-ho]at HT;have Hw:=Aa hw;have Hkd:=Aa hkd;generalize Bi k=kb at *;clear hw hx hsc htg ho;go_enter func67,ntmps67;go_wp2_with fail;refine(Hr.o _ (Hw.o.alloc Hw.o.size _)).mono ?_;rintro e w1 ⟨rfl,hb1⟩;have hz1:=hb1.size;simp only[World.size_alloc]at hz1;have Hb1:=Aa (((Ay w.heap.size w).alloc (As _) _).trans (hb1.mono aI));have X0:=@Aa (w1.cell? (w,0)=some xv) dB;clear hb1;go_upto_region 5 with fail
 obtain⟨w2,hw2⟩:∃w2,w2=w1.alloc (.cells #[.int .u8 69,nm,.slice A9 fs.length c9] 95):=⟨_,rfl⟩
 have Hb2:=@Aa (Below w w w2) du;have Hl0:=@Aa (w.heap.size<w2.drew.heap.size) eZ;have Hl1:=@Aa (w1.heap.size<w2.drew.heap.size) (by rw[hw2];simp);have X0:=@Aa (w2.drew.cell? (w,0)=some xv) dE;have X1:=@Aa (w2.drew.cell? (w1,0)=some (.int .u8 69)) cw;have X2:=@Aa (w2.drew.cell? (w1,1)=nm) cw;have X3:=@Aa (w2.drew.cell? (w1,2)=some (.slice A9 fs.length c9)) cw;have HC:=@Aa (∀W,Below w2.drew.heap.size w2.drew W->Calls prog 108 #[.agg #[xv],z,.agg #[.int .u8 69,nm,.slice A9 fs.length c9]] W (Kv o z W)) (fun W hW=>HT.o W ((Hw.o.trans (Hb2.o.mono Hw.o.size)).trans ((Ay _ _).drew.trans (hW.mono aI) |>.mono (ac Hw.o.size Hb2.o.size))));rw[<-hw2];clear hw2;refine Sy [58,59,60,61,62,57,63,64,65,13,999,14,15]
  (fun ix v W=>match ix with|0=>v=.agg #[xv]|1=>v=(35::z:List UInt8)|2=>v=(z:List UInt8)|3=>v=.agg #[.int .u8 69,nm,.slice A9 fs.length c9]|_=>True)
  (fun L U W=>Gt w2.drew o z (L 4) (L 5) (L 6) (L 7) (L 8) (L 9) (L 10) (L 11) (L 12) (U 4) (U 5) (U 6) (U 7) (U 8) (U 9) (U 11) (U 12) W) (Gt.start) ?_ ?_
 ·exact fH
 rintro L U W hL hφ hR;clear hφ;obtain⟨n,a,b,c,r,B,hF,u9,u11,u12,hB1,hB2,hrg,hbe⟩:=hR.fin (hL 4 aH) (hL 6 aH) (hL 9 aH) (hL 10 aH) (hL 11 aH) (hL 12 aH);simp only[u9,u11,u12];clear hR hL u9 u11 u12;have y0:W.cell? (B,0)=(n:Int):=by simpa using Ab hrg 0 rfl
 have HF:=Aa hF;have HB:=@Aa (Below w w W) (Hb2.o.trans (((Ay _ _).drew.trans (hbe.mono aI)).mono Hb2.o.size));clear hbe hrg hF;go_wp2_with fail;refine aC (v:=.tuple #[.pointer (some ⟨W.heap.size+1,0,none⟩),r,.bool o.isSome]) (by simp[results,results67,go_sem]) rfl ?_;have hbf:=(HB.o.alloc HB.o.size (.cells #[(n:Int)] 3)).alloc (by simp;have:=HB.o.size;omega) (.cells #[kb,.string ⟨#[69]⟩,.slice (some ⟨W.heap.size,0,none⟩) 1 1,.slice none 0 0] 68);cases o with
 |none=>exact At.no rfl rfl hbf
 |some y=>
  obtain⟨f,q⟩:=y;obtain⟨rfl,_,_,_,rfl⟩:=HF.o.2.2 f q rfl;refine⟨⟨W.heap.size+1,rfl,?_⟩,hbf⟩;have hsz:=HB.o.size;rw[Hkd.o];refine .mk kb [69] [f.tag] (some ⟨W.heap.size,0,none⟩) none 1 0 [] rfl aI (by show w.heap.size<=W.heap.size+1;omega) (by go_simp) (by go_simp) (by go_simp) (by go_simp) ⟨rfl,by simp[maxLen],fun _=>⟨W.heap.size,0,rfl,by simp;omega,fun j u hu=>?_⟩⟩ ⟨rfl,af _,fun h=>absurd h aI⟩ aI aI (fun g o _ e=>?_) (fun _ _ h=>absurd h aI) (fun x hx=>?_)
  ·match j,hu with
   |0,hu=>
    simp[B6]at hu;subst hu;go_simp
   |j+1,hu=>simp[B6]at hu
  ·injection e with e;injection e with e;subst e;exact hsz
  simp at hx
theorem Qjd(w0:World)(xs:List (Ty × Value))(xv:Value)(hxv:xv.oneCell'=true)(hsc:Mc w0 xv xs)(k:Kd)(hk:C0 k)(hsg:k.signs=[])(hbs:k.base=[64])(nm:List UInt8)(fs:List Fd)(tv:Value)(hx:E0 xs k.name=some (⟨85,nm,fs⟩,tv))(hfs:Fc w0 tv fs)(htg:∀f∈fs,f.tag<=200)
  (d:Nat) (hd:d<=1000) (z:List UInt8) (w:World) (hw:Below w0 w0 w) (hz:z.length<=1000000) (o:Option (Fd × List UInt8)) (ho:o=Fz fs z) (H:∀k',C0 k'->SrC w0 (Ah xs) xv k' d) (hfd:∀f∈fs,C0 f.kind) (htf:B0 (Ah xs) k.name=some ⟨85,nm,fs⟩)
  (R:Kd->List UInt8->Option (Vl × List UInt8)) (hR0:R=Ak (Ah xs) 20 d):
  Calls prog 67 #[.agg #[xv],(60::z:List UInt8),.string ⟨(Bi k).toArray⟩,.int .i64 ((d+1:Nat):Int)] w (At (Ah xs) k (unL R o) w):=by
 have hkd:∀f v,Bp fs f.tag=some f->Cd (Ah xs) k (.mk 85 [] f.tag [v])=.mk (Bi k) [85] [f.tag] [Cd (Ah xs) f.kind v]:=fun f v hf=>by rw[Q6,Ga htf hf]
 have HRd:=@Aa (∀k',C0 k'->∀(s:List UInt8) (W:World),Below w0 w0 W->s.length<=1000000->Calls prog 30 #[.agg #[xv],s,.string ⟨(Bi k').toArray⟩,(d:Int)] W (At (Ah xs) k' (R k' s) W)) (fun k' hk' s W hW hs=>by rw[hR0];exact H k' hk' s W hW hs)
 have HFd:=Aa (show ∀f r,o=some (f,r)->C0 f.kind/\(Bi f.kind).length<=100/\Bp fs f.tag=some f from fun f r h=>by
  obtain⟨_,h2,_⟩:=Jc (ho ▸ h);have:=hfd f (P9 h2).1;exact⟨this,by have:=this.2.2;omega,h2⟩)
 clear H hR0 hfd htf;have d1:(((d+1:Nat):Int)) - 1=(d:Int):=aE;have d4:(0:Int)<=(d:Int):=aE;have d5:(d:Int)<=1000:=aE;have hwd:IntKind.i64.wrap (d:Int)=(d:Int):=IntWalk.i64_in _ aE;generalize (((d+1:Nat):Int))=dd at *;obtain⟨A9,c9,rfl,hl9,_⟩:=hfs;have HFs:=@Aa (∀W,Below w0 w0 W->Fc W (.slice A9 fs.length c9) fs) (fun W hW=>Fc.below (show Fc w0 (.slice A9 fs.length c9) fs from⟨A9,c9,rfl,hl9,by assumption⟩) hW)
 have Hr:=Aa (show ∀W,Below w0 w0 W->Calls prog 47 #[xv,.string ⟨(Bi k).toArray⟩] W fun e w'=>e=.returned (.tuple #[.agg #[.int .u8 85,nm,.slice A9 fs.length c9],.bool true])/\Below W W w' from fun W hW=>by
  have h:=G6 xv xs k W (hsc.below hW) hk;rw[show M1 xs k=some (⟨85,nm,fs⟩,.slice A9 fs.length c9)from by unfold M1;rw[if_pos ⟨hsg,hbs⟩];exact hx]at h;exact h)
 have HT:=@Aa (∀W,Below w0 w0 W->Calls prog 108 #[.agg #[xv],z,.agg #[.int .u8 85,nm,.slice A9 fs.length c9]] W (Kv (Fz fs z) z W)) (fun W hW=>Tw xv (.int .u8 85) nm _ hxv rfl rfl fs z W (HFs.o W hW) htg aE);have hkl:(Bi k).length<=100:=cY;have hzl:z.length<=1000000:=hz;have Ho:=Aa ho;rw[<-ho]at HT;have Hw:=Aa hw;have Hkd:=Aa hkd;generalize Bi k=kb at *;clear hw hx hsc htg ho;go_enter func67,ntmps67;go_wp2_with fail;refine(Hr.o _ (Hw.o.alloc Hw.o.size _)).mono ?_;rintro e w1 ⟨rfl,hb1⟩;have hz1:=hb1.size;simp only[World.size_alloc]at hz1;have Hb1:=Aa (((Ay w.heap.size w).alloc (As _) _).trans (hb1.mono aI));have X0:=@Aa (w1.cell? (w,0)=some xv) dB;clear hb1;go_upto_region 8 with fail
 obtain⟨w2,hw2⟩:∃w2,w2=w1.alloc (.cells #[.int .u8 85,nm,.slice A9 fs.length c9] 95):=⟨_,rfl⟩
 have Hb2:=@Aa (Below w w w2) du;have Hl0:=@Aa (w.heap.size<w2.drew.heap.size) eZ;have Hl1:=@Aa (w1.heap.size<w2.drew.heap.size) (by rw[hw2];simp);have X0:=@Aa (w2.drew.cell? (w,0)=some xv) dE;have X1:=@Aa (w2.drew.cell? (w1,0)=some (.int .u8 85)) cw;have X2:=@Aa (w2.drew.cell? (w1,1)=nm) cw;have X3:=@Aa (w2.drew.cell? (w1,2)=some (.slice A9 fs.length c9)) cw;have HC:=@Aa (∀W,Below w2.drew.heap.size w2.drew W->Calls prog 108 #[.agg #[xv],z,.agg #[.int .u8 85,nm,.slice A9 fs.length c9]] W (Kv o z W)) (fun W hW=>HT.o W ((Hw.o.trans (Hb2.o.mono Hw.o.size)).trans ((Ay _ _).drew.trans (hW.mono aI) |>.mono (ac Hw.o.size Hb2.o.size))));rw[<-hw2];clear hw2;refine Sy [84,85,86,87,88,83,89,90,91,16,999,17,18]
  (fun ix v W=>match ix with|0=>v=.agg #[xv]|1=>v=(60::z:List UInt8)|2=>v=(z:List UInt8)|3=>v=.agg #[.int .u8 85,nm,.slice A9 fs.length c9]|_=>True)
  (fun L U W=>Gt w2.drew o z (L 4) (L 5) (L 6) (L 7) (L 8) (L 9) (L 10) (L 11) (L 12) (U 4) (U 5) (U 6) (U 7) (U 8) (U 9) (U 11) (U 12) W) (Gt.start) ?_ ?_
 ·exact fH
 rintro L U W hL hφ hR;clear hφ;obtain⟨n,a,b,c,r,B,hF,u9,u11,u12,hB1,hB2,hrg,hbe⟩:=hR.fin (hL 4 aH) (hL 6 aH) (hL 9 aH) (hL 10 aH) (hL 11 aH) (hL 12 aH);simp only[u9,u11,u12];clear hR hL u9 u11 u12;have HF:=Aa hF;have HB:=@Aa (Below w w W) (Hb2.o.trans (((Ay _ _).drew.trans (hbe.mono aI)).mono Hb2.o.size));have hl0:w.heap.size<W.heap.size:=by have:=Hl0.o;have:=hbe.size;omega
 have q0:W.cell? (w,0)=some xv:=(hbe.cell (p:=⟨w.heap.size,0,none⟩) Hl0.o).trans X0.o;have hBw:w.heap.size<=B:=by have:=Hl0.o;omega
 clear hbe hF;cases o with
 |none=>
  simp only[Option.isSome_none];clear hrg;go_wp2_with fail;refine aC (v:=.tuple #[.pointer none,(60::z:List UInt8),.bool false]) (by simp[results,results67,go_sem]) rfl ?_;exact At.no rfl rfl HB.o
 |some y=>
  obtain⟨f,q⟩:=y;obtain⟨rfl,rfl,rfl,rfl,rfl⟩:=HF.o.2.2 f q rfl;simp only[Option.isSome_some];have hrl:=HF.o.1;obtain⟨hkf,hkfl,hft⟩:=HFd.o f r rfl;have y0:W.cell? (B,0)=(f.tag:Int):=by simpa using Ab hrg 0 rfl
  have y2:W.cell? (B,2)=some (.string ⟨(Bi f.kind).toArray⟩):=by simpa using Ab hrg 2 rfl
  have HRd:=Aa (fun(s:List UInt8) (W:World) h1 h2=>HRd.o f.kind hkf s W h1 h2);have Hft:=Aa hft;generalize hkb2:Bi f.kind=kf at *;clear hrg hkf hft;cases r with
  |nil=>
   go_wp2_with fail;refine aC (v:=.tuple #[.pointer none,(60::z:List UInt8),.bool false]) (by simp[results,results67,go_sem]) rfl ?_;exact At.no rfl rfl HB.o
  |cons c9 q1=>
   by_cases h61:c9=61
   ·subst h61;have HU:=@Aa (unL R (some (f,61::q1))=match R f.kind q1 with|none=>none|some (v,q)=>(match Ae 62 q with|some z'=>some (.mk 85 [] f.tag [v],z')|none=>none)) (by first|(simp only[unL,Aq];done)|(simp only[unL,Aq];rfl));have t61:((((61:UInt8).toNat:Nat):Int) != 61)=false:=rfl;have HW9:=@Aa (Below w0 w0 W.drew) ((Hw.o.trans (HB.o.mono Hw.o.size)).drew);have hq1:q1.length<=1000000:=by simp at hrl;omega
    have HCR:=Aa (HRd.o q1 W.drew HW9.o hq1);generalize R f.kind q1=oq at *;simp only[List.length_cons]at hrl;go_wp2_with fail;refine Bh [105,106,107,108,109,110,111,112,104,113,114,115,19,20,21] aJ aJ aJ (fun u=>by dsimp only[Bn,Bk,List.set,aj,Nat.reduceAdd])
     (fun ix v W5=>match ix with|0=>v=.agg #[xv]|1=>v=(61::q1:List UInt8)|2=>v=(q1:List UInt8)|3=>v=(B,2)|4=>v=(kf:List UInt8)|5=>v=.int .i64 dd|6=>v=(d:Int)|_=>True)
     (fun L U W5=>Fw (SrQ W.drew (Ah xs) f.kind oq) (W.drew) (L 7) (L 8) (L 9) (L 10) (L 11) (L 12) (L 13) (L 14) (U 7) (U 8) (U 9) (U 10) (U 11) (U 12) (U 13) (U 14) W5) (fun _ _=>True) (fun _ _ _ _ _ h=>h) (⟨fun _=>rfl,fun h=>Bool.noConfusion h⟩) ?_ ?_
    ·repeat (first|exact Ba.nil|(refine Ba.cons ?_ ?_;rotate_left))
     all_goals
      rintro L U W5 hL hpre hR hun hdep K hK;have HR:=Aa hR;have Hdep:=Aa hdep;clear hun hdep hR;first|(simp[Region.binds]at hpre;done)|simp[Region.binds]at hpre|clear hpre
     ·exact gp
     ·exact fG
     ·go_simp;rw[if_pos aE];go_simp;exact hK q1 _ _ rfl Ad HR.o aF
     ·exact fG
     ·exact gq
     ·exact fG
     ·exact gI
     ·exact fV
     ·exact gT
     ·exact gi
     ·exact gj
     ·exact gk
     ·exact gS
     ·exact gK
     ·exact gL
    rintro L U W5 hL hφ hR;clear hφ;obtain⟨vp,vr,vk,hq,ua,ub,ue⟩:=hR.fin (hL 7 aH) (hL 12 aH) (hL 13 aH) (hL 14 aH);simp only[ua,ub,ue];clear hR hL ua ub ue;have HB5:=@Aa (Below w w W5) ((HB.o.drew).trans (hq.1.mono (by simp;exact HB.o.size)));have y05:W5.cell? (B,0)=(f.tag:Int):=(hq.1.cell (p:=⟨B,0,none⟩) (by simpa using hB2)).trans y0;have hz5:=hq.1.size;simp only[World.size_drew]at hz5;obtain⟨_,hm⟩:=hq;cases oq with
    |none=>
     obtain⟨⟨q0,rfl⟩,⟨r0,rfl⟩,rfl⟩:=hm;have HN:=Aa HU.o;go_wp2_with fail;refine aC (v:=.tuple #[.pointer none,(60::z:List UInt8),.bool false]) (by simp[results,results67,go_sem]) rfl ?_;exact At.no HN.o rfl HB5.o
    |some y=>
     obtain⟨v,r1⟩:=y;obtain⟨⟨b5,rfl,hsv⟩,rfl,rfl⟩:=hm;have Hsv:=Aa hsv;clear hsv;cases r1 with
     |nil=>
      have HN:=Aa HU.o;go_wp2_with fail;refine aC (v:=.tuple #[.pointer none,(60::z:List UInt8),.bool false]) (by simp[results,results67,go_sem]) rfl ?_;exact At.no HN.o rfl HB5.o
     |cons c8 z8=>
      by_cases h62:c8=62
      ·subst h62;have HY:=@Aa (unL R (some (f,61::q1))=some (.mk 85 [] f.tag [v],z8)) (by rw[HU.o];simp only[Aq]);have t62:((((62:UInt8).toNat:Nat):Int) != 62)=false:=rfl;go_wp2_with fail;refine Sy [128,129,130,131,132,133,134,135,136,137,8,9,10]
        (fun ix v W=>match ix with|0=>v=(kb:List UInt8)|1=>v=B|2=>v=(f.tag:Int)|4=>v=b5|8=>v=(62::z8:List UInt8)|9=>v=(z8:List UInt8)|11=>v=(z8:List UInt8)|12=>v=.bool true|_=>True)
        (fun L U W=>Fo W5.drew kb f.tag b5 (L 3) (L 5) (L 6) (L 7) (L 10) (U 3) (U 5) (U 6) (U 7) (U 10) W) (Fo.start) ?_ ?_
       ·repeat (first|exact Ba.nil|(refine Ba.cons ?_ ?_;rotate_left))
        all_goals
         rintro L U W hL hpre HR Hdep K hK;first|(simp[Region.binds]at hpre;done)|simp[Region.binds]at hpre|clear hpre
        iterate 2
         ·exact fG
        ·have y06:=(HR.o.be.cell (p:=⟨B,0,none⟩) aM).trans ((ay _ _).trans y05);exact iW
        ·have h6:L 6=false:=Ce Hdep.o 6 3 rfl hL;have h7:L 7=false:=Ce Hdep.o 7 6 rfl h6;go_simp;exact hK _ _ _ Ad Ad (HR.o.put3 h6 h7 _) aF
        ·exact fG
        ·have h6:L 6=false:=Ce Hdep.o 6 5 rfl hL;have h7:L 7=false:=Ce Hdep.o 7 6 rfl h6;go_simp;exact hK _ _ _ Ad Ad (HR.o.put5 h6 h7 _) aF
        ·have l3:=hpre.2.1;have l5:=hpre.2.2;obtain⟨B3,u3,_⟩:=HR.o.a3 l3;obtain⟨B5,u5,_⟩:=HR.o.a5 l5;simp only[u3,u5];go_simp;exact hK (.agg #[kb,.string ⟨#[85]⟩,.slice (B3,0) 1 1,.slice (B5,0) 1 1]) _ _ Ad Ad (HR.o.put6 l3 l5 (by simp[u3,u5])) (by simp[Act.put,hpre,u3,u5])
        ·have l6:L 6=true:=aG;have u6:=(HR.o.a6 l6).2.2;have h10:L 10=false:=Ce Hdep.o 10 7 rfl hL;obtain⟨B3,u3,_⟩:=HR.o.a3 (HR.o.a6 l6).1;obtain⟨B5,u5,_⟩:=HR.o.a5 (HR.o.a6 l6).2.1;rw[u3,u5]at u6;simp only[u6];go_simp;exact hK _ _ _ Ad Ad (HR.o.put7 l6 h10 (by rw[u3,u5])) (by simp[Act.put,hpre,u6,u3,u5])
        ·exact fG
        ·go_simp;rw[if_pos aE];go_simp;exact hK z8 _ _ rfl Ad HR.o aF
        ·go_simp;exact hK _ _ _ Ad Ad HR.o.put10 aF
        iterate 2
         ·exact fG
       rintro L U W hL hφ hR;obtain⟨B7,u10,hS⟩:=hR.fin (hL 7 aH) (hL 10 aH) (lo:=w.heap.size) (by simp;exact HB5.o.size) ((Hsv.o.mono (fun c hc _=>ac (by simp;exact HB.o.size) hc)).after (Ay _ _).drew);have u11:U 11=(z8:List UInt8):=hφ 11 aH;have u12:U 12=.bool true:=hφ 12 aH;have hbe:=hR.be;simp only[u10,u11,u12];clear hR hL hφ u10 u11 u12;go_wp2_with fail;refine aC (v:=.tuple #[B7,z8,.bool true]) (by simp[results,results67,go_sem]) rfl ?_;rw[HY.o];refine⟨⟨B7,rfl,?_⟩,HB5.o.trans ((((Ay _ _).drew).trans (hbe.mono aI)).mono HB5.o.size)⟩;rw[Hkd.o f v Hft.o];exact hS
      have t62:((c8.toNat:Int) != 62)=true:=by have:=Am h62;simpa using this
      have HN:=@Aa (unL R (some (f,61::q1))=none) (by rw[HU.o];simp only[Bl h62]);clear h62;go_wp2_with fail;refine aC (v:=.tuple #[.pointer none,(60::z:List UInt8),.bool false]) (by simp[results,results67,go_sem]) rfl ?_;exact At.no HN.o rfl HB5.o
   have t61:((c9.toNat:Int) != 61)=true:=by have:=Am h61;simpa using this
   have HN:=@Aa (unL R (some (f,c9::q1))=none) (by simp only[unL,Bl h61]);clear h61;go_wp2_with fail;refine aC (v:=.tuple #[.pointer none,(60::z:List UInt8),.bool false]) (by simp[results,results67,go_sem]) rfl ?_;exact At.no HN.o rfl HB.o
theorem Qiz(w0:World)(xs:List (Ty × Value))(xv:Value)(hxv:xv.oneCell'=true)(hsc:Mc w0 xv xs)(k:Kd)(hk:C0 k)(hsg:k.signs=[])(hbs:k.base=[64])(nm:List UInt8)(fs:List Fd)(tv:Value)(hx:E0 xs k.name=some (⟨82,nm,fs⟩,tv))(hfs:Fc w0 tv fs)(htg:∀f∈fs,f.tag<=200)
  (d:Nat) (hd:d<=1000) (z:List UInt8) (w:World) (hw:Below w0 w0 w) (hz:z.length<=1000000) (o:Option (Fd × List UInt8)) (ho:o=Fz fs z) (q:Option (Vl × List UInt8))
  (HC:∀W,Below w0 w0 W->Calls prog 107 #[.agg #[xv],z,.string ⟨(Bi k).toArray⟩,.agg #[.int .u8 82,nm,tv],.int .i64 ((d+1:Nat):Int)] W (At (Ah xs) k q W)):
  Calls prog 67 #[.agg #[xv],(123::z:List UInt8),.string ⟨(Bi k).toArray⟩,.int .i64 ((d+1:Nat):Int)] w (At (Ah xs) k q w):=by
 have hkd:True:=Ad;have d2:(((d+1:Nat):Int))<=1001:=aE;generalize (((d+1:Nat):Int))=dd at *;have HC:=Aa HC;obtain⟨A9,c9,rfl,hl9,_⟩:=hfs;have HFs:=@Aa (∀W,Below w0 w0 W->Fc W (.slice A9 fs.length c9) fs) (fun W hW=>Fc.below (show Fc w0 (.slice A9 fs.length c9) fs from⟨A9,c9,rfl,hl9,by assumption⟩) hW)
 have Hr:=Aa (show ∀W,Below w0 w0 W->Calls prog 47 #[xv,.string ⟨(Bi k).toArray⟩] W fun e w'=>e=.returned (.tuple #[.agg #[.int .u8 82,nm,.slice A9 fs.length c9],.bool true])/\Below W W w' from fun W hW=>by
  have h:=G6 xv xs k W (hsc.below hW) hk;rw[show M1 xs k=some (⟨82,nm,fs⟩,.slice A9 fs.length c9)from by unfold M1;rw[if_pos ⟨hsg,hbs⟩];exact hx]at h;exact h)
 have hkl:(Bi k).length<=100:=cY;have hzl:z.length<=1000000:=hz;have Hw:=Aa hw;have Hkd:=Aa hkd;generalize Bi k=kb at *;clear hw hx hsc htg ho;go_enter func67,ntmps67;go_wp2_with fail;refine(Hr.o _ (Hw.o.alloc Hw.o.size _)).mono ?_;rintro e w1 ⟨rfl,hb1⟩;have hz1:=hb1.size;simp only[World.size_alloc]at hz1;have Hb1:=Aa (((Ay w.heap.size w).alloc (As _) _).trans (hb1.mono aI));have X0:=@Aa (w1.cell? (w,0)=some xv) dB;clear hb1;go_upto_region 3 with fail
 obtain⟨w2,hw2⟩:∃w2,w2=w1.alloc (.cells #[.int .u8 82,nm,.slice A9 fs.length c9] 95):=⟨_,rfl⟩
 have Hb2:=@Aa (Below w w w2) du;have Hl0:=@Aa (w.heap.size<w2.drew.heap.size) eZ;have Hl1:=@Aa (w1.heap.size<w2.drew.heap.size) (by rw[hw2];simp);have X0:=@Aa (w2.drew.cell? (w,0)=some xv) dE;have X1:=@Aa (w2.drew.cell? (w1,0)=some (.int .u8 82)) cw;have X2:=@Aa (w2.drew.cell? (w1,1)=nm) cw;have X3:=@Aa (w2.drew.cell? (w1,2)=some (.slice A9 fs.length c9)) cw;rw[<-hw2];clear hw2;have HC9:=Aa (HC.o w2.drew (Hw.o.trans (Hb2.o.mono Hw.o.size)).drew);refine Sy [38,39,40,41,42,43,44,45,46,47,8,9,10]
  (fun ix v W=>match ix with|0=>v=.agg #[xv]|1=>v=(123::z:List UInt8)|2=>v=(z:List UInt8)|3=>v=(kb:List UInt8)|4=>v=.agg #[.int .u8 82,nm,.slice A9 fs.length c9]|5=>v=.int .i64 dd|_=>True)
  (fun L U W=>Fw (SrQ w2.drew (Ah xs) k q) (w2.drew) (L 6) (L 6) (L 7) (L 8) (L 9) (L 10) (L 11) (L 12) (U 6) (U 6) (U 7) (U 8) (U 9) (U 10) (U 11) (U 12) W) (⟨fun _=>rfl,fun h=>Bool.noConfusion h⟩) ?_ ?_
 ·repeat (first|exact Ba.nil|(refine Ba.cons ?_ ?_;rotate_left))
  all_goals
   rintro L U W hL hpre HR Hdep K hK;first|(simp[Region.binds]at hpre;done)|simp[Region.binds]at hpre|clear hpre
  ·have h6:L 6=false:=Ce Hdep.o 6 0 rfl hL;have hW:=HR.o.no h6;subst hW;have q0:=X0.o;exact iW
  ·exact fG
  ·exact gn
  ·exact fG
  ·have h6:L 6=false:=Ce Hdep.o 6 4 rfl hL;have hW:=HR.o.no h6;subst hW;have q1:=X1.o;have q2:=X2.o;have q3:=X3.o;exact iW
  ·exact fG
  ·have h7:L 7=false:=Ce Hdep.o 7 6 rfl hL;have h8:L 8=false:=Ce Hdep.o 8 6 rfl hL;have h9:L 9=false:=Ce Hdep.o 9 6 rfl hL;have h10:L 10=false:=Ce Hdep.o 10 7 rfl h7;have h11:L 11=false:=Ce Hdep.o 11 8 rfl h8;have h12:L 12=false:=Ce Hdep.o 12 9 rfl h9;have hW:=HR.o.no hL;subst hW;go_simp;refine HC9.o.mono ?_;rintro e w5 hp;obtain⟨vp,vr,vk,rfl,hq⟩:=hp.q;go_simp;exact hK _ _ _ Ad Ad (Fw.call2 h7 h8 h9 h10 h11 h12 hq) aF
  ·have l6:L 6=true:=aG;obtain⟨vp,vr,vk,um,g0,g1,g2⟩:=HR.o.get l6 l6;simp only[um];go_simp;exact hK _ _ _ Ad Ad g0 bW
  ·have l6:L 6=true:=aG;obtain⟨vp,vr,vk,um,g0,g1,g2⟩:=HR.o.get l6 l6;simp only[um];go_simp;exact hK _ _ _ Ad Ad g1 bW
  ·have l6:L 6=true:=aG;obtain⟨vp,vr,vk,um,g0,g1,g2⟩:=HR.o.get l6 l6;simp only[um];go_simp;exact hK _ _ _ Ad Ad g2 bW
  ·have l7:L 7=true:=aG;go_simp;exact hK (U 7) _ _ Ad Ad (HR.o.as0 l7) aF
  ·have l8:L 8=true:=aG;go_simp;exact hK (U 8) _ _ Ad Ad (HR.o.as1 l8) aF
  ·have l9:L 9=true:=aG;go_simp;exact hK (U 9) _ _ Ad Ad (HR.o.as2 l9) aF
 rintro L U W hL hφ hR;clear hφ;obtain⟨vp,vr,vk,hq,ua,ub,ue⟩:=hR.fin (hL 6 aH) (hL 10 aH) (hL 11 aH) (hL 12 aH);simp only[ua,ub,ue];clear hR hL ua ub ue;go_wp2_with fail;refine aC (v:=.tuple #[vp,vr,vk]) (by simp[results,results67,go_sem]) rfl ?_;exact hq.post Hb2.o.drew
theorem Qib(S:List Ty)(k:Kd)(w0:World)(xv:Value)(hxv:xv.oneCell'=true)(kb:List UInt8)(hkl:kb.length<=100)(st:Int)(nm:ByteArray)(A:Option Addr)(n c:Nat)(b:Bool)(c0:UInt8)(z:List UInt8)(dd:Int)(w:World)(hw:Below w0 w0 w)(hz:z.length<=1000000)
  (hr:∀W,Below w0 w0 W->Calls prog 47 #[xv,kb] W fun e w'=>e=.returned (.tuple #[.agg #[.int .u8 st,.string nm,.slice A n c],.bool b])/\Below W W w')
  (hc:((st == 82)=true/\((c0.toNat:Int) == 123)=false/\(st == 69)=false/\(st == 85)=false)\/((st == 82)=false/\(st == 69)=true/\((c0.toNat:Int) == 35)=false/\(st == 85)=false)\/((st == 82)=false/\(st == 69)=false/\(st == 85)=true/\((c0.toNat:Int) == 60)=false)\/((st == 82)=false/\(st == 69)=false/\(st == 85)=false)):
  Calls prog 67 #[.agg #[xv],(c0::z:List UInt8),kb,.int .i64 dd] w (At S k none w):=by
 have Hr:=Aa hr;have Hw:=Aa hw;clear hr hw;have key:∀w1,Below (w.alloc (.cells #[xv] 35)).heap.size (w.alloc (.cells #[xv] 35)) w1->Below w w (w1.alloc (.cells #[.int .u8 st,.string nm,.slice A n c] 95)):=fun w1 hb=>by
  have h1:=((Ay w.heap.size w).alloc (As _) (.cells #[xv] 35)).trans (hb.mono aI);exact h1.alloc h1.size _
 have Hkey:=Aa key;clear key;rcases hc with⟨h1,h2,h3,h4⟩|⟨h1,h2,h3,h4⟩|⟨h1,h2,h3,h4⟩|⟨h1,h2,h3⟩;all_goals
  go_enter func67,ntmps67;go_wp2_with fail;refine(Hr.o _ (Hw.o.alloc Hw.o.size _)).mono ?_;rintro e w1 ⟨rfl,hb1⟩;have Hb2:=Aa (Hkey.o w1 hb1);clear hb1;go_wp2_with fail;refine aC (v:=.tuple #[.pointer none,(c0::z:List UInt8),.bool false]) (by simp[results,results67,go_sem]) rfl ?_;exact At.no rfl rfl Hb2.o
structure RS(S:List Ty)(K:Kd->List UInt8->Option (Vl × List UInt8))(fs:List Fd)(s:List UInt8)(ps:List (Fd × Vl))(last:Nat)(tt:List UInt8):Prop where
 eq:Do S K fs 201 0 s=Nq ps (Do S K fs (201 - ps.length) last tt)
 lo:ps.length<=last
 hi:last<=200
 la:last=(ps.map (·.1.tag)).getLastD 0
 fd:∀p∈ps,Bp fs p.1.tag=some p.1
 le:tt.length<=s.length
section
variable {S:List Ty} {K:Kd->List UInt8->Option (Vl × List UInt8)} {fs:List Fd} {s tt r q z z':List UInt8} {ps:List (Fd × Vl)} {last:Nat} {f:Fd} {v:Vl}
theorem RS.init:RS S K fs s [] 0 s:=⟨by cases h:Do S K fs 201 0 s<;>simp[Nq,h],As _,by omega,rfl,by simp,As _⟩
theorem RS.one(h:RS S K fs s ps last tt):∃m,201 - ps.length=m+1/\Do S K fs 201 0 s=Nq ps (match Ct K fs tt with
  |none=>none
  |some (p,r)=>if p.1.tag<=last\/Au p.2=Kn S p.1 then none else match Ae 44 r with
   |some q=>(match Do S K fs m p.1.tag q with|some (ps,z)=>some (p::ps,z)|none=>none)
   |none=>match Ae 125 r with|some q=>some ([p],q)|none=>none):=
 ⟨200 - ps.length,by have:=h.lo;have:=h.hi;omega,by rw[h.eq,show 201 - ps.length=(200 - ps.length)+1 by have:=h.lo;have:=h.hi;omega];rfl⟩
theorem RS.tagN(h:RS S K fs s ps last tt)(h1:Fz fs tt=none):Do S K fs 201 0 s=none:=by
 obtain⟨m,_,e⟩:=h.one;rw[e];simp[Ct,h1,Nq]
theorem RS.sign(h:RS S K fs s ps last tt)(h1:Fz fs tt=some (f,r))(h2:Ae 61 r=none):Do S K fs 201 0 s=none:=by
 obtain⟨m,_,e⟩:=h.one;rw[e];simp[Ct,h1,h2,Nq]
theorem RS.ord(h:RS S K fs s ps last tt)(h1:Fz fs tt=some (f,r))(h3:f.tag<=last):Do S K fs 201 0 s=none:=by
 obtain⟨m,_,e⟩:=h.one;rw[e];cases h2:Ae 61 r with
 |none=>simp[Ct,h1,h2,Nq]
 |some q=>
  cases hk:K f.kind q with
  |none=>simp[Ct,h1,h2,hk,Nq]
  |some x=>simp[Ct,h1,h2,hk,Nq,h3]
theorem RS.rd(h:RS S K fs s ps last tt)(h1:Fz fs tt=some (f,r))(h2:Ae 61 r=some q)(hk:K f.kind q=none):Do S K fs 201 0 s=none:=by
 obtain⟨m,_,e⟩:=h.one;rw[e];simp[Ct,h1,h2,hk,Nq]
theorem RS.sam(h:RS S K fs s ps last tt)(h1:Fz fs tt=some (f,r))(h2:Ae 61 r=some q)(hk:K f.kind q=some (v,z))(h4:Au v=Kn S f):Do S K fs 201 0 s=none:=by
 obtain⟨m,_,e⟩:=h.one;rw[e];simp[Ct,h1,h2,hk,Nq,h4]
theorem RS.sep(h:RS S K fs s ps last tt)(h1:Fz fs tt=some (f,r))(h2:Ae 61 r=some q)(hk:K f.kind q=some (v,z))(h5:Ae 44 z=none)(h6:Ae 125 z=none):Do S K fs 201 0 s=none:=by
 obtain⟨m,_,e⟩:=h.one;rw[e];simp[Ct,h1,h2,hk,Nq,h5,h6]
theorem RS.go(h:RS S K fs s ps last tt)(h1:Fz fs tt=some (f,r))(h2:Ae 61 r=some q)(h3:last<f.tag)(hk:K f.kind q=some (v,z))(h4:Au v≠Kn S f)(h5:Ae 44 z=some z')(hl:z'.length<=tt.length):
  RS S K fs s (ps++[(f,v)]) f.tag z':=by
 obtain⟨m,hm,e⟩:=h.one;obtain⟨g1,g2,_,_⟩:=Jc h1;refine⟨?_,by have:=h.lo;simp;omega,g1,by simp,fun p hp=>?_,ac hl h.le⟩
 ·rw[e,show 201 - (ps++[(f,v)]).length=m by simp;omega];simp only[Ct,h1,h2,hk,h5];rw[if_neg cy];cases Do S K fs m f.tag z'<;>simp[Nq]
 rcases ae.1 hp with hp|hp
 ·exact h.fd p hp
 rw[an]at hp;subst hp;exact g2
theorem RS.fin(h:RS S K fs s ps last tt)(h1:Fz fs tt=some (f,r))(h2:Ae 61 r=some q)(h3:last<f.tag)(hk:K f.kind q=some (v,z))(h4:Au v≠Kn S f)(h5:Ae 44 z=none)(h6:Ae 125 z=some z'):
  Do S K fs 201 0 s=some (ps++[(f,v)],z')/\∀p∈ps++[(f,v)],Bp fs p.1.tag=some p.1:=by
 obtain⟨m,hm,e⟩:=h.one;obtain⟨g1,g2,_,_⟩:=Jc h1;refine⟨?_,fun p hp=>?_⟩
 ·rw[e];simp only[Ct,h1,h2,hk,h5,h6];rw[if_neg cy];simp[Nq]
 rcases ae.1 hp with hp|hp
 ·exact h.fd p hp
 rw[an]at hp;subst hp;exact g2
end
structure Qd5(w:World)(xv y0 y1 y2 h0 h1:Value)(S:List Ty)(K:Kd->List UInt8->Option (Vl × List UInt8))(fs:List Fd)(s:List UInt8)(wr:World)(tv kv:Value)(ps:List (Fd × Vl))(xs:List (Nat × SV))(last:Nat)(tt:List UInt8):Prop where
 bel:Below w w wr
 st:Nk (w.heap.size+3) (w.heap.size+2) wr h0 h1 tv tv kv kv (ps.map fun p=>p.1.tag) xs
 box:wr.cell? (w,0)=some xv
 b0:wr.cell? (w,1,0)=some y0
 b1:wr.cell? (w,1,1)=some y1
 b2:wr.cell? (w,1,2)=some y2
 len:xs.length=ps.length
 eq:xs.map (·.2)=ps.map fun p=>Cd S p.1.kind p.2
 rs:RS S K fs s ps last tt
theorem Qd5.after{w wr W:World}{xv y0 y1 y2 h0 h1:Value}{S:List Ty}{K:Kd->List UInt8->Option (Vl × List UInt8)}{fs:List Fd}{s tt:List UInt8}{tv kv:Value}{ps:List (Fd × Vl)}{xs:List (Nat × SV)}{last:Nat}
  (h:Qd5 w xv y0 y1 y2 h0 h1 S K fs s wr tv kv ps xs last tt) (hb:Below wr wr W):Qd5 w xv y0 y1 y2 h0 h1 S K fs s W tv kv ps xs last tt:=by
 have hlt:=h.st.lt;have hc:∀b o,b<w.heap.size+3->W.cell? ⟨b,o,none⟩=wr.cell? ⟨b,o,none⟩:=fun b o hb'=>hb.cell (p:=⟨b,o,none⟩) (show b<wr.heap.size by omega);exact⟨h.bel.trans (hb.mono h.bel.size),h.st.after hb,(hc _ _ aE).trans h.box,(hc _ _ aE).trans h.b0,(hc _ _ aE).trans h.b1,(hc _ _ aE).trans h.b2,h.len,h.eq,h.rs⟩
theorem Nk.last{base B n c g:Nat}{W:World}{A:Option Addr}{h0 h1 tu ku kv:Value}{gs:List Nat}{xs:List (Nat × SV)}(h:Nk base B W h0 h1 tu (.slice A n c) ku kv (gs++[g]) xs):
  ∃b,A=some ⟨b,0,none⟩/\n=gs.length+1/\b<W.heap.size/\W.cell? ⟨b,gs.length,none⟩=(g:Int):=by
 have hn:=Qay h.tags;have e:(gs++[g]).length=gs.length+1:=aI;rcases h.tags.2 with⟨e0,h0⟩|⟨b,cap,cur,e1,_⟩
 ·omega
 injection e1 with e1 _ _;subst e1;refine⟨b,rfl,by omega,(h.tags.lt b rfl).2,?_⟩;have:=h.tags.cells (g:=b) rfl gs.length (g:Int) (by simp[B6]);have e2:(⟨b,0,none⟩:Addr).add gs.length=⟨b,0+gs.length,none⟩:=bj;rw[e2]at this;simpa using this
def Sm(base:Nat)(tv kv:Value)(W:World)(x:Nat × SV):Prop:=Fh (fun c=>base<=c/\kv.ownBlock≠some c/\tv.ownBlock≠some c) W x.1 x.2
theorem Sm.appT{base:Nat}{W W':World}{tv tv' kv:Value}{x:Nat × SV}(h:Sm base tv kv W x)(hg:W.grownBy W' tv.ownBlock)(hwh:tv'.ownBlock=tv.ownBlock\/∃k,tv'.ownBlock=some k/\W.heap.size<=k):Sm base tv' kv W' x:=by
 refine Fh.kept h (fun b o v hb _ hv=>hg.cell hv fun e=>hb.2.2 e.symm) hg.size fun c hc hl=>⟨hc.1,hc.2.1,?_⟩
 rcases hwh with e|⟨k,e,hk⟩
 ·rw[e];exact hc.2.2
 exact iR
structure Kg(base B:Nat)(W1:World)(h0 h1:Value)(A:Option Addr)(n c:Nat)(ku:Value)(gs:List Nat)(xs ks:List (Nat × SV))(g:Nat)(l7 l8 l11:Bool)(u7 u8:Value)(W:World):Prop where
 p0:l7=false->W=W1
 p1:l7=true->l8=false->W=W1.alloc (.cells [.int .i64 (g:Int)].toArray 3)/\u7=.slice (some ⟨W1.heap.size,0,none⟩) 1 1
 p2:l8=true->l11=false->∃A6 c6,u8=.slice A6 (gs++[g]).length c6/\Nk base B W h0 h1 (.slice A n c) u8 ku ku (gs++[g]) xs/\Below base W1 W/\∀x∈ks,Sm base u8 ku W x
 p3:l11=true->∃A6 c6,Nk base B W h0 h1 (.slice A6 (gs++[g]).length c6) (.slice A6 (gs++[g]).length c6) ku ku (gs++[g]) xs/\Below B W1 W/\∀x∈ks,Sm base (.slice A6 (gs++[g]).length c6) ku W x
 p4:l11=true->∀b o,b<base->b≠B->W.cell? ⟨b,o,none⟩=W1.cell? ⟨b,o,none⟩
section
variable {base B n c g:Nat} {W1 W:World} {h0 h1 ku u7 u8:Value} {A:Option Addr} {gs:List Nat} {xs:List (Nat × SV)} {ks:List (Nat × SV)} {l7 l8 l11:Bool}
theorem Kg.start:Kg base B W1 h0 h1 A n c ku gs xs ks g false false false u7 u8 W1:=⟨fun _=>rfl,fun h=>Bool.noConfusion h,fun h=>Bool.noConfusion h,fun h=>Bool.noConfusion h,fun h=>Bool.noConfusion h⟩
theorem Kg.be(h:Kg base B W1 h0 h1 A n c ku gs xs ks g l7 l8 l11 u7 u8 W)(h8:l8=false):Below W1 W1 W:=by
 cases l7 with
 |false=>rw[h.p0 rfl];exact Ay _ _
 |true=>rw[(h.p1 rfl h8).1];exact(Ay _ _).alloc (As _) _
theorem Kg.put7(h8:l8=false)(h11:l11=false):Kg base B W1 h0 h1 A n c ku gs xs ks g true l8 l11 (.slice (W1,0) 1 1) u8 (W1.alloc (.cells #[(g:Int)] 3)):=
 ⟨fun h=>Bool.noConfusion h,fun _ _=>⟨rfl,rfl⟩,fun h=>absurd (h8.symm.trans h) aH,fun h=>absurd (h11.symm.trans h) aH,fun h=>absurd (h11.symm.trans h) aH⟩
theorem Kg.put8(h7:l7=true)(h11:l11=false){v:Value}(hS:Nk base B W1 h0 h1 (.slice A n c) (.slice A n c) ku ku gs xs)(hk:∀x∈ks,Sm base (.slice A n c) ku W1 x)
  (hown:W.ownsRow base 3 1 v (gs.length+1) (B6 gs++[.int .i64 (g:Int)])) (hg:W1.grownBy W (Value.slice A n c).ownBlock) (hwh:v.ownBlock=(Value.slice A n c).ownBlock\/∃k,v.ownBlock=some k/\W1.heap.size<=k):
  Kg base B W1 h0 h1 A n c ku gs xs ks g l7 true l11 u7 v W/\∃A6 c6,v=.slice A6 (gs++[g]).length c6:=by
 obtain⟨A6,c6,e,h1,h2⟩:=hS.pushT hown hg hwh;exact⟨⟨fun h=>absurd (h7.symm.trans h) aH,fun _ h=>Bool.noConfusion h,fun _ _=>⟨A6,c6,e,h1,h2,fun x hx=>(hk x hx).appT hg hwh⟩,fun h=>absurd (h11.symm.trans h) aH,fun h=>absurd (h11.symm.trans h) aH⟩,A6,c6,e⟩
theorem Kg.put11(h:Kg base B W1 h0 h1 A n c ku gs xs ks g l7 l8 l11 u7 u8 W)(h7:l7=true)(h8:l8=true)(h11:l11=false){W':World}(hW:W'=W.setCell ⟨B,2,none⟩ u8):Kg base B W1 h0 h1 A n c ku gs xs ks g l7 l8 true u7 u8 W':=by
 subst hW;obtain⟨A6,c6,e,hS,hb,hk⟩:=h.p2 h8 h11;have hB:=hS.hB;have hk2:∀x∈ks,Sm base u8 ku (W.setCell ⟨B,2,none⟩ u8) x:=fun x hx=>Fh.grown (hk x hx) (Ap W B 2 u8) fun c hc e=>by injection e with e;have:=hc.1;omega
 have hS2:=hS.set2;rw[e]at hS2 hk2 ⊢;exact⟨fun h=>absurd (h7.symm.trans h) aH,fun _ h=>absurd (h8.symm.trans h) aH,fun _ h=>Bool.noConfusion h,fun _=>⟨A6,c6,hS2,(hb.mono (Nat.le_of_lt hS.hB)).setCell (p:=⟨B,2,none⟩) (As B) _,hk2⟩,fun _ b o h1 h2=>((Ap W B 2 _).cell_far ⟨b,o,none⟩ (ab (ab h1 hS.bs) (As _)) (by simp;exact h2)).trans (hb.cell (p:=⟨b,o,none⟩) h1)⟩
end
end
end Go.Proofs.YtkigmebejmmikaaGreatDoor
