/- The pure law of FnCompilesSmall: a policy of at most two rules always becomes a program; the words of each number that it names decide like it. No conditions. -/
import Derived.Test.YtpbalojiaghfhaaNAFnCompilesSmall
section
/- The pure law of FnCompilesSmall: a policy of at most two rules always becomes a program; the words of each number that it names decide like it. No conditions. -/
set_option linter.unusedSimpArgs false
set_option linter.unusedVariables false
set_option linter.unusedSectionVars false
namespace Go.Proofs.Ytpbalojiaghfhaa.PFnCompilesSmall
open Go Go.RowKit Go.Proofs.YtpbalojiaghfhaaW.PrintWords Go.Proofs.YtpbalojiaghfhaaW.PrintLast Go.Proofs.YtpbalojiaghfhaaW.PK
set_option linter.unusedSectionVars false
/-- What a right line's word is. -/
theorem insR {L:List S104} (hn:L.length≤1048576) (hI:IAll L) {i:Nat} (hi:i<L.length) (hp: ¬ L[i].f1.f0=0):L[i].f1.f2=0∧L[i].f1.f3=0∧InsP L[i].f1.f0 L[i].f1.f1 L[i].f1.f2 L[i].f1.f3:=by
  obtain⟨w0,h0⟩:=fstI L hn L[i].f0 0 (by omega)
  obtain⟨w2,h2⟩:=fstI L hn L[i].f2 (i+1) hi
  obtain⟨w3,h3⟩:=fstI L hn L[i].f3 (i+1) hi
  rcases hI i hi w0 w2 w3 h0 h2 h3 with h4|h4
  · exact absurd h4.1.1 hp
  · exact⟨h4.2.2.1,h4.2.2.2.1,h4.2.2.2.2.2.1⟩
/-- Every way of a line of one word passes over 15 words at most. -/
def Near (L:List S104) (o:List Int) (n:Nat):Prop:= ∀ i (h:i<L.length) (h':i<o.length),i<n→(3≤L[i].f1.f0∧L[i].f1.f0≤6)→o[i]=1→∀ s y,(s=L[i].f2∨s=L[i].f3)→Way L i s y→pre o y - pre o (i+1)≤15
/-- The words of a line. -/
def Words (L:List S104) (o:List Int) (i:Nat) (h:i<L.length) (h':i<o.length) (w:List S34):Prop:=
  (L[i].f1.f0=0∧w= [])∨
  (L[i].f1.f0=7∧∃ y,Way L i L[i].f2 y∧w= [⟨7,pre o y - pre o (i+1),0,0⟩])∨
  ((3≤L[i].f1.f0∧L[i].f1.f0≤6)∧∃ y z,Way L i L[i].f2 y∧Way L i L[i].f3 z∧((o[i]=1∧w= [⟨L[i].f1.f0,L[i].f1.f1,pre o y - pre o (i+1),pre o z - pre o (i+1)⟩])∨(o[i]=3∧w= [⟨L[i].f1.f0,L[i].f1.f1,0,1⟩,⟨7,pre o y - pre o (i+1)+1,0,0⟩,⟨7,pre o z - pre o (i+1),0,0⟩])))∨
  ((L[i].f1.f0=1∨L[i].f1.f0=2∨L[i].f1.f0=8)∧w= [⟨L[i].f1.f0,L[i].f1.f1,0,0⟩])
inductive Laid (L:List S104) (o:List Int):Nat→List S34→Prop
  | done:Laid L o L.length []
  | line (i:Nat) (h:i<L.length) (h':i<o.length) (w r:List S34):Words L o i h h' w→Laid L o (i+1) r→Laid L o i (w ++ r)
theorem words_len {L:List S104} {o:List Int} (ho:OkS L o) {i:Nat} {h:i<L.length} {h':i<o.length} {w:List S34} (hw:Words L o i h h' w):(w.length:Int)=o[i]:=by
  obtain⟨_,_,oa,ok⟩:=ho
  rcases hw with⟨a,rfl⟩|⟨a,y,_,rfl⟩|⟨a,y,z,_,_,⟨b,rfl⟩|⟨b,rfl⟩⟩|⟨a,rfl⟩
  · rw[ok i h' h (by omega),if_pos a];rfl
  · rw[ok i h' h (by omega),if_neg (by omega)];rfl
  · rw[b];rfl
  · rw[b];rfl
  · rw[ok i h' h (by omega),if_neg (by omega)];rfl
theorem laid_len {L:List S104} {o:List Int} (ho:OkS L o) {i:Nat} {r:List S34} (hl:Laid L o i r):(r.length:Int)=pre o L.length - pre o i:=by
  induction hl with
  | done=>simp
  | line i h h' w r hw _ ih=>
    have:=words_len ho hw
    rw[List.length_append,pre_succ h']at *
    omega
theorem linesOkS (L:List S104) (hn:L.length≤1048576): ∃ b,Evt (fun k=>spec_LinesOk.f k L) b∧(b=true ↔ (1≤L.length∧L.length≤600)∧SAll L∧∃ h:L.length - 1<L.length,L[L.length - 1].f1.f0=8):=by
  by_cases h1:1≤(L.length:Int)∧(L.length:Int)≤600
  · have e:wrap64 ((L.length:Int) - 1)=((L.length - 1:Nat):Int):=by unfold wrap64;omega
    have hlt:L.length - 1<L.length:=by omega
    by_cases h8:(L[L.length - 1].f1.f0)=8
    · obtain⟨b',⟨K',hb'⟩,hbi'⟩:=sAll L hn
      refine⟨b',.succ ⟨K'+1,fun k hk=>?_⟩,hbi'.trans ⟨fun h=>⟨by omega,h,hlt,h8⟩,fun h=>h.2.1⟩⟩
      simp only[spec_LinesOk.f,inS,Option.bind_some,decide_eq_true_eq]
      rw[if_pos h1,e,if_pos (by omega),if_pos (by omega),rd_nat104 L _ hlt,h8]
      simp only[spec_LinesOk.j0]
      rw[if_neg (by simp)]
      exact hb' k (by omega)
    · refine⟨false,.succ (.const fun k=>?_),⟨(fun h=>by cases h),fun h=>absurd h.2.2.2 h8⟩⟩
      simp only[spec_LinesOk.f,inS,Option.bind_some,decide_eq_true_eq]
      rw[if_pos h1,e,if_pos (by omega),if_pos (by omega),rd_nat104 L _ hlt]
      simp only[spec_LinesOk.j0]
      rw[if_pos (by simp[h8])]
  · refine⟨false,.succ (.const fun k=>?_),⟨(fun h=>by cases h),fun h=>by omega⟩⟩
    simp only[spec_LinesOk.f,inS,Option.bind_some,decide_eq_true_eq]
    rw[if_neg h1]
    simp only[spec_LinesOk.j0,if_true]
theorem atW {L:List S104} (hn:L.length≤1048576) {i y:Nat} {s:ByteArray} (h:Way L i s y): ∀ k,L.length<k→spec_l11At.f k L s=some (y:Int):=by
  obtain⟨v,hv,fv⟩:=atS L s hn
  rw[← fv.uniq h.2.2.2.1 (fun _ _=> .rfl)]
  exact hv
theorem yesW {L:List S104} (hn:L.length≤1048576) {Y N:List Int} (hW:OkW L Y N) {i y:Nat} (hi:i<L.length) (h:Way L i L[i].f2 y):rd Y (i:Int)=(y:Int):=by
  obtain⟨wy,wn,wj⟩:=hW
  rw[nrdI Y i (by omega)]
  exact(wj i hi (by omega) (by omega)).1 h.2.2.2.2.2 _ (atW hn h)
theorem noW {L:List S104} (hn:L.length≤1048576) {Y N:List Int} (hW:OkW L Y N) {i y:Nat} (hi:i<L.length) (h:Way L i L[i].f3 y):rd N (i:Int)=(y:Int):=by
  obtain⟨wy,wn,wj⟩:=hW
  rw[nrdI N i (by omega)]
  exact(wj i hi (by omega) (by omega)).2 h.2.2.2.2.2 _ (atW hn h)
theorem roundS (L:List S104) (hn:L.length≤600) (hS:SAll L) (hI:IAll L) (o Y N B:List Int) (ho:OkS L o) (hW:OkW L Y N) (hB:B.length=o.length) (hb: ∀ j (h:j<B.length),B[j]=pre o j) (r:Int) :
    ∃ c f,OkS L c∧(f=true→ones c<ones o)∧(f=false→c=o∧Near L o L.length)∧(∀ R,Evt (fun k=>if f=true then spec_Sizes.l1 k L c Y N (wrap64 (r+1))else some c) R→Evt (fun k=>spec_Sizes.l2 k L o Y N r B false ((0:Nat):Int)) R):=by
  have ho':=ho
  obtain⟨ol,o3,oa,_⟩:=ho
  refine down (T:=fun i=> ∀ (c:List Int) (f:Bool),OkS L c→(∀ j (h:j<c.length) (h':j<o.length),i≤j→c[j]=o[j])→ones c≤ones o→(f=true→ones c<ones o)→(f=false→c=o∧Near L o i)→
    ∃ c' f',OkS L c'∧(f'=true→ones c'<ones o)∧(f'=false→c'=o∧Near L o L.length)∧(∀ R,Evt (fun k=>if f'=true then spec_Sizes.l1 k L c' Y N (wrap64 (r+1))else some c') R→Evt (fun k=>spec_Sizes.l2 k L c Y N r B f (i:Int)) R)) (n:=L.length) ?_ ?_ L.length 0 (by omega) o false ho' (fun _ _ _ _=>rfl) (Nat.le_refl _) (fun h=>by cases h) (fun _=>⟨rfl,fun i _ _ h=>by omega⟩)
  · intro c f hc _ _ h2 h3
    refine⟨c,f,hc,h2,h3,fun R hR=> .succ ?_⟩
    obtain⟨K,hK⟩:=hR
    refine⟨K,fun k hk=>?_⟩
    simp only[spec_Sizes.l2]
    rw[if_neg (by omega)]
    exact hK k hk
  · intro i hi ih c f hc hj h1 h2 h3
    have ws:=wsucc hi (show L.length≤9223372036854775807 by omega)
    have hio:i<o.length:=by omega
    have hic:i<c.length:=by have:=hc.1;omega
    have cl:=hc.1
    have skip:(∀ k,spec_Sizes.l2 (k+2) L c Y N r B f (i:Int)=spec_Sizes.l2 k L c Y N r B f ((i+1:Nat):Int))→((3≤L[i].f1.f0∧L[i].f1.f0≤6)→o[i]=1→∀ s y,(s=L[i].f2∨s=L[i].f3)→Way L i s y→pre o y - pre o (i+1)≤15)→∃ c' f',OkS L c'∧(f'=true→ones c'<ones o)∧(f'=false→c'=o∧Near L o L.length)∧(∀ R,Evt (fun k=>if f'=true then spec_Sizes.l1 k L c' Y N (wrap64 (r+1))else some c') R→Evt (fun k=>spec_Sizes.l2 k L c Y N r B f (i:Int)) R):=fun e hne=>by
      obtain⟨c',f',a1,a2,a3,a4⟩:=ih c f hc (fun j h h' hij=>hj j h h' (by omega)) h1 h2 (fun h=>⟨(h3 h).1,fun j hj1 hj2 hlt=>by
        rcases Nat.lt_or_ge j i with h4|h4
        · exact(h3 h).2 j hj1 hj2 h4
        · have:j=i:=by omega
          subst this
          exact hne⟩)
      refine⟨c',f',a1,a2,a3,fun R hR=>?_⟩
      obtain⟨K,hK⟩:=a4 R hR
      refine⟨K+2,fun k hk=>?_⟩
      obtain⟨k,rfl⟩ : ∃ m,k=m+2:=⟨k - 2,by omega⟩
      exact(e k).trans (hK k (by omega))
    by_cases ha:3≤L[i].f1.f0∧L[i].f1.f0≤6
    · have ec:c[i]=o[i]:=hj i hic hio (Nat.le_refl _)
      by_cases e3:o[i]=3
      · refine skip (fun k=>?_) (fun _ h=>by omega)
        simp only[spec_Sizes.l2,spec_Sizes.j3]
        rw[if_pos (by omega),if_pos (by omega),nrd_T104 L i hi]
        simp only[askS,Option.bind_some,decide_eq_true_eq]
        rw[if_pos ha,if_pos (by omega),nrdI c i hic,ec,e3,if_pos (by simp),ws]
      · have e1:o[i]=1:=(oa i hio hi ha).resolve_right e3
        obtain⟨y,hy⟩:=wayP (by omega) hS hI hi L[i].f2 (.inr ⟨ha,.inl rfl⟩)
        obtain⟨z,hz⟩:=wayP (by omega) hS hI hi L[i].f3 (.inr ⟨ha,.inr rfl⟩)
        have hY:=yesW (by omega) hW hi hy
        have hN:=noW (by omega) hW hi hz
        have y1:=hy.1
        have y2:=hy.2.1
        have z1:=hz.1
        have z2:=hz.2.1
        have wl:=hW.1
        have wl2:=hW.2.1
        have ey:wrap64 (wrap64 (rd B (y:Int) - rd B (i:Int)) - 1)=pre o y - pre o (i+1):=by rw[far_gen o B i y 1 hB hb (by omega) o3 hio y1 (by omega) (by omega) (by omega),e1];omega
        have ez:wrap64 (wrap64 (rd B (z:Int) - rd B (i:Int)) - 1)=pre o z - pre o (i+1):=by rw[far_gen o B i z 1 hB hb (by omega) o3 hio z1 (by omega) (by omega) (by omega),e1];omega
        have n3: ¬ (rd c (i:Int) == 3)=true:=by rw[nrdI c i hic,ec,e1];simp
        by_cases far:pre o y - pre o (i+1)>15∨pre o z - pre o (i+1)>15
        · have hs:=ones_set c i hic (ec.trans e1)
          obtain⟨c',f',a1,a2,a3,a4⟩:=ih (c.set i 3) true (hc.set i hi ha) (fun j h h' hij=>by
            rw[List.getElem_set_ne (by omega)]
            rw[List.length_set]at h
            exact hj j h h' (by omega)) (by omega) (fun _=>by omega) (fun h=>by cases h)
          refine⟨c',f',a1,a2,a3,fun R hR=>?_⟩
          obtain⟨K,hK⟩:=a4 R hR
          refine⟨K+2,fun k hk=>?_⟩
          obtain⟨k,rfl⟩ : ∃ m,k=m+2:=⟨k - 2,by omega⟩
          simp only[spec_Sizes.l2,spec_Sizes.j3]
          rw[if_pos (by omega),if_pos (by omega),nrd_T104 L i hi]
          simp only[askS,Option.bind_some,decide_eq_true_eq]
          rw[if_pos ha,if_pos (by omega),if_neg n3,if_pos (by omega),if_pos (by omega),hY,if_pos (by omega),if_pos (by omega),if_pos (by omega),ey]
          by_cases q:pre o y - pre o (i+1)>15
          · rw[if_pos q,if_pos (by omega),ws,Int.toNat_natCast]
            exact hK k (by omega)
          · rw[if_neg q,if_pos (by omega),hN,if_pos (by omega),if_pos (by omega),ez,if_pos (far.resolve_left q),if_pos (by omega),ws,Int.toNat_natCast]
            exact hK k (by omega)
        · have q1: ¬ pre o y - pre o (i+1)>15:=fun h=>far (.inl h)
          have q2: ¬ pre o z - pre o (i+1)>15:=fun h=>far (.inr h)
          refine skip (fun k=>?_) (fun _ _ s t hs ht=>?_)
          · simp only[spec_Sizes.l2,spec_Sizes.j3]
            rw[if_pos (by omega),if_pos (by omega),nrd_T104 L i hi]
            simp only[askS,Option.bind_some,decide_eq_true_eq]
            rw[if_pos ha,if_pos (by omega),if_neg n3,if_pos (by omega),if_pos (by omega),hY,if_pos (by omega),if_pos (by omega),if_pos (by omega),ey,if_neg q1,if_pos (by omega),hN,if_pos (by omega),if_pos (by omega),ez,if_neg q2,ws]
          · rcases hs with rfl|rfl
            · rw[ht.uniq hy];omega
            · rw[ht.uniq hz];omega
    · refine skip (fun k=>?_) (fun h=>absurd h ha)
      simp only[spec_Sizes.l2,spec_Sizes.j3]
      rw[if_pos (by omega),if_pos (by omega),nrd_T104 L i hi]
      simp only[askS,Option.bind_some,decide_eq_true_eq]
      rw[if_neg ha,if_pos trivial,ws]
theorem roundsS (L:List S104) (hn:L.length≤600) (hS:SAll L) (hI:IAll L) (Y N:List Int) (hW:OkW L Y N): ∀ (m:Nat) (o:List Int) (r:Nat),ones o≤m→ones o+r≤L.length→OkS L o→
    ∃ O,OkS L O∧Near L O L.length∧Evt (fun k=>spec_Sizes.l1 k L o Y N (r:Int)) O:=by
  intro m
  induction m with
  | zero=>
    intro o r hm hr ho
    obtain⟨B,hB,hb,K0,b0⟩:=begins o (by have:=ho.1;omega) ho.2.1
    obtain⟨c,f,hc,hf,hg,h1⟩:=roundS L hn hS hI o Y N B ho hW hB hb (r:Int)
    cases f with
    | true=>have:=hf rfl;omega
    | false=>
      obtain⟨K1,g1⟩:=h1 c (.const fun _=>by rw[if_neg (by simp)])
      dsimp only at b0 g1
      refine⟨c,hc,(hg rfl).1 ▸ (hg rfl).2,.succ ⟨K0+K1,fun k hk=>?_⟩⟩
      simp only[spec_Sizes.l1]
      rw[if_pos (by omega),b0 k (by omega)]
      exact g1 k (by omega)
  | succ m ih=>
    intro o r hm hr ho
    obtain⟨B,hB,hb,K0,b0⟩:=begins o (by have:=ho.1;omega) ho.2.1
    obtain⟨c,f,hc,hf,hg,h1⟩:=roundS L hn hS hI o Y N B ho hW hB hb (r:Int)
    dsimp only at b0
    have fin: ∀ R,Evt (fun k=>if f=true then spec_Sizes.l1 k L c Y N (wrap64 ((r:Int)+1))else some c) R→Evt (fun k=>spec_Sizes.l1 k L o Y N (r:Int)) R:=fun R r1=>by
      obtain⟨K1,g1⟩:=h1 R r1
      dsimp only at g1
      refine .succ ⟨K0+K1,fun k hk=>?_⟩
      simp only[spec_Sizes.l1]
      rw[if_pos (by omega),b0 k (by omega)]
      exact g1 k (by omega)
    cases f with
    | true=>
      have hlt:=hf rfl
      obtain⟨O,hO,hN,i1⟩:=ih c (r+1) (by omega) (by omega) hc
      have ew:wrap64 ((r:Int)+1)=((r+1:Nat):Int):=by unfold wrap64;omega
      exact⟨O,hO,hN,fin O (i1.congr fun k=>by rw[if_pos rfl,ew])⟩
    | false=>
      exact⟨c,hc,(hg rfl).1 ▸ (hg rfl).2,fin c (.const fun _=>by rw[if_neg (by simp)])⟩
theorem sizesS (L:List S104) (hn:1≤L.length∧L.length≤600) (hS:SAll L) (hI:IAll L) (h8: ∃ h:L.length - 1<L.length,L[L.length - 1].f1.f0=8): ∃ O,OkS L O∧Near L O L.length∧Evt (fun k=>spec_Sizes.f k L) O:=by
  obtain⟨b,⟨K1,h1⟩,hb⟩:=linesOkS L (by omega)
  have hbt:b=true:=hb.2 ⟨hn,hS,h8⟩
  subst hbt
  have key: ∃ O,OkS L O∧Near L O L.length∧Evt (fun k=>spec_Sizes.l0 k L [] ((0:Nat):Int)) O:=by
    refine down (T:=fun i=> ∀ o:List Int,o.length=i→(∀ j (h:j<o.length) (h':j<L.length),(0≤o[j]∧o[j]≤3)∧(3≤L[j].f1.f0∧L[j].f1.f0≤6→o[j]=1∨o[j]=3)∧(¬ (3≤L[j].f1.f0∧L[j].f1.f0≤6)→o[j]=if L[j].f1.f0=0 then 0 else 1))→∃ O,OkS L O∧Near L O L.length∧Evt (fun k=>spec_Sizes.l0 k L o (i:Int)) O) (n:=L.length) ?_ ?_ L.length 0 (by omega) [] rfl (by simp)
    · intro o hl hj
      obtain⟨Y,N,hW,K0,w0⟩:=ways L hn.2
      have ho:OkS L o:=⟨hl,fun j h=>(hj j h (by omega)).1,fun j h h'=>(hj j h h').2.1,fun j h h'=>(hj j h h').2.2⟩
      obtain⟨O,hO,hN,⟨K2,h2⟩⟩:=roundsS L hn.2 hS hI Y N hW (ones o) o 0 (Nat.le_refl _) (by have:=ones_le o;omega) ho
      dsimp only at w0 h2
      refine⟨O,hO,hN,.succ ⟨K0+K2,fun k hk=>?_⟩⟩
      simp only[spec_Sizes.l0]
      rw[if_neg (by omega),w0 k (by omega)]
      exact h2 k (by omega)
    · intro i hi ih o hl hj
      have ws:=wsucc hi (show L.length≤9223372036854775807 by omega)
      have ext: ∀ v:Int,(0≤v∧v≤3)→(3≤L[i].f1.f0∧L[i].f1.f0≤6→v=1∨v=3)→(¬ (3≤L[i].f1.f0∧L[i].f1.f0≤6)→v=if L[i].f1.f0=0 then 0 else 1)→∃ O,OkS L O∧Near L O L.length∧Evt (fun k=>spec_Sizes.l0 k L (o ++ [v]) ((i+1:Nat):Int)) O:=fun v h1 h2 h3=>by
        refine ih (o ++ [v]) (by simp;omega) (fun j h h'=>?_)
        rcases Nat.lt_or_ge j i with h4|h4
        · rw[List.getElem_append_left (by omega)]
          exact hj j (by omega) h'
        · have:j=i:=by simp at h;omega
          subst this
          have e1:(o ++ [v])[j]=v:=by rw[List.getElem_append_right (by omega)];simp
          rw[e1]
          exact⟨h1,h2,h3⟩
      by_cases hp:L[i].f1.f0=0
      · obtain⟨a,b,c,d⟩:=plz (by omega) hI hi hp
        obtain⟨O,hO,hN,⟨K2,h2⟩⟩:=ext 0 (by omega) (fun h=>by omega) (fun _=>by rw[if_pos hp])
        dsimp only at h2
        refine⟨O,hO,hN,.succ ⟨K2,fun k hk=>?_⟩⟩
        simp only[spec_Sizes.l0,spec_l11Place.f]
        rw[if_pos (by omega),if_pos (by omega),nrd_T104 L i hi]
        simp only[Option.bind_some]
        rw[if_pos (by simp[a,b,c,d]),if_pos (by omega),ws]
        exact h2 k hk
      · obtain⟨O,hO,hN,⟨K2,h2⟩⟩:=ext 1 (by omega) (fun _=> .inl rfl) (fun _=>by rw[if_neg hp])
        dsimp only at h2
        refine⟨O,hO,hN,.succ ⟨K2,fun k hk=>?_⟩⟩
        simp only[spec_Sizes.l0,spec_l11Place.f]
        rw[if_pos (by omega),if_pos (by omega),nrd_T104 L i hi]
        simp only[Option.bind_some]
        rw[if_neg (by simp[hp]),if_pos (by omega),ws]
        exact h2 k hk
  obtain⟨O,hO,hN,⟨K2,h2⟩⟩:=key
  dsimp only at h1 h2
  refine⟨O,hO,hN,⟨K1+K2,fun k hk=>?_⟩⟩
  simp only[spec_Sizes.f,h1 k (by omega),Option.bind_some,if_true]
  exact h2 k (by omega)
theorem layS_l0 (L:List S104) (hn:L.length≤600) (hS:SAll L) (hI:IAll L) (o Y N B:List Int) (ho:OkS L o) (hW:OkW L Y N) (hB:B.length=o.length) (hb: ∀ j (h:j<B.length),B[j]=pre o j) (h1L:1≤L.length) (h8: ∃ h:L.length - 1<L.length,L[L.length - 1].f1.f0=8) :
    ∃ R,Laid L o 0 R∧∀ c:List S34,c.length≤3*0→Evt (fun k=>spec_Layout.l0 k L [] o Y N B c ((0:Nat):Int)) (if(c ++ R).length≤400 then(c ++ R,true)else([],false)):=by
  have ho':=ho
  obtain⟨ol,o3,oa,ok⟩:=ho
  have wl:=hW.1
  have wl2:=hW.2.1
  refine down (T:=fun i=> ∃ R,Laid L o i R∧∀ c:List S34,c.length≤3*i→Evt (fun k=>spec_Layout.l0 k L [] o Y N B c (i:Int)) (if(c ++ R).length≤400 then(c ++ R,true)else([],false))) (n:=L.length) ?_ ?_ L.length 0 (by omega)
  · refine⟨[],.done,fun c hc=> .succ (.const fun k=>?_)⟩
    simp only[spec_Layout.l0,List.append_nil]
    rw[if_neg (by omega)]
    by_cases hm:c.length≤400
    · rw[if_neg (by omega),if_pos hm]
    · rw[if_pos (by omega),if_neg hm]
  · intro i hi ⟨R,hL,hR⟩
    have ws:=wsucc hi (show L.length≤9223372036854775807 by omega)
    have hio:i<o.length:=by omega
    have fin: ∀ w,Words L o i hi hio w→w.length≤3→(∀ c:List S34,c.length≤3*i→∀ k,spec_Layout.l0 (k+1) L [] o Y N B c (i:Int)=spec_Layout.l0 k L [] o Y N B (c ++ w) ((i+1:Nat):Int))→∃ R,Laid L o i R∧∀ c:List S34,c.length≤3*i→Evt (fun k=>spec_Layout.l0 k L [] o Y N B c (i:Int)) (if(c ++ R).length≤400 then(c ++ R,true)else([],false)):=fun w hw h3 hs=>by
      refine⟨w ++ R,.line i hi hio w R hw hL,fun c hc=>?_⟩
      obtain⟨K2,h2⟩:=hR (c ++ w) (by rw[List.length_append];omega)
      rw[List.append_assoc]at h2
      exact .succ ⟨K2,fun k hk=>(hs c hc k).trans (h2 k hk)⟩
    by_cases hp:L[i].f1.f0=0
    · have e0:o[i]=0:=by rw[ok i hio hi (by omega),if_pos hp]
      refine fin [] (.inl ⟨hp,rfl⟩) (by simp) (fun c hc k=>?_)
      rw[List.append_nil]
      simp only[spec_Layout.l0]
      rw[if_pos (by omega),if_pos (by omega),if_pos (by omega),nrdI o i hio,if_pos e0,ws]
    obtain⟨z2,z3,hIns⟩:=insR (by omega) hI hi hp
    by_cases c7:L[i].f1.f0=7
    · have e1:o[i]=1:=by rw[ok i hio hi (by omega),if_neg hp]
      obtain⟨y,hy⟩:=wayP (by omega) hS hI hi L[i].f2 (.inl ⟨c7,rfl⟩)
      have y1:=hy.1
      have y2:=hy.2.1
      have hY:=yesW (by omega) hW hi hy
      have ey:wrap64 (wrap64 (rd B (y:Int) - rd B (i:Int)) - 1)=pre o y - pre o (i+1):=by rw[far_gen o B i y 1 hB hb (by omega) o3 hio y1 (by omega) (by omega) (by omega),e1];omega
      refine fin [⟨7,pre o y - pre o (i+1),0,0⟩] (.inr (.inl ⟨c7,y,hy,rfl⟩)) (by simp) (fun c hc k=>?_)
      simp only[spec_Layout.l0]
      rw[if_pos (by omega),if_pos (by omega),if_pos (by omega),nrdI o i hio,if_neg (by omega),if_neg (by omega),nrd_T104 L i hi,if_pos c7,if_pos (by omega),hY,if_pos (by omega),if_pos (by omega),if_pos (by omega),if_pos (by omega),ey,ws,z2,z3,c7]
    by_cases ha:3≤L[i].f1.f0∧L[i].f1.f0≤6
    · obtain⟨y,hy⟩:=wayP (by omega) hS hI hi L[i].f2 (.inr ⟨ha,.inl rfl⟩)
      obtain⟨z,hz⟩:=wayP (by omega) hS hI hi L[i].f3 (.inr ⟨ha,.inr rfl⟩)
      have y1:=hy.1
      have y2:=hy.2.1
      have z1:=hz.1
      have z2':=hz.2.1
      have hY:=yesW (by omega) hW hi hy
      have hN:=noW (by omega) hW hi hz
      have ey:=fun q=>far_gen o B i y q hB hb (by omega) o3 hio y1 (by omega)
      have ez:=fun q=>far_gen o B i z q hB hb (by omega) o3 hio z1 (by omega)
      rcases oa i hio hi ha with e1|e3
      · have ey':wrap64 (wrap64 (rd B (y:Int) - rd B (i:Int)) - 1)=pre o y - pre o (i+1):=by rw[ey 1 (by omega) (by omega),e1];omega
        have ez':wrap64 (wrap64 (rd B (z:Int) - rd B (i:Int)) - 1)=pre o z - pre o (i+1):=by rw[ez 1 (by omega) (by omega),e1];omega
        refine fin _ (.inr (.inr (.inl ⟨ha,y,z,hy,hz,.inl ⟨e1,rfl⟩⟩))) (by simp) (fun c hc k=>?_)
        simp only[spec_Layout.l0]
        rw[if_pos (by omega),if_pos (by omega),if_pos (by omega),nrdI o i hio,if_neg (by omega),if_neg (by omega),nrd_T104 L i hi,if_neg c7]
        simp only[askS,Option.bind_some,decide_eq_true_eq]
        rw[if_pos ha,if_pos (by omega),hY,if_pos (by omega),if_pos (by omega),if_pos (by omega),if_pos (by omega),hN,if_pos (by omega),if_pos (by omega),if_pos (by omega),ey',ez',ws]
      · have ey':wrap64 (wrap64 (rd B (y:Int) - rd B (i:Int)) - 2)=pre o y - pre o (i+1)+1:=by rw[ey 2 (by omega) (by omega),e3];omega
        have ez':wrap64 (wrap64 (rd B (z:Int) - rd B (i:Int)) - 3)=pre o z - pre o (i+1):=by rw[ez 3 (by omega) (by omega),e3];omega
        refine fin _ (.inr (.inr (.inl ⟨ha,y,z,hy,hz,.inr ⟨e3,rfl⟩⟩))) (by simp) (fun c hc k=>?_)
        simp only[spec_Layout.l0]
        rw[if_pos (by omega),if_pos (by omega),if_pos (by omega),nrdI o i hio,if_neg (by omega),if_pos e3,if_pos (by omega),hY,if_pos (by omega),if_pos (by omega),if_pos (by omega),if_pos (by omega),hN,if_pos (by omega),if_pos (by omega),nrd_T104 L i hi,ey',ez',z2]
        simp only[Option.bind_some]
        rw[if_pos (by simp;omega),ws]
    · have hk:L[i].f1.f0=1∨L[i].f1.f0=2∨L[i].f1.f0=8:=by have:=hIns.1;omega
      have e1:o[i]=1:=by rw[ok i hio hi ha,if_neg hp]
      refine fin _ (.inr (.inr (.inr ⟨hk,rfl⟩))) (by simp) (fun c hc k=>?_)
      simp only[spec_Layout.l0]
      rw[if_pos (by omega),if_pos (by omega),if_pos (by omega),nrdI o i hio,if_neg (by omega),if_neg (by omega),nrd_T104 L i hi,if_neg c7]
      simp only[askS,Option.bind_some,decide_eq_true_eq]
      rw[if_neg ha,if_pos (by omega),ws,z2,z3]
theorem layS (L:List S104) (hn:1≤L.length∧L.length≤600) (hS:SAll L) (hI:IAll L) (h8: ∃ h:L.length - 1<L.length,L[L.length - 1].f1.f0=8) :
    ∃ O R,OkS L O∧Near L O L.length∧Laid L O 0 R∧Evt (fun k=>spec_Layout.f k L) (if R.length≤400 then(R,true)else([],false)):=by
  obtain⟨O,hO,hN,⟨K1,h1⟩⟩:=sizesS L hn hS hI h8
  obtain⟨Y,N,hW,K3,h3⟩:=ways L hn.2
  obtain⟨B,hB,hb,K4,h4⟩:=begins O (by have:=hO.1;omega) hO.2.1
  obtain⟨R,hL,hR⟩:=layS_l0 L hn.2 hS hI O Y N B hO hW hB hb hn.1 h8
  obtain⟨K2,h2⟩:=hR [] (by simp)
  dsimp only at h1 h2 h3 h4
  have hpos: ¬ (O.length:Int)=0:=by have:=hO.1;omega
  refine⟨O,R,hO,hN,hL,⟨K1+K2+K3+K4,fun k hk=>?_⟩⟩
  simp only[spec_Layout.f,h1 k (by omega),h3 k (by omega),h4 k (by omega),Option.bind_some,if_neg hpos]
  exact h2 k (by omega)
/-- A right call is told right. -/
theorem callT (a b:Int) (l:List S93) (ha:0≤a∧a≤4294967295) (hb:0≤b∧b≤4294967295) (hl:l.length=3) (hw: ∀ y ∈ l,(0≤y.f0∧y.f0≤4294967295)∧(0≤y.f1∧y.f1≤4294967295)): ∀ k,4≤k→spec_CallOk.f k a b l=some true:=by
  have key: ∀ (d i:Nat),i+d=3→∀ k,d<k→spec_CallOk.l0 k (i:Int) a b l=some true:=by
    intro d
    induction d with
    | zero=>
      intro i hi k hk
      obtain⟨k,rfl⟩ : ∃ m,k=m+1:=⟨k - 1,by omega⟩
      simp only[spec_CallOk.l0]
      rw[if_neg (by omega)]
      simp only[halfS,Option.bind_some]
      rw[decide_eq_true ha,if_pos rfl,decide_eq_true hb,if_pos rfl,hl]
      rfl
    | succ d ih=>
      intro i hi k hk
      obtain⟨k,rfl⟩ : ∃ m,k=m+1:=⟨k - 1,by omega⟩
      have hlt:i<l.length:=by omega
      have h:(0≤l[i].f0∧l[i].f0≤4294967295)∧(0≤l[i].f1∧l[i].f1≤4294967295):=hw l[i] (List.getElem_mem hlt)
      have q:=ih (i+1) (by omega) k (by omega)
      simp only[spec_CallOk.l0]
      rw[if_pos (by omega),if_pos (by omega),nrd_T93 l i hlt,wsucc hlt (by omega),wideS]
      simp only[Option.bind_some,decide_eq_true_eq]
      rw[if_pos h]
      exact q
  intro k hk
  exact key 3 0 (by omega) k (by omega)
/-- What lines come to, from a line on. -/
inductive Ends (L:List S104) (a b:Int) (w:List S93):Nat→Int→Int→Prop
  | place (i:Nat) (g v:Int) (h:i<L.length):L[i].f1.f0=0→Ends L a b w (i+1) g v→Ends L a b w i g v
  | load (i:Nat) (g v:Int) (h:i<L.length) (p:Int×Bool):L[i].f1.f0=1→Evt (fun k=>spec_FieldAt.f k a b w L[i].f1.f1) p→Ends L a b w (i+1) p.1 v→Ends L a b w i g v
  | and (i:Nat) (g v:Int) (h:i<L.length):L[i].f1.f0=2→Ends L a b w (i+1) (Go.bits .and .i64 g L[i].f1.f1) v→Ends L a b w i g v
  | ret (i:Nat) (g:Int) (h:i<L.length):L[i].f1.f0=8→Ends L a b w i g L[i].f1.f1
  | jump (i:Nat) (g v:Int) (h:i<L.length) (y:Nat):L[i].f1.f0=7→Way L i L[i].f2 y→Ends L a b w y g v→Ends L a b w i g v
  | ask (i:Nat) (g v:Int) (h:i<L.length) (t:Bool) (y:Nat):(3≤L[i].f1.f0∧L[i].f1.f0≤6)→spec_l07Asks.f L[i].f1.f0 L[i].f1.f1 0 0 g=some t→Way L i (if t=true then L[i].f2 else L[i].f3) y→Ends L a b w y g v→Ends L a b w i g v
theorem laid_split {L:List S104} {o:List Int} (ho:OkS L o) {R:List S34} (hR:Laid L o 0 R): ∀ i,i≤L.length→∃ c r,R=c ++ r∧(c.length:Int)=pre o i∧Laid L o i r
  | 0,_=>⟨[],R,rfl,by simp[pre],hR⟩
  | i+1,h=>by
    obtain⟨c,r,e,hc,hl⟩:=laid_split ho hR i (by omega)
    cases hl with
    | done=>omega
    | line _ h1 h2 w r hw hr=>exact⟨c ++ w,r,by rw[e,List.append_assoc],by rw[List.length_append,pre_succ h2,Int.natCast_add,hc,words_len ho hw],hr⟩
theorem laid_at {L:List S104} {o:List Int} (ho:OkS L o) {R:List S34} (hR:Laid L o 0 R) {i:Nat} (h:i<L.length): ∃ (h':i<o.length) (c w r:List S34),R=c ++ (w ++ r)∧(c.length:Int)=pre o i∧Words L o i h h' w:=by
  obtain⟨c,r,e,hc,hl⟩:=laid_split ho hR i (by omega)
  cases hl with
  | done=>omega
  | line _ h1 h2 w r hw hr=>exact⟨h2,c,w,r,e,hc,hw⟩
theorem rd_mid (c w r:List S34) (m:Nat) (h:m<w.length) (p:Int) (hp:p=((c.length+m:Nat):Int)):rd_T34 (c ++ (w ++ r)) p=w[m]:=by
  subst hp
  rw[rd_nat34 _ _ (by simp only[List.length_append];omega),List.getElem_append_right (by omega)]
  simp only[Nat.add_sub_cancel_left]
  rw[List.getElem_append_left h]
/-- A right word that leads inside, wherever it stands in what is laid. -/
theorem laid_prog {L:List S104} (hn:L.length≤600) (hS:SAll L) (hI:IAll L) (h8: ∃ h:L.length - 1<L.length,L[L.length - 1].f1.f0=8) {o:List Int} (ho:OkS L o) (hN:Near L o L.length) {R:List S34} (hR:Laid L o 0 R) (h400:1≤R.length∧R.length≤400):ProgP R:=by
  have hlen:=laid_len ho hR
  have e0:pre o 0=0:=by simp[pre]
  have mono: ∀ d i,i+d≤L.length→pre o i≤pre o (i+d):=by
    intro d
    induction d with
    | zero=>intro i _;exact Int.le_refl _
    | succ d ih=>
      intro i hi
      have h1:=ih i (by omega)
      have h2:=ho.2.1 (i+d) (by have:=ho.1;omega)
      have h3:pre o (i+(d+1))=pre o (i+d)+o[i+d]'(by have:=ho.1;omega):=pre_succ (i:=i+d) (by have:=ho.1;omega)
      omega
  have mono': ∀ i y,i≤y→y≤L.length→pre o i≤pre o y:=fun i y h1 h2=>by
    have:=mono (y - i) i (by omega)
    rwa [show i+(y - i)=y by omega]at this
  -- a way leads to a place before the last line, which is of one word
  have last:pre o L.length=pre o (L.length - 1)+1:=by
    obtain⟨h,e⟩:=h8
    have h1:=ho.2.2.2 (L.length - 1) (by have:=ho.1;omega) h (by omega)
    rw[if_neg (by omega)]at h1
    have h2:pre o (L.length - 1+1)=pre o (L.length - 1)+o[L.length - 1]'(by have:=ho.1;omega):=pre_succ (by have:=ho.1;omega)
    rw[show L.length - 1+1=L.length by omega]at h2
    omega
  have inw: ∀ i s y,Way L i s y→pre o (i+1)≤pre o y∧pre o y<pre o L.length:=fun i s y hy=>by
    refine⟨mono' (i+1) y hy.1 (by have:=hy.2.1;omega),?_⟩
    have:pre o y≤pre o (L.length - 1):=mono' y (L.length - 1) (by
      obtain⟨_,hq,_⟩:=hy.2.2.1
      obtain⟨h,e⟩:=h8
      have hne:y≠L.length - 1:=fun e1=>by subst e1;omega
      have:=hy.2.1
      omega) (by omega)
    omega
  -- each word of each line
  have each: ∀ i r,Laid L o i r→∀ c,R=c ++ r→(c.length:Int)=pre o i→∀ m (hm:m<r.length),InsP r[m].f0 r[m].f1 r[m].f2 r[m].f3∧farP r[m] ((c.length+m:Nat):Int)<R.length:=by
    intro i r hl
    induction hl with
    | done=>intro c _ _ m hm;exact absurd hm (by simp)
    | line i h h' w r hw hr ih=>
      intro c e hc m hm
      rcases Nat.lt_or_ge m w.length with hlt|hge
      · rw[List.getElem_append_left hlt]
        have hw':=hw
        have hp:=ho.2.1 i h'
        have ps:=pre_succ h'
        rcases hw with⟨q,rfl⟩|⟨q,y,hy,rfl⟩|⟨q,y,z,hy,hz,⟨q1,rfl⟩|⟨q3,rfl⟩⟩|⟨q,rfl⟩
        · exact absurd hlt (by simp)
        · have hm0:m=0:=by simp at hlt;omega
          subst hm0
          obtain⟨i1,i2⟩:=inw i _ y hy
          have o1:o[i]=1:=by rw[ho.2.2.2 i h' h (by omega),if_neg (by omega)]
          have b0:=(pre_bound ho.2.1 (i+1) (by omega)).1
          simp only[List.getElem_cons_zero]
          refine⟨?_,?_⟩
          · unfold InsP;omega
          · unfold farP;simp only[show ¬ ((3:Int)≤7∧(7:Int)≤6) by omega,if_false,if_true];omega
        · have hm0:m=0:=by simp at hlt;omega
          subst hm0
          obtain⟨i1,i2⟩:=inw i _ y hy
          obtain⟨j1,j2⟩:=inw i _ z hz
          have n1:=hN i h h' h q q1 _ y (.inl rfl) hy
          have n2:=hN i h h' h q q1 _ z (.inr rfl) hz
          have hb:=(insR (by omega) hI h (by omega)).2.2.2.1
          have b0:=(pre_bound ho.2.1 (i+1) (by omega)).1
          simp only[List.getElem_cons_zero]
          refine⟨?_,?_⟩
          · unfold InsP;omega
          · unfold farP;simp only[if_pos q];unfold mx;split <;> omega
        · obtain⟨i1,i2⟩:=inw i _ y hy
          obtain⟨j1,j2⟩:=inw i _ z hz
          have hb:=(insR (by omega) hI h (by omega)).2.2.2.1
          have b0:=(pre_bound ho.2.1 (i+1) (by omega)).1
          have hm3:m=0∨m=1∨m=2:=by simp at hlt;omega
          rcases hm3 with rfl|rfl|rfl
          · simp only[List.getElem_cons_zero]
            refine⟨?_,?_⟩
            · unfold InsP;omega
            · unfold farP;simp only[if_pos q];unfold mx;split <;> omega
          · simp only[List.getElem_cons_zero,List.getElem_cons_succ]
            refine⟨?_,?_⟩
            · unfold InsP;omega
            · unfold farP;simp only[show ¬ ((3:Int)≤7∧(7:Int)≤6) by omega,if_false,if_true];omega
          · simp only[List.getElem_cons_zero,List.getElem_cons_succ]
            refine⟨?_,?_⟩
            · unfold InsP;omega
            · unfold farP;simp only[show ¬ ((3:Int)≤7∧(7:Int)≤6) by omega,if_false,if_true];omega
        · have hm0:m=0:=by simp at hlt;omega
          subst hm0
          obtain⟨z2,z3,hIn⟩:=insR (by omega) hI h (by omega)
          rw[z2,z3]at hIn
          simp only[List.getElem_cons_zero]
          refine⟨hIn,?_⟩
          have o1:o[i]=1:=by rw[ho.2.2.2 i h' h (by omega),if_neg (by omega)]
          have:=mono' (i+1) L.length h (Nat.le_refl _)
          unfold farP;simp only[show ¬ (3≤L[i].f1.f0∧L[i].f1.f0≤6) by omega,show ¬ L[i].f1.f0=7 by omega,if_false];omega
      · rw[List.getElem_append_right hge]
        have h2:=ih (c ++ w) (by rw[e,List.append_assoc]) (by rw[List.length_append,Int.natCast_add,hc,words_len ho hw,pre_succ h']) (m - w.length) (by rw[List.length_append]at hm;omega)
        have e3:(c ++ w).length+(m - w.length)=c.length+m:=by rw[List.length_append];omega
        rw[e3]at h2
        exact h2
  refine⟨h400,fun h0=>?_,fun j hj=>?_⟩
  · obtain⟨h,e⟩:=h8
    obtain⟨h',c,w,r,eR,hc,hw⟩:=laid_at ho hR h
    have hwl:=words_len ho hw
    have o1:o[L.length - 1]=1:=by rw[ho.2.2.2 (L.length - 1) h' h (by omega),if_neg (by omega)]
    rcases hw with⟨q,_⟩|⟨q,_⟩|⟨q,_⟩|⟨q,ew⟩
    · omega
    · omega
    · omega
    · have hcl:c.length=R.length - 1:=by omega
      have:=rd_mid c w r 0 (by rw[ew];simp) ((R.length - 1:Nat):Int) (by omega)
      rw[← eR,rd_nat34 R (R.length - 1) (by omega)]at this
      rw[this]
      simp only[ew,List.getElem_cons_zero]
      exact e
  · have h2:=each 0 R hR [] rfl (by simp[pre]) j hj
    refine⟨h2.1,?_⟩
    have h3:=h2.2
    simp only[List.length_nil,Nat.zero_add]at h3
    exact h3
/-- What is laid runs as its lines do. -/
theorem run_laid {L:List S104} (hn:L.length≤600) {o:List Int} (ho:OkS L o) {R:List S34} (hR:Laid L o 0 R) (h400:R.length≤400) (a b:Int) (w:List S93): ∀ {i:Nat} {g v:Int},Ends L a b w i g v→∀ s,∃ s',Evt (fun k=>spec_Run.l0 k R g s (pre o i) a b w) (v,s'):=by
  have hlen:=laid_len ho hR
  rw[show pre o 0=0 by simp[pre]]at hlen
  have bnd: ∀ j,j≤L.length→0≤pre o j∧pre o j≤1800:=fun j hj=>by have:=pre_bound ho.2.1 j (by have:=ho.1;omega);omega
  intro i g v hE
  induction hE with
  | place i g v h c0 hE ih=>
    intro s
    have h':i<o.length:=by have:=ho.1;omega
    have e:pre o (i+1)=pre o i:=by rw[pre_succ h',ho.2.2.2 i h' h (by omega),if_pos c0];omega
    rw[← e]
    exact ih s
  | load i g v h p c1 hp hE ih=>
    intro s
    obtain⟨h',c,ws,r,eR,hc,hw⟩:=laid_at ho hR h
    obtain⟨s',K,hK⟩:=ih (wrap64 (s+1))
    obtain⟨K2,h2⟩:=hp
    have o1:o[i]=1:=by rw[ho.2.2.2 i h' h (by omega),if_neg (by omega)]
    have hw1:ws= [⟨L[i].f1.f0,L[i].f1.f1,0,0⟩]:=by
      rcases hw with⟨q,_⟩|⟨q,_⟩|⟨q,_⟩|⟨q,e⟩
      · omega
      · omega
      · omega
      · exact e
    have e1:=rd_mid c ws r 0 (by rw[hw1];simp) (pre o i) (by omega)
    have b1:=bnd i (by omega)
    have b2:pre o i<(R.length:Int):=by rw[eR,hw1];simp only[List.length_append,List.length_cons,List.length_nil];omega
    have ps:=pre_succ h'
    refine⟨s',.succ ⟨K+K2,fun k hk=>?_⟩⟩
    have g2:=h2 k (by omega)
    have g1:=hK k (by omega)
    dsimp only at g1 g2
    simp only[spec_Run.l0]
    rw[if_pos b2,if_pos b1.1,eR,e1,← eR]
    simp only[hw1,List.getElem_cons_zero]
    rw[if_pos c1,g2,w64 (x:=pre o i+1) (by omega) (by omega),show pre o i+1=pre o (i+1) by omega]
    exact g1
  | and i g v h c2 hE ih=>
    intro s
    obtain⟨h',c,ws,r,eR,hc,hw⟩:=laid_at ho hR h
    obtain⟨s',K,hK⟩:=ih (wrap64 (s+1))
    have o1:o[i]=1:=by rw[ho.2.2.2 i h' h (by omega),if_neg (by omega)]
    have hw1:ws= [⟨L[i].f1.f0,L[i].f1.f1,0,0⟩]:=by
      rcases hw with⟨q,_⟩|⟨q,_⟩|⟨q,_⟩|⟨q,e⟩
      · omega
      · omega
      · omega
      · exact e
    have e1:=rd_mid c ws r 0 (by rw[hw1];simp) (pre o i) (by omega)
    have b1:=bnd i (by omega)
    have b2:pre o i<(R.length:Int):=by rw[eR,hw1];simp only[List.length_append,List.length_cons,List.length_nil];omega
    have ps:=pre_succ h'
    refine⟨s',.succ ⟨K,fun k hk=>?_⟩⟩
    have g1:=hK k (by omega)
    dsimp only at g1
    simp only[spec_Run.l0]
    rw[if_pos b2,if_pos b1.1,eR,e1,← eR]
    simp only[hw1,List.getElem_cons_zero]
    rw[if_neg (by omega),if_pos c2,w64 (x:=pre o i+1) (by omega) (by omega),show pre o i+1=pre o (i+1) by omega]
    exact g1
  | ret i g h c8=>
    intro s
    obtain⟨h',c,ws,r,eR,hc,hw⟩:=laid_at ho hR h
    have hw1:ws= [⟨L[i].f1.f0,L[i].f1.f1,0,0⟩]:=by
      rcases hw with⟨q,_⟩|⟨q,_⟩|⟨q,_⟩|⟨q,e⟩
      · omega
      · omega
      · omega
      · exact e
    have e1:=rd_mid c ws r 0 (by rw[hw1];simp) (pre o i) (by omega)
    have b1:=bnd i (by omega)
    have b2:pre o i<(R.length:Int):=by rw[eR,hw1];simp only[List.length_append,List.length_cons,List.length_nil];omega
    refine⟨wrap64 (s+1),.succ (.const fun k=>?_)⟩
    simp only[spec_Run.l0]
    rw[if_pos b2,if_pos b1.1,eR,e1,← eR]
    simp only[hw1,List.getElem_cons_zero]
    rw[if_neg (by omega),if_neg (by omega),if_neg (by omega),if_pos c8]
  | jump i g v h y c7 hy hE ih=>
    intro s
    obtain⟨h',c,ws,r,eR,hc,hw⟩:=laid_at ho hR h
    obtain⟨s',K,hK⟩:=ih (wrap64 (s+1))
    have o1:o[i]=1:=by rw[ho.2.2.2 i h' h (by omega),if_neg (by omega)]
    have hw1:ws= [⟨7,pre o y - pre o (i+1),0,0⟩]:=by
      rcases hw with⟨q,_⟩|⟨q,z,hz,e⟩|⟨q,_⟩|⟨q,e⟩
      · omega
      · rw[e,hz.uniq hy]
      · omega
      · omega
    have e1:=rd_mid c ws r 0 (by rw[hw1];simp) (pre o i) (by omega)
    have b1:=bnd i (by omega)
    have b3:=bnd y (by have:=hy.2.1;omega)
    have b2:pre o i<(R.length:Int):=by rw[eR,hw1];simp only[List.length_append,List.length_cons,List.length_nil];omega
    have ps:=pre_succ h'
    refine⟨s',.succ ⟨K,fun k hk=>?_⟩⟩
    have g1:=hK k (by omega)
    dsimp only at g1
    simp only[spec_Run.l0]
    rw[if_pos b2,if_pos b1.1,eR,e1,← eR]
    simp only[hw1,List.getElem_cons_zero]
    rw[if_neg (by omega),if_neg (by omega),if_pos trivial,w64 (x:=pre o i+(pre o y - pre o (i+1))) (by omega) (by omega),w64 (x:=pre o i+(pre o y - pre o (i+1))+1) (by omega) (by omega),show pre o i+(pre o y - pre o (i+1))+1=pre o y by omega]
    exact g1
  | ask i g v h t y ha ht hy hE ih=>
    intro s
    obtain⟨h',c,ws,r,eR,hc,hw⟩:=laid_at ho hR h
    have b1:=bnd i (by omega)
    have b3:=bnd y (by have:=hy.2.1;omega)
    have ps:=pre_succ h'
    have ht': ∀ c d,spec_l07Asks.f L[i].f1.f0 L[i].f1.f1 c d g=some t:=fun _ _=>ht
    rcases hw with⟨q,_⟩|⟨q,_⟩|⟨q,y1,z1,hy1,hz1,⟨q1,hw1⟩|⟨q3,hw1⟩⟩|⟨q,_⟩
    · omega
    · omega
    · obtain⟨s',K,hK⟩:=ih (wrap64 (s+1))
      have e1:=rd_mid c ws r 0 (by rw[hw1];simp) (pre o i) (by omega)
      have b2:pre o i<(R.length:Int):=by rw[eR,hw1];simp only[List.length_append,List.length_cons,List.length_nil];omega
      refine⟨s',.succ ⟨K,fun k hk=>?_⟩⟩
      have g1:=hK k (by omega)
      dsimp only at g1
      simp only[spec_Run.l0]
      rw[if_pos b2,if_pos b1.1,eR,e1,← eR]
      simp only[hw1,List.getElem_cons_zero]
      rw[if_neg (by omega),if_neg (by omega),if_neg (by omega),if_neg (by omega),ht']
      simp only[Option.bind_some]
      cases t with
      | true=>
        have hyy:y1=y:=hy1.uniq hy
        subst hyy
        rw[if_pos rfl,w64 (x:=pre o i+(pre o y1 - pre o (i+1))) (by omega) (by omega),w64 (x:=pre o i+(pre o y1 - pre o (i+1))+1) (by omega) (by omega),show pre o i+(pre o y1 - pre o (i+1))+1=pre o y1 by omega]
        exact g1
      | false=>
        have hyy:z1=y:=hz1.uniq hy
        subst hyy
        rw[if_neg (by simp),w64 (x:=pre o i+(pre o z1 - pre o (i+1))) (by omega) (by omega),w64 (x:=pre o i+(pre o z1 - pre o (i+1))+1) (by omega) (by omega),show pre o i+(pre o z1 - pre o (i+1))+1=pre o z1 by omega]
        exact g1
    · obtain⟨s',K,hK⟩:=ih (wrap64 (wrap64 (s+1)+1))
      have e1:=rd_mid c ws r 0 (by rw[hw1];simp) (pre o i) (by omega)
      have e2:=rd_mid c ws r 1 (by rw[hw1];simp) (pre o i+1) (by omega)
      have e3:=rd_mid c ws r 2 (by rw[hw1];simp) (pre o i+2) (by omega)
      have b2:pre o i+2<(R.length:Int):=by rw[eR,hw1];simp only[List.length_append,List.length_cons,List.length_nil];omega
      refine⟨s',.succ (.succ ⟨K,fun k hk=>?_⟩)⟩
      have g1:=hK k (by omega)
      dsimp only at g1
      simp only[spec_Run.l0]
      rw[if_pos (by omega),if_pos b1.1,eR,e1,← eR]
      simp only[hw1,List.getElem_cons_zero]
      rw[if_neg (by omega),if_neg (by omega),if_neg (by omega),if_neg (by omega),ht']
      simp only[Option.bind_some]
      cases t with
      | true=>
        have hyy:y1=y:=hy1.uniq hy
        subst hyy
        rw[if_pos rfl,w64 (x:=pre o i+0) (by omega) (by omega),w64 (x:=pre o i+0+1) (by omega) (by omega),show pre o i+0+1=pre o i+1 by omega]
        rw[if_pos (by omega),if_pos (by omega),eR,e2,← eR]
        simp only[hw1,List.getElem_cons_zero,List.getElem_cons_succ]
        rw[if_neg (by omega),if_neg (by omega),if_pos trivial,w64 (x:=pre o i+1+(pre o y1 - pre o (i+1)+1)) (by omega) (by omega),w64 (x:=pre o i+1+(pre o y1 - pre o (i+1)+1)+1) (by omega) (by omega),show pre o i+1+(pre o y1 - pre o (i+1)+1)+1=pre o y1 by omega]
        exact g1
      | false=>
        have hyy:z1=y:=hz1.uniq hy
        subst hyy
        rw[if_neg (by simp),w64 (x:=pre o i+1) (by omega) (by omega),w64 (x:=pre o i+1+1) (by omega) (by omega),show pre o i+1+1=pre o i+2 by omega]
        rw[if_pos (by omega),if_pos (by omega),eR,e3,← eR]
        simp only[hw1,List.getElem_cons_zero,List.getElem_cons_succ]
        rw[if_neg (by omega),if_neg (by omega),if_pos trivial,w64 (x:=pre o i+2+(pre o z1 - pre o (i+1))) (by omega) (by omega),w64 (x:=pre o i+2+(pre o z1 - pre o (i+1))+1) (by omega) (by omega),show pre o i+2+(pre o z1 - pre o (i+1))+1=pre o z1 by omega]
        exact g1
    · omega
/-- A place of a name stands there. -/
def To (post:List S104) (s:ByteArray):Prop:= ∃ z ∈ post,z.f1.f0=0∧z.f0.toList=s.toList
/-- A line that is right between others. -/
def Gd (pr:List S104) (x:S104) (post:List S104):Prop:=
  (PZ x∧(1≤(x.f0.size:Int)∧(x.f0.size:Int)≤12)∧x.f2.toList= []∧x.f3.toList= []∧∀ z ∈ pr,z.f1.f0=0→z.f0.toList≠x.f0.toList)∨
  (¬ x.f1.f0=0∧x.f0.toList= []∧x.f1.f2=0∧x.f1.f3=0∧(x.f1.f0=7→x.f1.f1=0)∧InsP x.f1.f0 x.f1.f1 x.f1.f2 x.f1.f3∧
    ((x.f1.f0=7∧x.f3.toList= []∧To post x.f2)∨((3≤x.f1.f0∧x.f1.f0≤6)∧To post x.f2∧To post x.f3)∨(¬ x.f1.f0=7∧ ¬ (3≤x.f1.f0∧x.f1.f0≤6)∧x.f2.toList= []∧x.f3.toList= [])))
def Ok (pr:List S104):List S104→List S104→Prop
  | [],_=>True
  | x :: l,post=>Gd pr x (l ++ post)∧Ok (pr ++ [x]) l post
theorem To.mono {p q:List S104} {s:ByteArray} (h:To p s) (hs: ∀ z ∈ p,z ∈ q):To q s:=by
  obtain⟨z,h1,h2⟩:=h
  exact⟨z,hs z h1,h2⟩
theorem Gd.mono {pr p q:List S104} {x:S104} (h:Gd pr x p) (hs: ∀ z ∈ p,z ∈ q):Gd pr x q:=by
  rcases h with h|⟨a,b,c,d,e,f,g⟩
  · exact .inl h
  · refine .inr ⟨a,b,c,d,e,f,?_⟩
    rcases g with⟨g1,g2,g3⟩|⟨g1,g2,g3⟩|g
    · exact .inl ⟨g1,g2,g3.mono hs⟩
    · exact .inr (.inl ⟨g1,g2.mono hs,g3.mono hs⟩)
    · exact .inr (.inr g)
theorem Ok.mono {q:List S104} : ∀ {l pr p:List S104},Ok pr l p→(∀ z ∈ p,z ∈ q)→Ok pr l q
  | [],_,_,_,_=>trivial
  | x :: l,pr,p,h,hs=>⟨h.1.mono (fun z hz=>by
      rcases List.mem_append.1 hz with h1|h1
      · exact List.mem_append_left _ h1
      · exact List.mem_append_right _ (hs z h1)),Ok.mono h.2 hs⟩
theorem Ok.app {post:List S104} : ∀ {l pr m:List S104},Ok pr l (m ++ post)→Ok (pr ++ l) m post→Ok pr (l ++ m) post
  | [],pr,m,_,h=>by simpa using h
  | x :: l,pr,m,h,g=>⟨by show Gd pr x ((l ++ m) ++ post);rw[List.append_assoc];exact h.1,Ok.app h.2 (by rw[List.append_assoc];exact g)⟩
theorem Ok.get {post:List S104} : ∀ {l pr:List S104},Ok pr l post→∀ j (h:j<l.length),Gd (pr ++ l.take j) l[j] (l.drop (j+1) ++ post)
  | [],_,_,_,h=>absurd h (by simp)
  | x :: l,pr,hk,0,h=>by simpa using hk.1
  | x :: l,pr,hk,j+1,h=>by
    have:=Ok.get hk.2 j (by simpa using h)
    simpa using this
theorem iAll_of {L:List S104} (h:Ok [] L []):IAll L:=by
  intro j hj w0 w2 w3 h0 h2 h3
  have hg:=h.get j hj
  simp only[List.nil_append,List.append_nil]at hg
  have found: ∀ (s:ByteArray) (w:Int),To (L.drop (j+1)) s→Fst (QI L s.toList) L.length (j+1) w→w≥0:=fun s w ht hw=>by
    obtain⟨z,hz,z0,z1⟩:=ht
    obtain⟨m,hm,e⟩:=List.mem_iff_getElem.1 hz
    rw[List.getElem_drop]at e
    rw[List.length_drop]at hm
    rcases hw with⟨u,_,_,_,u4,_⟩|⟨_,u2⟩
    · omega
    · exact absurd ⟨by omega,by rw[e];exact z0,by rw[e];exact z1⟩ (u2 (j+1+m) (by omega) (by omega))
  rcases hg with⟨a,b,c,d,e⟩|⟨a,b,c,d,e,f,g⟩
  · refine .inl ⟨a,b,c,d,?_⟩
    rcases h0 with⟨u,u1,u2,⟨_,u3,u4⟩,u5,u6⟩|⟨_,u2⟩
    · have n1: ¬ j<u:=fun hlt=>u6 j (by omega) hlt ⟨hj,a.1,rfl⟩
      have n2: ¬ u<j:=fun hlt=>e L[u] (by
        have:(L.take j)[u]'(by rw[List.length_take];omega)=L[u]:=List.getElem_take
        exact this ▸ List.getElem_mem _) u3 u4
      omega
    · exact absurd ⟨hj,a.1,rfl⟩ (u2 j (by omega) hj)
  · refine .inr ⟨a,b,c,d,e,f,?_⟩
    rcases g with⟨g1,g2,g3⟩|⟨g1,g2,g3⟩|g
    · exact .inl ⟨g1,g2,found _ _ g3 h2⟩
    · exact .inr (.inl ⟨g1,found _ _ g2 h2,found _ _ g3 h3⟩)
    · exact .inr (.inr g)
def tN (i:Nat):ByteArray:=strOfNums [(48+(i:Int)) % 256]
theorem emp:(⟨#[]⟩ :ByteArray).toList= []:=by rw[ByteArray.toList_eq]
/-- Right lines: what is asked of them, in one. -/
structure RL (L:List S104):Prop where
  n:L.length≤600
  s:SAll L
  i:IAll L
/-- A place stands once. -/
theorem RL.one {L:List S104} (h:RL L) {y:Nat} (hy:y<L.length) (hp:L[y].f1.f0=0):Fst (QI L L[y].f0.toList) L.length 0 (y:Int)∧L[y].f0.toList≠[]:=by
  have hn:=h.n
  obtain⟨w0,h0⟩:=fstI L (by omega) L[y].f0 0 (by omega)
  obtain⟨w2,h2⟩:=fstI L (by omega) L[y].f2 (y+1) hy
  obtain⟨w3,h3⟩:=fstI L (by omega) L[y].f3 (y+1) hy
  rcases h.i y hy w0 w2 w3 h0 h2 h3 with h4|h4
  · refine⟨by rw[← h4.2.2.2.2];exact h0,fun e=>?_⟩
    have h5:=h4.2.1.1
    rw[ByteArray.toList_eq]at e
    have h6:L[y].f0.size=0:=by
      show L[y].f0.data.toList.length=0
      rw[e]
      rfl
    omega
  · exact absurd hp h4.1
theorem RL.way {L:List S104} (h:RL L) {i y:Nat} {s:ByteArray} (hi:i<y) (hy:y<L.length) (hp:L[y].f1.f0=0) (hl:L[y].f0.toList=s.toList):Way L i s y:=by
  have hn:=h.n
  have H: ∀ j (h:j<L.length),L[j].f1.f0=0→PZ L[j]:=fun j h' e=>plz (by omega) h.i h' e
  obtain⟨h1,hne⟩:=h.one hy hp
  rw[hl]at h1 hne
  have hno: ∀ m,m<y→ ¬ QI L s.toList m:=by
    rcases h1 with⟨j,_,_,_,e,hn⟩|⟨e,_⟩
    · exact fun m hm=>hn m (by omega) (by omega)
    · omega
  exact⟨hi,hy,⟨hy,hp,hl⟩,.inl ⟨y,Nat.zero_le _,hy,(qs_qi H _ y).2 ⟨hy,hp,hl⟩,rfl,fun m _ hm q=>hno m hm ((qs_qi H _ m).1 q)⟩,.inl ⟨y,hi,hy,⟨hy,hp,hl⟩,rfl,fun m _ hm=>hno m hm⟩,hne⟩
/-- These lines stand there. -/
def Fr (L:List S104) (i:Nat) (F:List S104):Prop:= ∃ r,L.drop i=F ++ r
theorem Fr.get {L F:List S104} {i:Nat} (h:Fr L i F) (m:Nat) (hm:m<F.length): ∃ h':i+m<L.length,L[i+m]=F[m]:=by
  obtain⟨r,e⟩:=h
  have h1:L[i+m]?=some F[m]:=by rw[← List.getElem?_drop,e,List.getElem?_append_left hm,List.getElem?_eq_getElem hm]
  obtain⟨h2,h3⟩:=List.getElem?_eq_some_iff.1 h1
  exact⟨h2,h3⟩
theorem Fr.left {L F G:List S104} {i:Nat} (h:Fr L i (F ++ G)):Fr L i F:=by
  obtain⟨r,e⟩:=h
  exact⟨G ++ r,by rw[e,List.append_assoc]⟩
theorem Fr.right {L F G:List S104} {i:Nat} (h:Fr L i (F ++ G)):Fr L (i+F.length) G:=by
  obtain⟨r,e⟩:=h
  exact⟨r,by rw[← List.drop_drop,e,List.append_assoc,List.drop_left]⟩
theorem Fr.tail {L F:List S104} {x:S104} {i:Nat} (h:Fr L i (x :: F)):Fr L (i+1) F:=Fr.right (F:=[x]) h
section
variable {L:List S104} {a b:Int} {w:List S93} {i:Nat} {g v:Int}
theorem e_load (k:Int) (h:i<L.length) (e:L[i]=lw 1 k) (p:Int×Bool) (hp:Evt (fun n=>spec_FieldAt.f n a b w k) p) (hE:Ends L a b w (i+1) p.1 v):Ends L a b w i g v:= .load i g v h p (by rw[e];rfl) (by rw[e];exact hp) hE
theorem e_and (k:Int) (h:i<L.length) (e:L[i]=lw 2 k) (hE:Ends L a b w (i+1) (Go.bits .and .i64 g k) v):Ends L a b w i g v:= .and i g v h (by rw[e];rfl) (by rw[e];exact hE)
theorem e_ret (k:Int) (h:i<L.length) (e:L[i]=lw 8 k):Ends L a b w i g k:=by
  have:=Ends.ret (L:=L) (a:=a) (b:=b) (w:=w) i g h (by rw[e];rfl)
  rw[e]at this
  exact this
theorem e_place (s:ByteArray) (h:i<L.length) (e:L[i]=lp s) (hE:Ends L a b w (i+1) g v):Ends L a b w i g v:= .place i g v h (by rw[e];rfl) hE
theorem e_ask (hR:RL L) (o k:Int) (s t:ByteArray) (h:i<L.length) (e:L[i]=la o k s t) (ho:3≤o∧o≤6) (q:Bool) (hq:spec_l07Asks.f o k 0 0 g=some q) (y:Nat) (hi:i<y) (hy:y<L.length) (hp:L[y]=lp (if q=true then s else t)) (hE:Ends L a b w y g v):Ends L a b w i g v:=by
  refine .ask i g v h q y (by rw[e];exact ho) (by rw[e];exact hq) ?_ hE
  rw[e]
  exact hR.way hi hy (by rw[hp];rfl) (by rw[hp];rfl)
end
/-- A right call. -/
def CallR (a b:Int) (w:List S93):Prop:=(0≤a∧a≤4294967295)∧(0≤b∧b≤4294967295)∧w.length=3∧∀ y ∈ w,(0≤y.f0∧y.f0≤4294967295)∧(0≤y.f1∧y.f1≤4294967295)
theorem field_hl {a b:Int} {w:List S93} (hc:CallR a b w) {A:Int} (hA:0≤A∧A≤2):Evt (fun k=>spec_FieldAt.f k a b w (wrap64 (3+wrap64 (2*A)))) ((rd_T93 w A).f0,true)∧Evt (fun k=>spec_FieldAt.f k a b w (wrap64 (2+wrap64 (2*A)))) ((rd_T93 w A).f1,true):=by
  obtain⟨h1,h2,h3,h4⟩:=hc
  have hcl:=callT a b w h1 h2 h3 h4
  have dS: ∀ x,0≤x∧x≤7→∀ k,4≤k→spec_FieldAt.f k a b w x=spec_FieldAt.j0 k x false a b w:=fun x hx k hk=>by simp only[spec_FieldAt.f,hcl k hk,Option.bind_some,inS,if_true,decide_eq_true hx,Bool.not_true]
  have e0:wrap64 (2*A)=2*A:=w64 (by omega) (by omega)
  have e1:wrap64 (3+2*A)=3+2*A:=w64 (by omega) (by omega)
  have e2:wrap64 (2+2*A)=2+2*A:=w64 (by omega) (by omega)
  rw[e0,e1,e2]
  have f1:wrap64 (3+2*A - 2)=3+2*A - 2:=w64 (by omega) (by omega)
  have f2:wrap64 (2+2*A - 2)=2+2*A - 2:=w64 (by omega) (by omega)
  have g1:wrap64 (Int.tdiv (3+2*A - 2) 2)=A:=by rw[Int.tdiv_eq_ediv_of_nonneg (by omega),w64 (by omega) (by omega)];omega
  have g2:wrap64 (Int.tdiv (2+2*A - 2) 2)=A:=by rw[Int.tdiv_eq_ediv_of_nonneg (by omega),w64 (by omega) (by omega)];omega
  have m1:Int.tmod (3+2*A) 2=1:=by rw[Int.tmod_eq_emod_of_nonneg (by omega)];omega
  have m2:Int.tmod (2+2*A) 2=0:=by rw[Int.tmod_eq_emod_of_nonneg (by omega)];omega
  constructor
  · refine⟨5,fun k hk=>(dS _ (by omega) k (by omega)).trans ?_⟩
    obtain⟨k,rfl⟩ : ∃ m,k=m+1:=⟨k - 1,by omega⟩
    simp only[spec_FieldAt.j0,Bool.false_eq_true,if_false,f1,g1,m1]
    rw[if_neg (by omega),if_neg (by omega),if_pos (by omega),if_pos (by omega),if_neg (by decide)]
  · refine⟨5,fun k hk=>(dS _ (by omega) k (by omega)).trans ?_⟩
    obtain⟨k,rfl⟩ : ∃ m,k=m+1:=⟨k - 1,by omega⟩
    simp only[spec_FieldAt.j0,Bool.false_eq_true,if_false,f2,g2,m2]
    rw[if_neg (by omega),if_neg (by omega),if_pos (by omega),if_pos (by omega),if_pos trivial]
/-- Where a place is. -/
def At (L:List S104) (i p:Nat) (s:ByteArray):Prop:=i<p∧∃ h:p<L.length,L[p]=lp s
theorem At.le {L:List S104} {i j p:Nat} {s:ByteArray} (h:At L j p s) (hi:i≤j):At L i p s:=⟨by have:=h.1;omega,h.2⟩
theorem same_run {L:List S104} (hR:RL L) {a b:Int} {w:List S93} (hc:CallR a b w) {A B C E F:Int} (hA:0≤A∧A≤2) {s y n:ByteArray} {i:Nat} (hF:Fr L i (cSame A B C E F s y n)) {p q:Nat} (hp:At L (i+6) p y) (hq:At L (i+6) q n) {v:Int} {t:Bool}
    (ht:t=decide (Go.bits .and .i64 (rd_T93 w A).f0 B=E∧Go.bits .and .i64 (rd_T93 w A).f1 C=F)) (hT: ∀ g,Ends L a b w (if t=true then p else q) g v) (g:Int):Ends L a b w i g v:=by
  obtain⟨k0,x0⟩:=hF.get 0 (by simp[cSame])
  obtain⟨k1,x1⟩:=hF.get 1 (by simp[cSame])
  obtain⟨k2,x2⟩:=hF.get 2 (by simp[cSame])
  obtain⟨k3,x3⟩:=hF.get 3 (by simp[cSame])
  obtain⟨k4,x4⟩:=hF.get 4 (by simp[cSame])
  obtain⟨k5,x5⟩:=hF.get 5 (by simp[cSame])
  obtain⟨k6,x6⟩:=hF.get 6 (by simp[cSame])
  obtain⟨f1,f2⟩:=field_hl hc hA
  obtain⟨p1,p2,p3⟩:=hp
  obtain⟨q1,q2,q3⟩:=hq
  refine e_load _ k0 x0 _ f1 (e_and _ k1 x1 ?_)
  dsimp only
  generalize hX:Go.bits .and .i64 (rd_T93 w A).f0 B=X at ht ⊢
  by_cases hx:X=E
  · refine e_ask hR 3 E (s ++ (⟨#[97]⟩ :ByteArray)) n k2 x2 (by omega) true (by simp[spec_l07Asks.f,hx]) (i+3) (by omega) k3 (by rw[if_pos rfl];exact x3) ?_
    refine e_place _ k3 x3 (e_load _ k4 x4 _ f2 (e_and _ k5 x5 ?_))
    dsimp only
    generalize hY:Go.bits .and .i64 (rd_T93 w A).f1 C=Y at ht ⊢
    by_cases hy:Y=F
    · have ht':t=true:=by rw[ht];exact decide_eq_true ⟨hx,hy⟩
      have h:=hT Y
      rw[if_pos ht']at h
      exact e_ask hR 3 F y n k6 x6 (by omega) true (by simp[spec_l07Asks.f,hy]) p (by omega) p2 (by rw[if_pos rfl];exact p3) h
    · have ht':t=false:=by rw[ht];exact decide_eq_false (fun h=>hy h.2)
      have h:=hT Y
      rw[if_neg (by rw[ht'];decide)]at h
      exact e_ask hR 3 F y n k6 x6 (by omega) false (by simp[spec_l07Asks.f,hy]) q (by omega) q2 (by rw[if_neg (by decide)];exact q3) h
  · have ht':t=false:=by rw[ht];exact decide_eq_false (fun h=>hx h.1)
    have h:=hT X
    rw[if_neg (by rw[ht'];decide)]at h
    exact e_ask hR 3 E (s ++ (⟨#[97]⟩ :ByteArray)) n k2 x2 (by omega) false (by simp[spec_l07Asks.f,hx]) q (by omega) q2 (by rw[if_neg (by decide)];exact q3) h
theorem above_run {L:List S104} (hR:RL L) {a b:Int} {w:List S93} (hc:CallR a b w) {A B C E F o:Int} (hA:0≤A∧A≤2) (ho:o=4∨o=5) {s y n:ByteArray} {i:Nat} (hF:Fr L i (cAbove A B C E F o s y n)) {p q:Nat} (hp:At L (i+8) p y) (hq:At L (i+8) q n) {v:Int} {t:Bool}
    (ht:t=decide (Go.bits .and .i64 (rd_T93 w A).f0 B>E∨(Go.bits .and .i64 (rd_T93 w A).f0 B=E∧(Go.bits .and .i64 (rd_T93 w A).f1 C>F∨(o=5∧Go.bits .and .i64 (rd_T93 w A).f1 C=F))))) (hT: ∀ g,Ends L a b w (if t=true then p else q) g v) (g:Int):Ends L a b w i g v:=by
  obtain⟨k0,x0⟩:=hF.get 0 (by simp[cAbove])
  obtain⟨k1,x1⟩:=hF.get 1 (by simp[cAbove])
  obtain⟨k2,x2⟩:=hF.get 2 (by simp[cAbove])
  obtain⟨k3,x3⟩:=hF.get 3 (by simp[cAbove])
  obtain⟨k4,x4⟩:=hF.get 4 (by simp[cAbove])
  obtain⟨k5,x5⟩:=hF.get 5 (by simp[cAbove])
  obtain⟨k6,x6⟩:=hF.get 6 (by simp[cAbove])
  obtain⟨k7,x7⟩:=hF.get 7 (by simp[cAbove])
  obtain⟨k8,x8⟩:=hF.get 8 (by simp[cAbove])
  obtain⟨f1,f2⟩:=field_hl hc hA
  obtain⟨p1,p2,p3⟩:=hp
  obtain⟨q1,q2,q3⟩:=hq
  refine e_load _ k0 x0 _ f1 (e_and _ k1 x1 ?_)
  dsimp only
  generalize hX:Go.bits .and .i64 (rd_T93 w A).f0 B=X at ht ⊢
  by_cases hx:X>E
  · have ht':t=true:=by rw[ht];exact decide_eq_true (.inl hx)
    have h:=hT X
    rw[if_pos ht']at h
    exact e_ask hR 4 E y (s ++ (⟨#[97]⟩ :ByteArray)) k2 x2 (by omega) true (by simp[spec_l07Asks.f];omega) p (by omega) p2 (by rw[if_pos rfl];exact p3) h
  · refine e_ask hR 4 E y (s ++ (⟨#[97]⟩ :ByteArray)) k2 x2 (by omega) false (by simp[spec_l07Asks.f];omega) (i+3) (by omega) k3 (by rw[if_neg (by decide)];exact x3) ?_
    refine e_place _ k3 x3 ?_
    by_cases he:X=E
    · refine e_ask hR 3 E (s ++ (⟨#[98]⟩ :ByteArray)) n k4 x4 (by omega) true (by simp[spec_l07Asks.f,he]) (i+5) (by omega) k5 (by rw[if_pos rfl];exact x5) ?_
      refine e_place _ k5 x5 (e_load _ k6 x6 _ f2 (e_and _ k7 x7 ?_))
      dsimp only
      generalize hY:Go.bits .and .i64 (rd_T93 w A).f1 C=Y at ht ⊢
      have hh:=hT Y
      by_cases hy:Y>F∨(o=5∧Y=F)
      · have ht':t=true:=by rw[ht];exact decide_eq_true (.inr ⟨he,hy⟩)
        rw[if_pos ht']at hh
        refine e_ask hR o F y n k8 x8 (by omega) true ?_ p (by omega) p2 (by rw[if_pos rfl];exact p3) hh
        rcases ho with rfl|rfl <;> (simp[spec_l07Asks.f];omega)
      · have ht':t=false:=by rw[ht];exact decide_eq_false (fun h=>by rcases h with h|h;exact hx h;exact hy h.2)
        rw[if_neg (by rw[ht'];decide)]at hh
        refine e_ask hR o F y n k8 x8 (by omega) false ?_ q (by omega) q2 (by rw[if_neg (by decide)];exact q3) hh
        rcases ho with rfl|rfl <;> (simp[spec_l07Asks.f];omega)
    · have ht':t=false:=by rw[ht];exact decide_eq_false (fun h=>by rcases h with h|h;exact hx h;exact he h.1)
      have h:=hT X
      rw[if_neg (by rw[ht'];decide)]at h
      exact e_ask hR 3 E (s ++ (⟨#[98]⟩ :ByteArray)) n k4 x4 (by omega) false (by simp[spec_l07Asks.f,he]) q (by omega) q2 (by rw[if_neg (by decide)];exact q3) h
/-- How a pair stands to another. -/
def cmpV (x y e f:Int):Int:=if x<e then -1 else if x>e then 1 else if y<f then -1 else if y>f then 1 else 0
def holdV (d t:Int):Bool:=if d=1 then t == 0 else if d=2 then t !=0 else if d=3 then decide (t<0)else if d=4 then decide (t≤0)else if d=5 then decide (t>0)else decide (t≥0)
/-- Does a condition hold of a call. -/
def cH (c:S114) (w:List S93):Bool:=holdV c.f2 (cmpV (Go.bits .and .i64 (rd_T93 w c.f0).f0 c.f1.f0) (Go.bits .and .i64 (rd_T93 w c.f0).f1 c.f1.f1) c.f3.f0 c.f3.f1)
/-- A right condition. -/
def CR (y:S114):Prop:=(0≤y.f0∧y.f0≤2)∧((0≤y.f1.f0∧y.f1.f0≤4294967295)∧(0≤y.f1.f1∧y.f1.f1≤4294967295))∧((0≤y.f3.f0∧y.f3.f0≤4294967295)∧(0≤y.f3.f1∧y.f3.f1≤4294967295))∧1≤y.f2∧y.f2≤6
theorem cmpV_eq (x y e f:Int):spec_WideCmp.f x y e f=some (cmpV x y e f):=by
  unfold spec_WideCmp.f spec_l04Cmp.f cmpV
  repeat' split
  all_goals simp_all
  all_goals (repeat' split)
  all_goals first|rfl|omega|simp_all
theorem cH_eq {c:S114} (h:CR c) {a b:Int} {w:List S93} (hc:CallR a b w):Evt (fun k=>spec_CondHolds.f k c.f0 c.f1.f0 c.f1.f1 c.f2 c.f3.f0 c.f3.f1 a b w) (cH c w):=by
  obtain⟨h1,h2,h3,h4⟩:=hc
  have hcl:=callT a b w h1 h2 h3 h4
  have hlt:c.f0.toNat<w.length:=by have:=h.1;omega
  have e0:rd_T93 w c.f0=w[c.f0.toNat]:=by
    have:=nrd_T93 w c.f0.toNat hlt
    rwa [show((c.f0.toNat:Nat):Int)=c.f0 by have:=h.1;omega]at this
  have hw:=h4 w[c.f0.toNat] (List.getElem_mem hlt)
  refine⟨6,fun k hk=>?_⟩
  obtain⟨k,rfl⟩ : ∃ m,k=m+1:=⟨k - 1,by omega⟩
  have hcd:spec_CondOk.f c.f0 c.f1.f0 c.f1.f1 c.f2 c.f3.f0 c.f3.f1=some true:=by
    obtain⟨r1,r2,r3,r4⟩:=h
    simp only[spec_CondOk.f,inS,wideS,Option.bind_some,decide_eq_true_eq,if_pos r1,if_pos r2,if_pos r3]
    rw[decide_eq_true r4]
  have hand:spec_WideAnd.f (rd_T93 w c.f0).f0 (rd_T93 w c.f0).f1 c.f1.f0 c.f1.f1=some (Go.bits .and .i64 (rd_T93 w c.f0).f0 c.f1.f0,Go.bits .and .i64 (rd_T93 w c.f0).f1 c.f1.f1):=by
    simp only[spec_WideAnd.f,wideS,Option.bind_some,decide_eq_true_eq,e0,if_pos hw,if_pos h.2.1]
  simp only[spec_CondHolds.f,hcd,hcl (k+1) (by omega),Option.bind_some,if_true,Bool.not_true,spec_CondHolds.j0,Bool.false_eq_true,if_false]
  rw[if_pos h.1.1,if_pos (by have:=h.1;omega),hand]
  simp only[Option.bind_some,cmpV_eq]
  unfold cH holdV
  repeat' split
  all_goals rfl
/-- The lines of a condition go to yes just when it holds. -/
theorem cond_run {L:List S104} (hR:RL L) {a b:Int} {w:List S93} (hc:CallR a b w) {c:S114} (h:CR c) {s y n:ByteArray} {i:Nat} (hF:Fr L i (cLines c.f0 c.f1.f0 c.f1.f1 c.f2 c.f3.f0 c.f3.f1 s y n)) {p q:Nat} (hp:At L (i+(cLines c.f0 c.f1.f0 c.f1.f1 c.f2 c.f3.f0 c.f3.f1 s y n).length - 1) p y) (hq:At L (i+(cLines c.f0 c.f1.f0 c.f1.f1 c.f2 c.f3.f0 c.f3.f1 s y n).length - 1) q n) {v:Int}
    (hT: ∀ g,Ends L a b w (if cH c w=true then p else q) g v) (g:Int):Ends L a b w i g v:=by
  have hin:(0≤c.f0∧c.f0≤2)∧((0≤c.f1.f0∧c.f1.f0≤4294967295)∧(0≤c.f1.f1∧c.f1.f1≤4294967295))∧((0≤c.f3.f0∧c.f3.f0≤4294967295)∧(0≤c.f3.f1∧c.f3.f1≤4294967295))∧1≤c.f2∧c.f2≤6:=h
  unfold cLines at hF hp hq
  rw[if_pos hin]at hF hp hq
  have hd:=h.2.2.2
  have hd':c.f2=1∨c.f2=2∨c.f2=3∨c.f2=4∨c.f2=5∨c.f2=6:=by omega
  have swap: ∀ u:Bool,(!cH c w)=u→∀ g,Ends L a b w (if u=true then q else p) g v:=fun u hu g=>by
    have:=hT g
    rw[← hu]
    cases hh:cH c w
    · rw[hh]at this
      simpa using this
    · rw[hh]at this
      simpa using this
  rcases hd' with hd|hd|hd|hd|hd|hd
  · rw[hd]at hF hp hq
    refine same_run hR hc h.1 hF hp hq rfl ?_ g
    rw[show decide (Go.bits .and .i64 (rd_T93 w c.f0).f0 c.f1.f0=c.f3.f0∧Go.bits .and .i64 (rd_T93 w c.f0).f1 c.f1.f1=c.f3.f1)=cH c w from ?_]
    · exact hT
    · unfold cH holdV cmpV
      rw[hd,if_pos rfl,Bool.eq_iff_iff]
      simp only[decide_eq_true_eq,beq_iff_eq]
      repeat' split
      all_goals omega
  · rw[hd]at hF hp hq
    refine same_run hR hc h.1 hF hq hp rfl (swap _ ?_) g
    unfold cH holdV cmpV
    rw[hd,if_neg (by decide),if_pos rfl,Bool.eq_iff_iff]
    simp only[decide_eq_true_eq,bne_iff_ne,Bool.not_eq_true',bne_eq_false_iff_eq]
    repeat' split
    all_goals omega
  · rw[hd]at hF hp hq
    refine above_run hR hc h.1 (.inr rfl) hF hq hp rfl (swap _ ?_) g
    unfold cH holdV cmpV
    rw[hd,if_neg (by decide),if_neg (by decide),if_pos rfl,Bool.eq_iff_iff]
    simp only[decide_eq_true_eq,Bool.not_eq_true',decide_eq_false_iff_not,true_and]
    repeat' split
    all_goals omega
  · rw[hd]at hF hp hq
    refine above_run hR hc h.1 (.inl rfl) hF hq hp rfl (swap _ ?_) g
    unfold cH holdV cmpV
    rw[hd,if_neg (by decide),if_neg (by decide),if_neg (by decide),if_pos rfl,Bool.eq_iff_iff]
    simp only[decide_eq_true_eq,Bool.not_eq_true',decide_eq_false_iff_not]
    repeat' split
    all_goals omega
  · rw[hd]at hF hp hq
    refine above_run hR hc h.1 (.inl rfl) hF hp hq rfl ?_ g
    rw[show decide (Go.bits .and .i64 (rd_T93 w c.f0).f0 c.f1.f0>c.f3.f0∨(Go.bits .and .i64 (rd_T93 w c.f0).f0 c.f1.f0=c.f3.f0∧(Go.bits .and .i64 (rd_T93 w c.f0).f1 c.f1.f1>c.f3.f1∨((4:Int)=5∧Go.bits .and .i64 (rd_T93 w c.f0).f1 c.f1.f1=c.f3.f1))))=cH c w from ?_]
    · exact hT
    · unfold cH holdV cmpV
      rw[hd,if_neg (by decide),if_neg (by decide),if_neg (by decide),if_neg (by decide),if_pos rfl,Bool.eq_iff_iff]
      simp only[decide_eq_true_eq]
      repeat' split
      all_goals omega
  · rw[hd]at hF hp hq
    refine above_run hR hc h.1 (.inr rfl) hF hp hq rfl ?_ g
    rw[show decide (Go.bits .and .i64 (rd_T93 w c.f0).f0 c.f1.f0>c.f3.f0∨(Go.bits .and .i64 (rd_T93 w c.f0).f0 c.f1.f0=c.f3.f0∧(Go.bits .and .i64 (rd_T93 w c.f0).f1 c.f1.f1>c.f3.f1∨((5:Int)=5∧Go.bits .and .i64 (rd_T93 w c.f0).f1 c.f1.f1=c.f3.f1))))=cH c w from ?_]
    · exact hT
    · unfold cH holdV cmpV
      rw[hd,if_neg (by decide),if_neg (by decide),if_neg (by decide),if_neg (by decide),if_neg (by decide),Bool.eq_iff_iff]
      simp only[decide_eq_true_eq,true_and]
      repeat' split
      all_goals omega
theorem figI (i:Nat) (hi:i<10):Evt (fun k=>impl_Decimal.f k (i:Int)) (tN i):=by
  by_cases h:(i:Int)=0
  · refine .const fun k=>?_
    simp only[impl_Decimal.f]
    rw[if_pos h,show i=0 by omega]
    rfl
  · refine⟨2,fun k hk=>?_⟩
    obtain⟨k,rfl⟩ : ∃ m,k=m+2:=⟨k - 2,by omega⟩
    have em:Int.tmod (i:Int) 10=i:=by rw[Int.tmod_eq_emod_of_nonneg (by omega)];omega
    have ed:wrap64 (Int.tdiv (i:Int) 10)=0:=by rw[Int.tdiv_eq_ediv_of_nonneg (by omega),w64 (by omega) (by omega)];omega
    have ex:mx (i:Int) (wrap64 (-(i:Int)))=i:=by rw[w64 (by omega) (by omega)];unfold mx;split <;> omega
    have e1:wrap64 ((i:Int)+1)=i+1:=w64 (by omega) (by omega)
    have hf:=fig (i:Int) (by omega) (by omega)
    have hs:(strOfNums [(48+(i:Int)) % 256] ++ (⟨#[]⟩ :ByteArray))=strOfNums [(48+(i:Int)) % 256]:=by rw[show(⟨#[]⟩ :ByteArray)=ByteArray.empty from rfl,ByteArray.append_empty]
    have hz:(strOfNums [(48+(i:Int)) % 256]).size=1:=rfl
    have hz0:(⟨#[]⟩ :ByteArray).size=0:=rfl
    simp only[impl_Decimal.f,impl_Decimal.l0,em,ex,e1,hf,hs,ed,if_neg h]
    rw[if_pos (by omega),if_pos (by omega),if_pos (by omega),if_pos (by omega),if_pos trivial,if_neg (by omega)]
    rfl
theorem cLines_pos {c:S114} (h:CR c) (s y n:ByteArray):7≤(cLines c.f0 c.f1.f0 c.f1.f1 c.f2 c.f3.f0 c.f3.f1 s y n).length:=by
  have hin:(0≤c.f0∧c.f0≤2)∧((0≤c.f1.f0∧c.f1.f0≤4294967295)∧(0≤c.f1.f1∧c.f1.f1≤4294967295))∧((0≤c.f3.f0∧c.f3.f0≤4294967295)∧(0≤c.f3.f1∧c.f3.f1≤4294967295))∧1≤c.f2∧c.f2≤6:=h
  unfold cLines
  rw[if_pos hin]
  repeat' split
  all_goals simp[cSame,cAbove]
/-- The lines of conditions, from a number on. -/
def rlF (s n:ByteArray):List S114→Nat→List S104
  | [],_=>[]
  | c :: l,j=>cLines c.f0 c.f1.f0 c.f1.f1 c.f2 c.f3.f0 c.f3.f1 (s ++ tN j) ((s ++ (⟨#[110]⟩ :ByteArray)) ++ tN j) n ++ (lp ((s ++ (⟨#[110]⟩ :ByteArray)) ++ tN j) :: rlF s n l (j+1))
theorem rlF_len (s n:ByteArray): ∀ (l:List S114) (j:Nat),(rlF s n l j).length≤10*l.length
  | [],_=>by simp[rlF]
  | c :: l,j=>by
    have h1:=cLines_len c.f0 c.f1.f0 c.f1.f1 c.f2 c.f3.f0 c.f3.f1 (s ++ tN j) ((s ++ (⟨#[110]⟩ :ByteArray)) ++ tN j) n
    have h2:=rlF_len s n l (j+1)
    simp only[rlF,List.length_append,List.length_cons]
    omega
theorem At.snoc {L F:List S104} {i:Nat} {x:ByteArray} {G:List S104} (h:Fr L i (F ++ (lp x :: G))) (hF:1≤F.length):At L (i+F.length - 1) (i+F.length) x:=by
  obtain⟨h1,h2⟩:=h.right.get 0 (by simp)
  exact⟨by omega,h1,h2⟩
/-- The lines of a rule come to its end just when its conditions hold. -/
theorem rule_run {L:List S104} (hR:RL L) {a b:Int} {w:List S93} (hc:CallR a b w) {s n:ByteArray} {v0 vq:Int} : ∀ (l:List S114) (j i:Nat),(∀ c ∈ l,CR c)→Fr L i (rlF s n l j ++ [lw 8 v0])→∀ q,At L (i+(rlF s n l j).length) q n→(∀ g,Ends L a b w q g vq)→∀ g,Ends L a b w i g (if l.all (fun c=>cH c w)=true then v0 else vq)
  | [],j,i,_,hF,q,hq,hT,g=>by
    obtain⟨h1,h2⟩:=hF.get 0 (by simp[rlF])
    exact e_ret v0 h1 h2
  | c :: l,j,i,hl,hF,q,hq,hT,g=>by
    have hc1:=hl c List.mem_cons_self
    have hpos:=cLines_pos hc1 (s ++ tN j) ((s ++ (⟨#[110]⟩ :ByteArray)) ++ tN j) n
    simp only[rlF,List.append_assoc,List.cons_append]at hF
    simp only[rlF,List.length_append,List.length_cons]at hq
    have ha:=At.snoc hF (by omega)
    have hF1:=hF.left
    have hF2:=hF.right.tail
    refine cond_run hR hc hc1 hF1 ha (hq.le (by omega)) (fun g=>?_) g
    cases hh:cH c w with
    | true=>
      rw[if_pos rfl]
      have:=rule_run hR hc l (j+1) _ (fun x hx=>hl x (List.mem_cons_of_mem _ hx)) hF2 q (hq.le (by omega)) hT g
      rw[show(c :: l).all (fun c=>cH c w)=l.all (fun c=>cH c w) by simp[hh]]
      obtain⟨h1,h2⟩:=ha.2
      exact e_place _ h1 h2 this
    | false=>
      rw[if_neg (by decide),show(c :: l).all (fun c=>cH c w)=false by simp[hh],if_neg (by decide)]
      exact hT g
theorem rl_eq (x:List Int) (l:List S114) (a b:Int) (s n:ByteArray) (hn:l.length≤9) (hs:s.size≤1000000000000000000) {v0:Int} (hv:spec_ResultOf.f a b=some v0):Evt (fun k=>impl_RuleLines.f k x l a b s n) (rlF s n l 0 ++ [lw 8 v0]):=by
  have key:=down (T:=fun i=> ∀ o:List S104,o.length≤10*i→Evt (fun k=>impl_RuleLines.l0 k s n o l (l.length:Int) (i:Int) x l a b) (o ++ (rlF s n (l.drop i) i ++ [lw 8 v0]))) (n:=l.length) ?_ ?_ l.length 0 (by omega) [] (by simp)
  · exact key
  · intro o ho
    refine .succ (.const fun k=>?_)
    simp only[impl_RuleLines.l0,impl_word.f,resI,hv,Option.bind_some]
    rw[if_neg (by omega),if_pos (by omega),List.drop_length]
    rfl
  · intro i hi ih o ho
    obtain⟨K1,d1⟩:=figI i (by omega)
    have hL:=cLines_len l[i].f0 l[i].f1.f0 l[i].f1.f1 l[i].f2 l[i].f3.f0 l[i].f3.f1 (s ++ tN i) ((s ++ (⟨#[110]⟩ :ByteArray)) ++ tN i) n
    have t1:(tN i).size=1:=rfl
    have hz:(s ++ tN i).size≤9000000000000000000:=by rw[ByteArray.size_append];omega
    have hI:=fun k=>linesI k l[i].f0 l[i].f1.f0 l[i].f1.f1 l[i].f2 l[i].f3.f0 l[i].f3.f1 (s ++ tN i) ((s ++ (⟨#[110]⟩ :ByteArray)) ++ tN i) n hz
    have z1:(s ++ (⟨#[110]⟩ :ByteArray)).size=s.size+1:=ByteArray.size_append
    rw[List.drop_eq_getElem_cons hi]
    simp only[rlF,List.append_assoc,List.cons_append]
    generalize cLines l[i].f0 l[i].f1.f0 l[i].f1.f1 l[i].f2 l[i].f3.f0 l[i].f3.f1 (s ++ tN i) ((s ++ (⟨#[110]⟩ :ByteArray)) ++ tN i) n=C at hL hI
    obtain⟨K2,h2⟩:=ih (o ++ C ++ [lp ((s ++ (⟨#[110]⟩ :ByteArray)) ++ tN i)]) (by simp;omega)
    dsimp only at d1 h2
    refine .succ ⟨K1+K2+1,fun k hk=>?_⟩
    simp only[impl_RuleLines.l0]
    obtain⟨k,rfl⟩ : ∃ m,k=m+1:=⟨k - 1,by omega⟩
    rw[if_pos (by omega),if_pos (by omega),if_pos (by omega),if_pos (by omega),d1 (k+1) (by omega)]
    simp only[Option.bind_some]
    rw[if_pos (by rw[z1];omega),if_pos (by omega),nrd_T114 l i hi,hI]
    simp only[Option.bind_some,impl_place.f]
    rw[if_pos (by omega)]
    rw[if_pos (by rw[List.length_append];omega),wsucc hi (by omega)]
    refine(h2 (k+1) (by omega)).trans ?_
    simp
/-! Right lines. -/
theorem tl_app (s t:ByteArray):(s ++ t).toList=s.toList ++ t.toList:=by
  simp only[ByteArray.toList_eq,ByteArray.data_append,Array.toList_append]
theorem tN_tl: ∀ i,i<10→(tN i).toList= [UInt8.ofNat (48+i)]:=by
  simp only[ByteArray.toList_eq]
  decide
theorem dig_ne: ∀ i,i<10→UInt8.ofNat (48+i)≠110:=by decide
theorem dig_inj: ∀ i,i<10→∀ j,j<10→UInt8.ofNat (48+i)=UInt8.ofNat (48+j)→i=j:=by decide
theorem tl1 (x:UInt8):(⟨#[x]⟩ :ByteArray).toList= [x]:=by rw[ByteArray.toList_eq]
theorem gd_lw {pr post:List S104} {o k:Int} (ho:o=1∨o=2∨o=8) (hk:0≤k∧k≤4294967295) (h1:o=1→k≤7):Gd pr (lw o k) post:=by
  refine .inr ⟨by show ¬ o=0;omega,emp,rfl,rfl,fun h=>absurd (show o=7 from h) (by omega),?_,.inr (.inr ⟨by show ¬ o=7;omega,by show ¬ (3≤o∧o≤6);omega,emp,emp⟩)⟩
  show InsP o k 0 0
  unfold InsP
  omega
theorem gd_la {pr post:List S104} {o k:Int} {s t:ByteArray} (ho:3≤o∧o≤6) (hk:0≤k∧k≤4294967295) (h1:To post s) (h2:To post t):Gd pr (la o k s t) post:=by
  refine .inr ⟨by show ¬ o=0;omega,emp,rfl,rfl,fun h=>absurd (show o=7 from h) (by omega),?_,.inr (.inl ⟨ho,h1,h2⟩)⟩
  show InsP o k 0 0
  unfold InsP
  omega
theorem gd_lp {pr post:List S104} {s:ByteArray} (hs:1≤s.size∧s.size≤12) (hn: ∀ z ∈ pr,z.f1.f0=0→z.f0.toList≠s.toList):Gd pr (lp s) post:=
  .inl ⟨⟨rfl,rfl,rfl,rfl⟩,by show 1≤(s.size:Int)∧(s.size:Int)≤12;omega,emp,emp,hn⟩
theorem To.here {post:List S104} {s:ByteArray} (h:lp s ∈ post):To post s:=⟨lp s,h,rfl,rfl⟩
/-- No place's name begins so. -/
def Fre (pr:List S104) (s:ByteArray):Prop:= ∀ z ∈ pr,z.f1.f0=0→ ¬ (s.toList <+:z.f0.toList)
theorem Fre.ne {pr:List S104} {s t:ByteArray} (h:Fre pr s): ∀ z ∈ pr,z.f1.f0=0→z.f0.toList≠(s ++ t).toList:=fun z hz h0 e=>h z hz h0 (by rw[e,tl_app];exact List.prefix_append _ _)
theorem not0 {pr:List S104} {x:S104} {Q:S104→Prop} (h: ∀ z ∈ pr,z.f1.f0=0→Q z) (hx: ¬ x.f1.f0=0): ∀ z ∈ pr ++ [x],z.f1.f0=0→Q z:=fun z hz h0=>by
  rcases List.mem_append.1 hz with hz|hz
  · exact h z hz h0
  · rw[List.mem_singleton]at hz
    subst hz
    exact absurd h0 hx
theorem addp {pr:List S104} {x:S104} {Q:S104→Prop} (h: ∀ z ∈ pr,z.f1.f0=0→Q z) (hx:Q x): ∀ z ∈ pr ++ [x],z.f1.f0=0→Q z:=fun z hz h0=>by
  rcases List.mem_append.1 hz with hz|hz
  · exact h z hz h0
  · rw[List.mem_singleton]at hz
    subst hz
    exact hx
theorem w2a {a:Int} (h:0≤a∧a≤2):(0≤wrap64 (3+wrap64 (2*a))∧wrap64 (3+wrap64 (2*a))≤7)∧(0≤wrap64 (2+wrap64 (2*a))∧wrap64 (2+wrap64 (2*a))≤7):=by
  unfold wrap64
  omega
theorem same_ok {pr post:List S104} {A B C E F:Int} {s y n:ByteArray} (hA:0≤A∧A≤2) (hB:0≤B∧B≤4294967295) (hC:0≤C∧C≤4294967295) (hE:0≤E∧E≤4294967295) (hF:0≤F∧F≤4294967295) (hs:s.size+1≤12) (hf:Fre pr s) (hy:To post y) (hn:To post n):Ok pr (cSame A B C E F s y n) post:=by
  obtain⟨w1,w2⟩:=w2a hA
  have z1:(s ++ (⟨#[97]⟩ :ByteArray)).size=s.size+1:=ByteArray.size_append
  have nh: ∀ p,∀ z ∈ post,z ∈ p ++ post:=fun p z hz=>List.mem_append_right _ hz
  refine⟨gd_lw (.inl rfl) (by omega) (by omega),gd_lw (.inr (.inl rfl)) hB (by omega),gd_la (by omega) hE (.here (by simp)) (hn.mono (nh _)),gd_lp (by omega) ?_,gd_lw (.inl rfl) (by omega) (by omega),gd_lw (.inr (.inl rfl)) hC (by omega),gd_la (by omega) hF hy hn,trivial⟩
  exact not0 (not0 (not0 hf.ne (by show ¬ (1:Int)=0;decide)) (by show ¬ (2:Int)=0;decide)) (by show ¬ (3:Int)=0;decide)
theorem above_ok {pr post:List S104} {A B C E F o:Int} {s y n:ByteArray} (ho:3≤o∧o≤6) (hA:0≤A∧A≤2) (hB:0≤B∧B≤4294967295) (hC:0≤C∧C≤4294967295) (hE:0≤E∧E≤4294967295) (hF:0≤F∧F≤4294967295) (hs:s.size+1≤12) (hf:Fre pr s) (hy:To post y) (hn:To post n):Ok pr (cAbove A B C E F o s y n) post:=by
  obtain⟨w1,w2⟩:=w2a hA
  have z1:(s ++ (⟨#[97]⟩ :ByteArray)).size=s.size+1:=ByteArray.size_append
  have z2:(s ++ (⟨#[98]⟩ :ByteArray)).size=s.size+1:=ByteArray.size_append
  have nh: ∀ p,∀ z ∈ post,z ∈ p ++ post:=fun p z hz=>List.mem_append_right _ hz
  refine⟨gd_lw (.inl rfl) (by omega) (by omega),gd_lw (.inr (.inl rfl)) hB (by omega),gd_la (by omega) hE (hy.mono (nh _)) (.here (by simp)),gd_lp (by omega) ?_,gd_la (by omega) hE (.here (by simp)) (hn.mono (nh _)),gd_lp (by omega) ?_,gd_lw (.inl rfl) (by omega) (by omega),gd_lw (.inr (.inl rfl)) hC (by omega),gd_la ho hF hy hn,trivial⟩
  · exact not0 (not0 (not0 hf.ne (by show ¬ (1:Int)=0;decide)) (by show ¬ (2:Int)=0;decide)) (by show ¬ (4:Int)=0;decide)
  · refine not0 (addp (not0 (not0 (not0 hf.ne (by show ¬ (1:Int)=0;decide)) (by show ¬ (2:Int)=0;decide)) (by show ¬ (4:Int)=0;decide)) ?_) (by show ¬ (3:Int)=0;decide)
    show(s ++ (⟨#[97]⟩ :ByteArray)).toList≠(s ++ (⟨#[98]⟩ :ByteArray)).toList
    rw[tl_app,tl_app,tl1,tl1]
    intro e
    have:=List.append_cancel_left e
    simp at this
theorem cond_ok {pr post:List S104} {c:S114} (h:CR c) {s y n:ByteArray} (hs:s.size+1≤12) (hf:Fre pr s) (hy:To post y) (hn:To post n):Ok pr (cLines c.f0 c.f1.f0 c.f1.f1 c.f2 c.f3.f0 c.f3.f1 s y n) post:=by
  have hin:(0≤c.f0∧c.f0≤2)∧((0≤c.f1.f0∧c.f1.f0≤4294967295)∧(0≤c.f1.f1∧c.f1.f1≤4294967295))∧((0≤c.f3.f0∧c.f3.f0≤4294967295)∧(0≤c.f3.f1∧c.f3.f1≤4294967295))∧1≤c.f2∧c.f2≤6:=h
  obtain⟨h1,⟨h2,h3⟩,⟨h4,h5⟩,h6⟩:=hin
  unfold cLines
  rw[if_pos ⟨h1,⟨h2,h3⟩,⟨h4,h5⟩,h6⟩]
  repeat' split
  · exact same_ok h1 h2 h3 h4 h5 hs hf hy hn
  · exact same_ok h1 h2 h3 h4 h5 hs hf hn hy
  · exact above_ok (by omega) h1 h2 h3 h4 h5 hs hf hy hn
  · exact above_ok (by omega) h1 h2 h3 h4 h5 hs hf hy hn
  · exact above_ok (by omega) h1 h2 h3 h4 h5 hs hf hn hy
  · exact above_ok (by omega) h1 h2 h3 h4 h5 hs hf hn hy
theorem cond_lab {c:S114} {s y n:ByteArray} : ∀ z ∈ cLines c.f0 c.f1.f0 c.f1.f1 c.f2 c.f3.f0 c.f3.f1 s y n,z.f1.f0=0→z.f0=s ++ (⟨#[97]⟩ :ByteArray)∨z.f0=s ++ (⟨#[98]⟩ :ByteArray):=by
  have hS: ∀ (A B C E F:Int) (y n:ByteArray),∀ z ∈ (cSame A B C E F s y n:List S104),z.f1.f0=0→z.f0=s ++ (⟨#[97]⟩ :ByteArray)∨z.f0=s ++ (⟨#[98]⟩ :ByteArray):=by
    intro A B C E F y n z hz h0
    simp only[cSame,List.mem_cons,List.not_mem_nil,or_false]at hz
    rcases hz with rfl|rfl|rfl|rfl|rfl|rfl|rfl
    all_goals first|exact .inl rfl|exact absurd h0 (by simp[lw,la])
  have hA: ∀ (A B C E F o:Int) (y n:ByteArray),3≤o→∀ z ∈ (cAbove A B C E F o s y n:List S104),z.f1.f0=0→z.f0=s ++ (⟨#[97]⟩ :ByteArray)∨z.f0=s ++ (⟨#[98]⟩ :ByteArray):=by
    intro A B C E F o y n ho z hz h0
    simp only[cAbove,List.mem_cons,List.not_mem_nil,or_false]at hz
    rcases hz with rfl|rfl|rfl|rfl|rfl|rfl|rfl|rfl|rfl
    all_goals first|exact .inl rfl|exact .inr rfl|exact absurd (show o=0 from h0) (by omega)|exact absurd h0 (by simp[lw,la])
  unfold cLines
  repeat' split
  · exact hS _ _ _ _ _ _ _
  · exact hS _ _ _ _ _ _ _
  · exact hA _ _ _ _ _ _ _ _ (by omega)
  · exact hA _ _ _ _ _ _ _ _ (by omega)
  · exact hA _ _ _ _ _ _ _ _ (by omega)
  · exact hA _ _ _ _ _ _ _ _ (by omega)
  · intro z hz
    simp at hz
/-- No place's name is one of those to come. -/
def FreJ (pr:List S104) (s:ByteArray) (j:Nat):Prop:= ∀ z ∈ pr,z.f1.f0=0→∀ m,j≤m→m<10→ ¬ ((s ++ tN m).toList <+:z.f0.toList)∧z.f0.toList≠((s ++ (⟨#[110]⟩ :ByteArray)) ++ tN m).toList
theorem Fre.j {pr:List S104} {s:ByteArray} (h:Fre pr s) (j:Nat):FreJ pr s j:=fun z hz h0 m _ _=>⟨fun hp=>h z hz h0 (by rw[tl_app]at hp;exact(List.prefix_append _ _).trans hp),fun e=>h z hz h0 (by rw[e,tl_app,tl_app,List.append_assoc];exact List.prefix_append _ _)⟩
theorem rule_ok {s n:ByteArray} (hs:s.size+2≤12) {post:List S104} (hn:To post n): ∀ (l:List S114) (j:Nat) (pr:List S104),(∀ c ∈ l,CR c)→j+l.length≤10→FreJ pr s j→Ok pr (rlF s n l j) post
  | [],_,_,_,_,_=>trivial
  | c :: l,j,pr,hl,hj,hf=>by
    have hj1:j<10:=by simp at hj;omega
    have t1:(tN j).size=1:=rfl
    have z1:(s ++ tN j).size=s.size+1:=by rw[ByteArray.size_append,t1]
    have z2:((s ++ (⟨#[110]⟩ :ByteArray)) ++ tN j).size=s.size+2:=by rw[ByteArray.size_append,ByteArray.size_append,t1];rfl
    have lab:=cond_lab (c:=c) (s:=s ++ tN j) (y:=(s ++ (⟨#[110]⟩ :ByteArray)) ++ tN j) (n:=n)
    have hlab: ∀ z ∈ cLines c.f0 c.f1.f0 c.f1.f1 c.f2 c.f3.f0 c.f3.f1 (s ++ tN j) ((s ++ (⟨#[110]⟩ :ByteArray)) ++ tN j) n,z.f1.f0=0→∃ u,z.f0.toList=s.toList ++ [UInt8.ofNat (48+j),u]:=fun z hz h0=>by
      rcases lab z hz h0 with e|e
      · exact⟨97,by rw[e,tl_app,tl_app,tl1,tN_tl j hj1,List.append_assoc];rfl⟩
      · exact⟨98,by rw[e,tl_app,tl_app,tl1,tN_tl j hj1,List.append_assoc];rfl⟩
    simp only[rlF]
    refine Ok.app (cond_ok (hl c List.mem_cons_self) (by omega) (fun z hz h0=>(hf z hz h0 j (Nat.le_refl _) hj1).1) (.here (by simp)) (hn.mono fun z hz=>List.mem_append_right _ hz)) ⟨gd_lp (by omega) fun z hz h0=>?_,rule_ok hs hn l (j+1) _ (fun x hx=>hl x (List.mem_cons_of_mem _ hx)) (by simp at hj;omega) fun z hz h0 m hm hm10=>?_⟩
    · rcases List.mem_append.1 hz with hz|hz
      · exact(hf z hz h0 j (Nat.le_refl _) hj1).2
      · obtain⟨u,e⟩:=hlab z hz h0
        rw[e,tl_app,tl_app,tl1,List.append_assoc]
        intro e2
        have e3:=List.append_cancel_left e2
        simp only[List.cons_append,List.nil_append,List.cons.injEq]at e3
        exact dig_ne j hj1 e3.1
    · rcases List.mem_append.1 hz with hz|hz
      · rcases List.mem_append.1 hz with hz|hz
        · exact hf z hz h0 m (by omega) hm10
        · obtain⟨u,e⟩:=hlab z hz h0
          rw[e,tl_app,tl_app,tl_app,tl1,tN_tl m hm10,List.append_assoc]
          refine⟨fun hp=>?_,fun e2=>?_⟩
          · rw[List.prefix_append_right_inj]at hp
            obtain⟨r,hr⟩:=hp
            simp only[List.cons_append,List.nil_append,List.cons.injEq]at hr
            have:=dig_inj m hm10 j hj1 hr.1
            omega
          · have e3:=List.append_cancel_left e2
            simp only[List.cons_append,List.nil_append,List.cons.injEq]at e3
            exact dig_ne j hj1 e3.1
      · rw[List.mem_singleton]at hz
        subst hz
        show ¬ ((s ++ tN m).toList <+:((s ++ (⟨#[110]⟩ :ByteArray)) ++ tN j).toList)∧((s ++ (⟨#[110]⟩ :ByteArray)) ++ tN j).toList≠((s ++ (⟨#[110]⟩ :ByteArray)) ++ tN m).toList
        simp only[tl_app,tl1,tN_tl m hm10,tN_tl j hj1,List.append_assoc]
        refine⟨fun hp=>?_,fun e2=>?_⟩
        · rw[List.prefix_append_right_inj]at hp
          obtain⟨r,hr⟩:=hp
          simp only[List.cons_append,List.nil_append,List.cons.injEq]at hr
          exact dig_ne m hm10 hr.1
        · have e3:=List.append_cancel_left e2
          simp only[List.cons_append,List.nil_append,List.cons.injEq]at e3
          have:=dig_inj j hj1 m hm10 e3.2.1
          omega
/-- All names of a rule's places begin with its own. -/
theorem rule_lab {s n:ByteArray} : ∀ (l:List S114) (j:Nat),∀ z ∈ rlF s n l j,z.f1.f0=0→s.toList <+:z.f0.toList
  | [],_,z,hz,_=>by simp[rlF]at hz
  | c :: l,j,z,hz,h0=>by
    simp only[rlF,List.mem_append,List.mem_cons]at hz
    rcases hz with hz|hz|hz
    · rcases cond_lab z hz h0 with e|e
      · rw[e,tl_app,tl_app,List.append_assoc];exact List.prefix_append _ _
      · rw[e,tl_app,tl_app,List.append_assoc];exact List.prefix_append _ _
    · subst hz
      show s.toList <+:((s ++ (⟨#[110]⟩ :ByteArray)) ++ tN j).toList
      rw[tl_app,tl_app,List.append_assoc];exact List.prefix_append _ _
    · exact rule_lab l (j+1) z hz h0
theorem iRL {L:List S104} (hn:L.length≤600) (h:Ok [] L []):RL L:=⟨hn,(all_iff L (by omega)).2 (iAll_of h),iAll_of h⟩
theorem ruleT (x:List Int) (l:List S114) (a b:Int) (h:RuleR x l a b):Evt (fun k=>impl_ruleOk.f k x l a b) true:=by
  obtain⟨⟨hx1,hx2⟩,hl,hx4,hl3,ha,hb⟩:=h
  have one: ∀ (d i:Nat),i+d=l.length→Evt (fun k=>impl_ruleOk.l1 k l (l.length:Int) (i:Int) x l a b) true:=by
    intro d
    induction d with
    | zero=>
      intro i hi
      refine .succ (.const fun k=>?_)
      simp only[impl_ruleOk.l1]
      rw[if_neg (by omega),if_pos (by omega),if_pos (by omega)]
      simp only[impl_actionOk.f,inI,Option.bind_some]
      rw[decide_eq_true ha,if_pos rfl,decide_eq_true hb]
      rfl
    | succ d ih=>
      intro i hi
      have hlt:i<l.length:=by omega
      have hc:=hl l[i] (List.getElem_mem hlt)
      unfold CondR at hc
      obtain⟨K,hK⟩:=ih (i+1) (by omega)
      refine .succ ⟨K,fun k hk=>?_⟩
      have q:=hK k hk
      simp only[impl_ruleOk.l1]
      rw[if_pos (by omega),if_pos (by omega),if_pos (by omega),nrd_T114 l i hlt,condI,wsucc hlt (by omega)]
      simp only[Option.bind_some,decide_eq_true_eq]
      rw[if_pos hc]
      exact q
  have two: ∀ (d i:Nat),i+d=x.length→Evt (fun k=>impl_ruleOk.l0 k x (x.length:Int) (i:Int) x l a b) true:=by
    intro d
    induction d with
    | zero=>
      intro i hi
      obtain⟨K,hK⟩:=one l.length 0 (by omega)
      refine .succ ⟨K,fun k hk=>?_⟩
      have q:=hK k hk
      simp only[impl_ruleOk.l0]
      rw[if_neg (by omega)]
      exact q
    | succ d ih=>
      intro i hi
      have hlt:i<x.length:=by omega
      obtain⟨K,hK⟩:=ih (i+1) (by omega)
      have hc:=hx1 i hlt
      refine .succ ⟨K,fun k hk=>?_⟩
      have q:=hK k hk
      simp only[impl_ruleOk.l0]
      rw[if_pos (by omega),if_pos (by omega),if_pos (by omega),nrd x i hlt,halfI,wsucc hlt (by omega)]
      simp only[Option.bind_some]
      rw[decide_eq_true hc,if_pos rfl]
      by_cases h0:(i:Int)>0
      · obtain⟨j,rfl⟩ : ∃ j,i=j+1:=⟨i - 1,by omega⟩
        have ew:wrap64 (((j+1:Nat):Int) - 1)=(j:Int):=by rw[w64 (by omega) (by omega)];omega
        have hj:=hx2 j hlt
        rw[if_pos h0,ew,if_pos (by omega),if_pos (by omega),nrd x j (by omega),if_neg (by omega)]
        exact q
      · rw[if_neg h0]
        exact q
  exact two x.length 0 (by omega)
theorem polT (a b c:Int) (l:List S81) (ha:0≤a∧a≤4294967295) (hb:0≤b∧b≤5) (hc:0≤c∧c≤65535) (hl:l.length≤10) (hr: ∀ y ∈ l,RuleR y.f0 y.f1 y.f2 y.f3):Evt (fun k=>impl_PolicyOk.f k a b c l) true:=by
  have key: ∀ (d i:Nat),i+d=l.length→Evt (fun k=>impl_PolicyOk.l0 k l (l.length:Int) (i:Int) a b c l) true:=by
    intro d
    induction d with
    | zero=>
      intro i hi
      refine .succ (.const fun k=>?_)
      simp only[impl_PolicyOk.l0]
      rw[if_neg (by omega)]
      simp only[impl_actionOk.f,inI,halfI,Option.bind_some]
      rw[decide_eq_true ha,if_pos rfl,decide_eq_true hb,if_pos rfl,decide_eq_true hc]
      simp only[Option.bind_some,if_true,decide_eq_true (show(l.length:Int)≤10 by omega)]
    | succ d ih=>
      intro i hi
      have hlt:i<l.length:=by omega
      obtain⟨K1,h1⟩:=ruleT l[i].f0 l[i].f1 l[i].f2 l[i].f3 (hr l[i] (List.getElem_mem hlt))
      obtain⟨K,hK⟩:=ih (i+1) (by omega)
      refine .succ ⟨K+K1,fun k hk=>?_⟩
      have q:=hK k (by omega)
      have q1:=h1 k (by omega)
      dsimp only at q q1
      simp only[impl_PolicyOk.l0]
      rw[if_pos (by omega),if_pos (by omega),if_pos (by omega),nrd_T81 l i hlt,wsucc hlt (by omega),q1]
      simp only[Option.bind_some,if_true]
      exact q
  exact key l.length 0 (by omega)
/-- What ResultOf tells. -/
def resV (a b:Int):Int:=(spec_ResultOf.f a b).getD 0
theorem resV_eq (a b:Int):spec_ResultOf.f a b=some (resV a b):=by
  obtain⟨v,hv⟩:=res a b
  rw[resV,hv]
  rfl
/-- The name that a rule of a chain bears. -/
def cN (s:ByteArray) (i:Nat):ByteArray:=s ++ strOfNums [(wrap64 (97+(i:Int))) % 256]
theorem cN_size (s:ByteArray) (i:Nat):(cN s i).size=s.size+1:=by
  have z1:(strOfNums [(wrap64 (97+(i:Int))) % 256]).size=1:=rfl
  rw[cN,ByteArray.size_append,z1]
def cZ (s:ByteArray) (i:Nat):ByteArray:=cN s i ++ (⟨#[122]⟩ :ByteArray)
/-- A rule stands in a chain: of a number, or of all that are named nowhere. -/
def inC (n:Int) (t:Bool) (y:S81):Bool:=decide (y.f0.length=0) || (!t && decide (n ∈ y.f0))
/-- The lines of a rule in a chain. -/
def crF (s:ByteArray) (y:S81) (i:Nat):List S104:=rlF (cN s i) (cZ s i) y.f1 0 ++ (lw 8 (resV y.f2 y.f3) :: [lp (cZ s i)])
def clF (n:Int) (t:Bool) (s:ByteArray):List S81→Nat→List S104
  | [],_=>[]
  | y :: l,i=>(if inC n t y=true then crF s y i else []) ++ clF n t s l (i+1)
theorem crF_len (s:ByteArray) (y:S81) (i:Nat):(crF s y i).length≤10*y.f1.length+2:=by
  have:=rlF_len (cN s i) (cZ s i) y.f1 0
  simp only[crF,List.length_append,List.length_cons,List.length_nil]
  omega
theorem clF_len (n:Int) (t:Bool) (s:ByteArray): ∀ (l:List S81) (i:Nat),(∀ y ∈ l,y.f1.length≤9)→(clF n t s l i).length≤92*l.length
  | [],_,_=>by simp[clF]
  | y :: l,i,h=>by
    have h1:=clF_len n t s l (i+1) (fun z hz=>h z (List.mem_cons_of_mem _ hz))
    have h2:=crF_len s y i
    have h3:=h y List.mem_cons_self
    simp only[clF,List.length_append,List.length_cons]
    split
    · omega
    · simp only[List.length_nil];omega
/-- A chain is these lines. -/
theorem chain_eq (a b c n:Int) (R:List S81) (t:Bool) (s:ByteArray) (hR:R.length≤26) (hb: ∀ y ∈ R,y.f0.length≤1048576∧y.f1.length≤9) (hs:s.size≤1000000000):Evt (fun k=>impl_ChainLines.f k a b c R n t s) (clF n t s R 0 ++ [lw 8 (resV b c)]):=by
  have key:=down (T:=fun i=> ∀ o:List S104,o.length≤92*i→Evt (fun k=>impl_ChainLines.l0 k n t s o R (R.length:Int) (i:Int) a b c R) (o ++ (clF n t s (R.drop i) i ++ [lw 8 (resV b c)]))) (n:=R.length) ?_ ?_ R.length 0 (by omega) [] (by simp)
  · exact key
  · intro o ho
    refine .succ (.const fun k=>?_)
    simp only[impl_ChainLines.l0,impl_word.f,resI,resV_eq,Option.bind_some]
    rw[if_neg (by omega),if_pos (by omega),List.drop_length]
    rfl
  · intro i hi ih o ho
    obtain⟨b0,b1⟩:=hb R[i] (List.getElem_mem hi)
    have z1:(strOfNums [(wrap64 (97+(i:Int))) % 256]).size=1:=rfl
    have z2:(s ++ strOfNums [(wrap64 (97+(i:Int))) % 256]).size=s.size+1:=by rw[ByteArray.size_append,z1]
    rw[List.drop_eq_getElem_cons hi]
    simp only[clF]
    have hin: ∀ q:Int,Evt (fun k=>spec_l09In.f k R[i].f0 n) (decide (q≥0))→decide (q≥0)=decide (n ∈ R[i].f0):=fun q h=>h.uniq (inNums R[i].f0 n (by omega))
    obtain⟨q,hq1,K6,n2⟩:=nums_in R[i].f0 n (by omega)
    have hq:=hin q hq1
    clear hin hq1
    have no:inC n t R[i]=false→Evt (fun k=>impl_ChainLines.j1 k n t s o (i:Int) R (R.length:Int) (i:Int) true a b c R R[i].f0 R[i].f1 R[i].f2 R[i].f3) (o ++ ((if inC n t R[i]=true then crF s R[i] i else []) ++ clF n t s (R.drop (i+1)) (i+1) ++ [lw 8 (resV b c)])):=fun h=>by
      obtain⟨K,g⟩:=ih o (by omega)
      refine .succ ⟨K,fun k hk=>?_⟩
      simp only[impl_ChainLines.j1,if_true]
      rw[wsucc hi (by omega),if_neg (by rw[h];decide),List.nil_append]
      exact g k hk
    have yes:inC n t R[i]=true→Evt (fun k=>impl_ChainLines.j1 k n t s o (i:Int) R (R.length:Int) (i:Int) false a b c R R[i].f0 R[i].f1 R[i].f2 R[i].f3) (o ++ ((if inC n t R[i]=true then crF s R[i] i else []) ++ clF n t s (R.drop (i+1)) (i+1) ++ [lw 8 (resV b c)])):=fun h=>by
      have hl:=rlF_len (cN s i) (cZ s i) R[i].f1 0
      obtain⟨K1,h1⟩:=rl_eq R[i].f0 R[i].f1 R[i].f2 R[i].f3 (cN s i) (cZ s i) b1 (by rw[cN_size];omega) (resV_eq R[i].f2 R[i].f3)
      obtain⟨K,g⟩:=ih (o ++ crF s R[i] i) (by rw[List.length_append];have:=crF_len s R[i] i;omega)
      dsimp only at h1 g
      refine .succ ⟨K+K1,fun k hk=>?_⟩
      simp only[impl_ChainLines.j1,Option.bind_some,Bool.false_eq_true,if_false]
      rw[if_pos (by omega),if_pos (by omega)]
      have q:=h1 k (by omega)
      unfold cZ cN at q
      rw[q]
      simp only[Option.bind_some,impl_place.f]
      have hl':(rlF (s ++ strOfNums [(wrap64 (97+(i:Int))) % 256]) (s ++ strOfNums [(wrap64 (97+(i:Int))) % 256] ++ (⟨#[122]⟩ :ByteArray)) R[i].f1 0).length≤10*R[i].f1.length:=hl
      rw[if_pos (by rw[List.length_append,List.length_singleton];omega),if_pos (by rw[List.length_append,List.length_append,List.length_singleton];omega),wsucc hi (by omega),if_pos h]
      have g1:=g k (by omega)
      have e:((o ++ (rlF (s ++ strOfNums [(wrap64 (97+(i:Int))) % 256]) (s ++ strOfNums [(wrap64 (97+(i:Int))) % 256] ++ (⟨#[122]⟩ :ByteArray)) R[i].f1 0 ++ [lw 8 (resV R[i].f2 R[i].f3)])) ++ [(⟨s ++ strOfNums [(wrap64 (97+(i:Int))) % 256] ++ (⟨#[122]⟩ :ByteArray),⟨0,0,0,0⟩,⟨#[]⟩,⟨#[]⟩⟩ :S104)])=o ++ crF s R[i] i:=by simp[crF,cZ,cN,lp]
      rw[e]
      refine g1.trans ?_
      simp
    by_cases h0:(R[i].f0.length:Int)>0
    · cases t with
      | true=>
        obtain⟨K,g⟩:=no (by rw[inC,decide_eq_false (show ¬ R[i].f0.length=0 by omega)];rfl)
        refine .succ ⟨K,fun k hk=>?_⟩
        simp only[impl_ChainLines.l0]
        rw[if_pos (by omega),if_pos (by omega),if_pos (by omega),if_neg (by omega),nrd_T81 R i hi,if_pos h0]
        simp only[if_true]
        exact g k hk
      | false=>
        by_cases hm:n ∈ R[i].f0
        · obtain⟨K,g⟩:=yes (by simp[inC,hm])
          rw[decide_eq_true hm]at hq
          refine .succ ⟨K+K6,fun k hk=>?_⟩
          simp only[impl_ChainLines.l0]
          rw[if_pos (by omega),if_pos (by omega),if_pos (by omega),if_neg (by omega),nrd_T81 R i hi,if_pos h0,if_neg (by simp)]
          simp only[slices_Contains_int_int.f,n2 k (by omega),Option.bind_some,hq,Bool.not_true]
          exact g k (by omega)
        · obtain⟨K,g⟩:=no (by rw[inC,decide_eq_false (show ¬ R[i].f0.length=0 by omega),decide_eq_false hm];rfl)
          rw[decide_eq_false hm]at hq
          refine .succ ⟨K+K6,fun k hk=>?_⟩
          simp only[impl_ChainLines.l0]
          rw[if_pos (by omega),if_pos (by omega),if_pos (by omega),if_neg (by omega),nrd_T81 R i hi,if_pos h0,if_neg (by simp)]
          simp only[slices_Contains_int_int.f,n2 k (by omega),Option.bind_some,hq,Bool.not_false]
          exact g k (by omega)
    · obtain⟨K,g⟩:=yes (by rw[inC,decide_eq_true (show R[i].f0.length=0 by omega)];rfl)
      refine .succ ⟨K,fun k hk=>?_⟩
      simp only[impl_ChainLines.l0]
      rw[if_pos (by omega),if_pos (by omega),if_pos (by omega),if_neg (by omega),nrd_T81 R i hi,if_neg h0]
      exact g k hk
/-- The lines of a chain with its end. -/
def chF (b c:Int) (R:List S81) (n:Int) (t:Bool) (s:ByteArray):List S104:=clF n t s R 0 ++ [lw 8 (resV b c)]
/-- The lines of a tree over numbers. -/
def tlF (b c:Int) (R:List S81):Nat→List Int→ByteArray→List S104
  | 0,_,s=>chF b c R 0 true s
  | m+1,l,s=>
    if l.length=0 then chF b c R 0 true s
    else if l.length=1 then(([la 3 (rd l 0) (s ++ (⟨#[121]⟩ :ByteArray)) (s ++ (⟨#[120]⟩ :ByteArray)),lp (s ++ (⟨#[121]⟩ :ByteArray))] ++ chF b c R (rd l 0) false (s ++ (⟨#[121]⟩ :ByteArray))) ++ [lp (s ++ (⟨#[120]⟩ :ByteArray))]) ++ chF b c R 0 true (s ++ (⟨#[120]⟩ :ByteArray))
    else(([la 5 (rd l ((l.length / 2:Nat):Int)) (s ++ (⟨#[104]⟩ :ByteArray)) (s ++ (⟨#[108]⟩ :ByteArray)),lp (s ++ (⟨#[108]⟩ :ByteArray))] ++ tlF b c R m (l.take (l.length / 2)) (s ++ (⟨#[108]⟩ :ByteArray))) ++ [lp (s ++ (⟨#[104]⟩ :ByteArray))]) ++ tlF b c R m (l.drop (l.length / 2)) (s ++ (⟨#[104]⟩ :ByteArray))
section
variable (a b c:Int) (R:List S81) (hR:R.length≤10) (hb: ∀ y ∈ R,y.f0.length≤1048576∧y.f1.length≤9)
include hR hb
theorem chF_len (n:Int) (t:Bool) (s:ByteArray):(chF b c R n t s).length≤921:=by
  have:=clF_len n t s R 0 (fun y hy=>(hb y hy).2)
  simp only[chF,List.length_append,List.length_singleton]
  omega
theorem tlF_len: ∀ (m:Nat) (l:List Int) (s:ByteArray),l.length≤m→(tlF b c R m l s).length+3≤1848*l.length∨l.length=0∧(tlF b c R m l s).length≤921
  | 0,l,s,h=> .inr ⟨by omega,by rw[tlF];exact chF_len b c R hR hb 0 true s⟩
  | m+1,l,s,h=>by
    rw[tlF]
    split
    · exact .inr ⟨by omega,chF_len b c R hR hb 0 true s⟩
    · split
      · have h1:=chF_len b c R hR hb (rd l 0) false (s ++ (⟨#[121]⟩ :ByteArray))
        have h2:=chF_len b c R hR hb 0 true (s ++ (⟨#[120]⟩ :ByteArray))
        refine .inl ?_
        simp only[List.length_append,List.length_cons,List.length_nil]
        omega
      · have hp:(l.take (l.length / 2)).length=l.length / 2:=by rw[List.length_take];omega
        have hq:(l.drop (l.length / 2)).length=l.length - l.length / 2:=List.length_drop
        have h1:=tlF_len m (l.take (l.length / 2)) (s ++ (⟨#[108]⟩ :ByteArray)) (by omega)
        have h2:=tlF_len m (l.drop (l.length / 2)) (s ++ (⟨#[104]⟩ :ByteArray)) (by omega)
        refine .inl ?_
        simp only[List.length_append,List.length_cons,List.length_nil]
        omega
theorem tree_eq: ∀ (m:Nat) (l:List Int) (s:ByteArray),l.length≤m→l.length≤1000000→s.size+l.length≤900000000→Evt (fun k=>impl_TreeLines.f k a b c R l s) (tlF b c R m l s):=by
  intro m
  have cE:=fun n t s hs=>chain_eq a b c n R t s (by omega) hb hs
  have cL:=chF_len b c R hR hb
  have tL:=tlF_len b c R hR hb
  induction m with
  | zero=>
    intro l s hl _ hs
    obtain⟨K,h⟩:=cE 0 true s (by omega)
    refine .succ ⟨K,fun k hk=>?_⟩
    have q:=h k hk
    dsimp only at q
    dsimp only
    rw[impl_TreeLines.f,if_pos (by omega),q]
    rfl
  | succ m ih=>
    intro l s hl hm hs
    by_cases h0:l.length=0
    · obtain⟨K,h⟩:=cE 0 true s (by omega)
      refine .succ ⟨K,fun k hk=>?_⟩
      have q:=h k hk
      dsimp only at q
      dsimp only
      rw[impl_TreeLines.f,if_pos (by omega),q,tlF,if_pos h0]
      rfl
    by_cases h1:l.length=1
    · have zy:(s ++ (⟨#[121]⟩ :ByteArray)).size=s.size+1:=by rw[ByteArray.size_append];rfl
      have zx:(s ++ (⟨#[120]⟩ :ByteArray)).size=s.size+1:=by rw[ByteArray.size_append];rfl
      have l1:=cL (rd l 0) false (s ++ (⟨#[121]⟩ :ByteArray))
      have l2:=cL 0 true (s ++ (⟨#[120]⟩ :ByteArray))
      obtain⟨K1,g1⟩ :Evt _ (chF b c R (rd l 0) false (s ++ (⟨#[121]⟩ :ByteArray))):=cE (rd l 0) false (s ++ (⟨#[121]⟩ :ByteArray)) (by omega)
      obtain⟨K2,g2⟩ :Evt _ (chF b c R 0 true (s ++ (⟨#[120]⟩ :ByteArray))):=cE 0 true (s ++ (⟨#[120]⟩ :ByteArray)) (by omega)
      dsimp only at g1 g2
      rw[tlF,if_neg h0,if_pos h1]
      generalize chF b c R (rd l 0) false (s ++ (⟨#[121]⟩ :ByteArray))=O1 at g1 l1 ⊢
      generalize chF b c R 0 true (s ++ (⟨#[120]⟩ :ByteArray))=O2 at g2 l2 ⊢
      clear ih cE cL tL
      refine .succ ⟨K1+K2,fun k hk=>?_⟩
      as_aux_lemma=>
        dsimp only
        rw[impl_TreeLines.f,if_neg (by omega),if_pos (by omega),if_pos (by omega),if_pos (by omega)]
        simp only[impl_ask.f,impl_place.f,Option.bind_some]
        rw[g1 k (by omega)]
        simp only[Option.bind_some]
        rw[if_pos (by simp only[List.length_cons,List.length_nil];omega),if_pos (by simp only[List.length_append,List.length_cons,List.length_nil];omega),g2 k (by omega)]
        simp only[Option.bind_some]
        rw[if_pos (by simp only[List.length_append,List.length_cons,List.length_nil];omega)]
        rfl
    · have zl:(s ++ (⟨#[108]⟩ :ByteArray)).size=s.size+1:=by rw[ByteArray.size_append];rfl
      have zh:(s ++ (⟨#[104]⟩ :ByteArray)).size=s.size+1:=by rw[ByteArray.size_append];rfl
      have e1:Aside0 (wrap64 ((l.length:Int) / 2)=((l.length / 2:Nat):Int)):=⟨by rw[w64 (by omega) (by omega)];omega⟩
      have hp:(l.take (l.length / 2)).length=l.length / 2:=by rw[List.length_take];omega
      have hq:(l.drop (l.length / 2)).length=l.length - l.length / 2:=List.length_drop
      have l1:=tL m (l.take (l.length / 2)) (s ++ (⟨#[108]⟩ :ByteArray)) (by omega)
      have l2:=tL m (l.drop (l.length / 2)) (s ++ (⟨#[104]⟩ :ByteArray)) (by omega)
      obtain⟨K1,g1⟩:=ih (l.take (l.length / 2)) (s ++ (⟨#[108]⟩ :ByteArray)) (by omega) (by omega) (by omega)
      obtain⟨K2,g2⟩:=ih (l.drop (l.length / 2)) (s ++ (⟨#[104]⟩ :ByteArray)) (by omega) (by omega) (by omega)
      dsimp only at g1 g2
      rw[tlF,if_neg h0,if_neg h1]
      generalize tlF b c R m (l.take (l.length / 2)) (s ++ (⟨#[108]⟩ :ByteArray))=O1 at g1 l1 ⊢
      generalize tlF b c R m (l.drop (l.length / 2)) (s ++ (⟨#[104]⟩ :ByteArray))=O2 at g2 l2 ⊢
      rw[hp]at l1
      rw[hq]at l2
      clear ih cE cL tL
      have b1:O1.length≤1848000000:=by omega
      have b2:O2.length≤1848000000:=by omega
      clear l1 l2
      refine .succ ⟨K1+K2,fun k hk=>?_⟩
      as_aux_lemma=>
        dsimp only
        rw[impl_TreeLines.f]
        simp only[impl_ask.f,impl_place.f,Option.bind_some,e1.out,Int.toNat_natCast]
        rw[if_neg (by omega),if_neg (by omega),if_pos (by omega),if_pos (by omega),if_pos (by omega),if_pos (by omega),g1 k (by omega)]
        simp only[Option.bind_some]
        rw[if_pos (by simp only[List.length_cons,List.length_nil];omega),if_pos (by simp only[List.length_append,List.length_cons,List.length_nil];omega),g2 k (by omega)]
        simp only[Option.bind_some]
        rw[if_pos (by simp only[List.length_append,List.length_cons,List.length_nil];omega)]
        rfl
/-- The lines of a policy. -/
theorem pol_eq (N:List Int) (hN:N.length≤1000000) (h:Evt (fun k=>impl_NumsOf.f k a b c R) N):Evt (fun k=>impl_PolicyLines.f k a b c R) ([lw 1 1,la 3 a (⟨#[112]⟩ :ByteArray) (⟨#[113]⟩ :ByteArray),lp (⟨#[113]⟩ :ByteArray),lw 8 0,lp (⟨#[112]⟩ :ByteArray),lw 1 0] ++ tlF b c R N.length N (⟨#[116]⟩ :ByteArray)):=by
  obtain⟨K1,h1⟩:=h
  obtain⟨K2,h2⟩:=tree_eq a b c R hR hb N.length N (⟨#[116]⟩ :ByteArray) (Nat.le_refl _) hN (by show 1+N.length≤_;omega)
  have hl:=tlF_len b c R hR hb N.length N (⟨#[116]⟩ :ByteArray) (Nat.le_refl _)
  dsimp only at h1 h2
  refine⟨K1+K2,fun k hk=>?_⟩
  dsimp only
  rw[impl_PolicyLines.f]
  simp only[impl_word.f,impl_ask.f,impl_place.f,Option.bind_some,h1 k (by omega),h2 k (by omega)]
  rw[if_pos (by simp only[List.length_cons,List.length_nil];omega)]
  rfl
end
/-! What the lines do. -/
/-- What the first rule of a chain that holds tells. -/
def decC (n:Int) (t:Bool) (w:List S93) (d:Int):List S81→Int
  | []=>d
  | y :: l=>if inC n t y=true∧y.f1.all (fun c=>cH c w)=true then resV y.f2 y.f3 else decC n t w d l
theorem chain_run {L:List S104} (hR:RL L) {a b:Int} {w:List S93} (hc:CallR a b w) {n d:Int} {t:Bool} {s:ByteArray} : ∀ (l:List S81) (j i:Nat),(∀ y ∈ l,∀ c ∈ y.f1,CR c)→Fr L i (clF n t s l j ++ [lw 8 d])→∀ g,Ends L a b w i g (decC n t w d l)
  | [],j,i,_,hF,g=>by
    obtain⟨h1,h2⟩:=hF.get 0 (by simp[clF])
    exact e_ret d h1 h2
  | y :: l,j,i,hl,hF,g=>by
    have hl2: ∀ y ∈ l,∀ c ∈ y.f1,CR c:=fun z hz=>hl z (List.mem_cons_of_mem _ hz)
    simp only[clF]at hF
    simp only[decC]
    by_cases h:inC n t y=true
    · rw[if_pos h]at hF
      simp only[crF,List.append_assoc,List.cons_append,List.nil_append]at hF
      have hF1:Fr L i (rlF (cN s j) (cZ s j) y.f1 0 ++ [lw 8 (resV y.f2 y.f3)]):=by
        have:rlF (cN s j) (cZ s j) y.f1 0 ++ lw 8 (resV y.f2 y.f3) :: lp (cZ s j) :: (clF n t s l (j+1) ++ [lw 8 d])=(rlF (cN s j) (cZ s j) y.f1 0 ++ [lw 8 (resV y.f2 y.f3)]) ++ (lp (cZ s j) :: (clF n t s l (j+1) ++ [lw 8 d])):=by simp
        rw[this]at hF
        exact hF.left
      have hF2:=hF.right.tail
      obtain⟨p1,p2⟩:=hF2.get 0 (by simp)
      have hq:At L (i+(rlF (cN s j) (cZ s j) y.f1 0).length) (i+(rlF (cN s j) (cZ s j) y.f1 0).length+1) (cZ s j):=⟨by omega,p1,p2⟩
      have:=rule_run hR hc (vq:=decC n t w d l) y.f1 0 i (hl y List.mem_cons_self) hF1 _ hq (fun g=>e_place _ p1 p2 (chain_run hR hc l (j+1) _ hl2 hF2.tail g)) g
      by_cases ha:y.f1.all (fun c=>cH c w)=true
      · rw[if_pos ha]at this
        rw[if_pos ⟨h,ha⟩]
        exact this
      · rw[if_neg ha]at this
        rw[if_neg (fun e=>ha e.2)]
        exact this
    · rw[if_neg h,List.nil_append]at hF
      rw[if_neg (fun e=>h e.1)]
      exact chain_run hR hc l (j+1) i hl2 hF g
/-- A number that no rule names is decided as all that are named nowhere. -/
theorem decC_any {n m:Int} {w:List S93} {d:Int} : ∀ l:List S81,(∀ y ∈ l,n ∉ y.f0)→decC m true w d l=decC n false w d l
  | [],_=>rfl
  | y :: l,h=>by
    have h1:=decC_any (n:=n) (m:=m) (w:=w) (d:=d) l (fun z hz=>h z (List.mem_cons_of_mem _ hz))
    have h2:inC m true y=inC n false y:=by simp[inC,h y List.mem_cons_self]
    simp only[decC,h1,h2]
theorem tree_run {L:List S104} (hR:RL L) {a b:Int} {w:List S93} (hc:CallR a b w) {d e:Int} {R:List S81} (hl: ∀ y ∈ R,∀ c ∈ y.f1,CR c): ∀ (m:Nat) (l:List Int) (s:ByteArray) (i:Nat),l.length≤m→l.Pairwise (· < ·)→Fr L i (tlF d e R m l s)→Ends L a b w i b (if b ∈ l then decC b false w (resV d e) R else decC 0 true w (resV d e) R):=by
  intro m
  induction m with
  | zero=>
    intro l s i h0 _ hF
    have:l= []:=List.length_eq_zero_iff.1 (by omega)
    subst this
    rw[if_neg (by simp)]
    exact chain_run hR hc R 0 i hl hF b
  | succ m ih=>
    intro l s i hm hs hF
    rw[tlF]at hF
    by_cases h0:l.length=0
    · rw[if_pos h0]at hF
      have:l= []:=List.length_eq_zero_iff.1 (by omega)
      subst this
      rw[if_neg (by simp)]
      exact chain_run hR hc R 0 i hl hF b
    rw[if_neg h0]at hF
    by_cases h1:l.length=1
    · rw[if_pos h1]at hF
      obtain⟨v,rfl⟩ : ∃ v,l= [v]:=List.length_eq_one_iff.1 h1
      have ev:rd [v] 0=v:=rfl
      rw[ev]at hF
      simp only[List.append_assoc,List.cons_append,List.nil_append]at hF
      obtain⟨k0,x0⟩:=hF.get 0 (by simp)
      obtain⟨k1,x1⟩:=hF.get 1 (by simp)
      have hF1:=hF.tail.tail.left
      have hF2:=hF.tail.tail.right
      obtain⟨k2,x2⟩:=hF2.get 0 (by simp)
      by_cases hv:b=v
      · subst hv
        refine e_ask hR 3 b (s ++ (⟨#[121]⟩ :ByteArray)) (s ++ (⟨#[120]⟩ :ByteArray)) k0 x0 (by omega) true (by simp[spec_l07Asks.f]) (i+1) (by omega) k1 (by rw[if_pos rfl];exact x1) ?_
        refine e_place _ k1 x1 ?_
        rw[if_pos (by simp)]
        exact chain_run hR hc R 0 (i+1+1) hl hF1 b
      · refine e_ask hR 3 v (s ++ (⟨#[121]⟩ :ByteArray)) (s ++ (⟨#[120]⟩ :ByteArray)) k0 x0 (by omega) false (by simp[spec_l07Asks.f,hv]) _ (by omega) k2 (by rw[if_neg (by decide)];exact x2) ?_
        refine e_place _ k2 x2 ?_
        rw[if_neg (by simp[hv])]
        exact chain_run hR hc R 0 _ hl hF2.tail b
    · rw[if_neg h1]at hF
      have hp:(l.take (l.length / 2)).length=l.length / 2:=by rw[List.length_take];omega
      have hq:(l.drop (l.length / 2)).length=l.length - l.length / 2:=List.length_drop
      have hlt:l.length / 2<l.length:=by omega
      have hsp:l.take (l.length / 2) ++ l.drop (l.length / 2)=l:=List.take_append_drop _ _
      have hs':=hs
      rw[← hsp,List.pairwise_append]at hs'
      obtain⟨s1,s2,s3⟩:=hs'
      have er:rd l ((l.length / 2:Nat):Int)=l[l.length / 2]:=nrd l _ hlt
      rw[er]at hF
      have hd:l.drop (l.length / 2)=l[l.length / 2] :: l.drop (l.length / 2+1):=List.drop_eq_getElem_cons hlt
      have lo: ∀ x ∈ l.take (l.length / 2),x<l[l.length / 2]:=fun x hx=>s3 x hx _ (by rw[hd];exact List.mem_cons_self)
      have hi: ∀ x ∈ l.drop (l.length / 2),l[l.length / 2]≤x:=fun x hx=>by
        rw[hd]at hx s2
        rcases List.mem_cons.1 hx with rfl|hx
        · exact Int.le_refl _
        · exact Int.le_of_lt ((List.pairwise_cons.1 s2).1 x hx)
      have mem:b ∈ l ↔ b ∈ l.take (l.length / 2)∨b ∈ l.drop (l.length / 2):=by rw[← List.mem_append,hsp]
      simp only[List.append_assoc,List.cons_append,List.nil_append]at hF
      obtain⟨k0,x0⟩:=hF.get 0 (by simp)
      obtain⟨k1,x1⟩:=hF.get 1 (by simp)
      have hF1:=hF.tail.tail.left
      have hF2:=hF.tail.tail.right
      obtain⟨k2,x2⟩:=hF2.get 0 (by simp)
      generalize l[l.length / 2]=v at *
      by_cases hv:b≥v
      · refine e_ask hR 5 v (s ++ (⟨#[104]⟩ :ByteArray)) (s ++ (⟨#[108]⟩ :ByteArray)) k0 x0 (by omega) true (by simp[spec_l07Asks.f];omega) _ (by omega) k2 (by rw[if_pos rfl];exact x2) ?_
        refine e_place _ k2 x2 ?_
        have:=ih (l.drop (l.length / 2)) _ _ (by omega) s2 hF2.tail
        have e:(b ∈ l)=(b ∈ l.drop (l.length / 2)):=propext ⟨fun h=>(mem.1 h).resolve_left fun h=>by have:=lo b h;omega,fun h=>mem.2 (.inr h)⟩
        simp only[e]
        exact this
      · refine e_ask hR 5 v (s ++ (⟨#[104]⟩ :ByteArray)) (s ++ (⟨#[108]⟩ :ByteArray)) k0 x0 (by omega) false (by simp[spec_l07Asks.f];omega) (i+1) (by omega) k1 (by rw[if_neg (by decide)];exact x1) ?_
        refine e_place _ k1 x1 ?_
        have:=ih (l.take (l.length / 2)) _ _ (by omega) s1 hF1
        have e:(b ∈ l)=(b ∈ l.take (l.length / 2)):=propext ⟨fun h=>(mem.1 h).resolve_right fun h=>by have:=hi b h;omega,fun h=>mem.2 (.inl h)⟩
        simp only[e]
        exact this
theorem field_an {a b:Int} {w:List S93} (hc:CallR a b w):Evt (fun k=>spec_FieldAt.f k a b w 0) (b,true)∧Evt (fun k=>spec_FieldAt.f k a b w 1) (a,true):=by
  obtain⟨h1,h2,h3,h4⟩:=hc
  have hcl:=callT a b w h1 h2 h3 h4
  have dS: ∀ x,0≤x∧x≤7→∀ k,4≤k→spec_FieldAt.f k a b w x=spec_FieldAt.j0 k x false a b w:=fun x hx k hk=>by simp only[spec_FieldAt.f,hcl k hk,Option.bind_some,inS,if_true,decide_eq_true hx,Bool.not_true]
  refine⟨⟨5,fun k hk=>(dS 0 (by omega) k (by omega)).trans ?_⟩,⟨5,fun k hk=>(dS 1 (by omega) k (by omega)).trans ?_⟩⟩
  · obtain⟨k,rfl⟩ : ∃ m,k=m+1:=⟨k - 1,by omega⟩
    simp only[spec_FieldAt.j0,Bool.false_eq_true,if_false,if_true]
  · obtain⟨k,rfl⟩ : ∃ m,k=m+1:=⟨k - 1,by omega⟩
    simp only[spec_FieldAt.j0,Bool.false_eq_true,if_false]
    rw[if_neg (by decide)]
    rfl
/-- The lines of a policy tell what it decides; of another machine nothing. -/
theorem pol_run {L:List S104} (hR:RL L) {a b:Int} {w:List S93} (hc:CallR a b w) {A d e:Int} {R:List S81} (hl: ∀ y ∈ R,∀ c ∈ y.f1,CR c) {N:List Int} (hN:N.Pairwise (· < ·)) (hm: ∀ u,u ∈ N ↔ u ∈ R.flatMap (·.f0)) (hF:Fr L 0 ([lw 1 1,la 3 A (⟨#[112]⟩ :ByteArray) (⟨#[113]⟩ :ByteArray),lp (⟨#[113]⟩ :ByteArray),lw 8 0,lp (⟨#[112]⟩ :ByteArray),lw 1 0] ++ tlF d e R N.length N (⟨#[116]⟩ :ByteArray))) :
    Ends L a b w 0 0 (if a=A then decC b false w (resV d e) R else 0):=by
  obtain⟨f0,f1⟩:=field_an hc
  simp only[List.cons_append,List.nil_append]at hF
  obtain⟨k0,x0⟩:=hF.get 0 (by simp)
  obtain⟨k1,x1⟩:=hF.get 1 (by simp)
  obtain⟨k2,x2⟩:=hF.get 2 (by simp)
  obtain⟨k3,x3⟩:=hF.get 3 (by simp)
  obtain⟨k4,x4⟩:=hF.get 4 (by simp)
  obtain⟨k5,x5⟩:=hF.get 5 (by simp)
  simp only[List.getElem_cons_zero,List.getElem_cons_succ,Nat.zero_add]at k0 k1 k2 k3 k4 k5 x0 x1 x2 x3 x4 x5
  refine e_load _ k0 x0 _ f1 ?_
  dsimp only
  by_cases ha:a=A
  · rw[if_pos ha]
    refine e_ask hR 3 A (⟨#[112]⟩ :ByteArray) (⟨#[113]⟩ :ByteArray) k1 x1 (by omega) true (by simp[spec_l07Asks.f,ha]) 4 (by omega) k4 (by rw[if_pos rfl];exact x4) ?_
    refine e_place _ k4 x4 (e_load _ k5 x5 _ f0 ?_)
    dsimp only
    have:=tree_run hR hc hl N.length N (⟨#[116]⟩ :ByteArray) 6 (Nat.le_refl _) hN hF.tail.tail.tail.tail.tail.tail
    by_cases hb:b ∈ N
    · rw[if_pos hb]at this
      exact this
    · rw[if_neg hb,decC_any (n:=b) R (fun y hy h=>hb ((hm b).2 (List.mem_flatMap.2 ⟨y,hy,h⟩)))]at this
      exact this
  · rw[if_neg ha]
    refine e_ask hR 3 A (⟨#[112]⟩ :ByteArray) (⟨#[113]⟩ :ByteArray) k1 x1 (by omega) false (by simp[spec_l07Asks.f,ha]) 2 (by omega) k2 (by rw[if_neg (by decide)];exact x2) ?_
    exact e_place _ k2 x2 (e_ret _ k3 x3)
/-- A rule holds just when it names the number, or none, and all its conditions hold. -/
theorem ruleN_eq (x:List Int) (l:List S114) (hx:x.length≤1000) (hl: ∀ c ∈ l,CR c) (hn:l.length≤1000) (u v:Int) {a b:Int} {w:List S93} (hc:CallR a b w):Evt (fun k=>spec_RuleHolds.f k x l u v a b w) ((decide (x.length=0) || decide (b ∈ x)) && l.all (fun c=>cH c w)):=by
  have key:=down (T:=fun i=>Evt (fun k=>spec_RuleHolds.l0 k (i:Int) x l u v a b w) ((l.drop i).all (fun c=>cH c w))) (n:=l.length) ?_ ?_ l.length 0 (by omega)
  · obtain⟨K,h⟩:=key
    have h: ∀ k,K≤k→spec_RuleHolds.l0 k 0 x l u v a b w=some (l.all (fun c=>cH c w)):=fun k hk=>h k hk
    obtain⟨K1,h1⟩:=inNums x b (by omega)
    refine⟨K+K1+1,fun k hk=>?_⟩
    obtain⟨k,rfl⟩ : ∃ m,k=m+1:=⟨k - 1,by omega⟩
    have q:=h1 (k+1) (by omega)
    dsimp only at q
    simp only[spec_RuleHolds.f]
    by_cases h0:x.length=0
    · rw[if_neg (by omega)]
      simp only[spec_RuleHolds.j0,Bool.false_eq_true,if_false]
      rw[h k (by omega),decide_eq_true h0,Bool.true_or,Bool.true_and]
    · rw[if_pos (by omega),q]
      simp only[Option.bind_some,spec_RuleHolds.j0]
      rw[decide_eq_false h0,Bool.false_or]
      by_cases hb:b ∈ x
      · rw[decide_eq_true hb,if_neg (by decide),h k (by omega),Bool.true_and]
      · rw[decide_eq_false hb,if_pos (by decide),Bool.false_and]
  · refine .succ (.const fun k=>?_)
    simp only[spec_RuleHolds.l0]
    rw[if_neg (by omega),List.drop_length]
    rfl
  · intro i hi ⟨K,h⟩
    obtain⟨K1,h1⟩:=cH_eq (hl l[i] (List.getElem_mem hi)) hc
    dsimp only at h h1
    refine .succ ⟨K+K1,fun k hk=>?_⟩
    simp only[spec_RuleHolds.l0]
    rw[if_pos (by omega),if_pos (by omega),nrd_T114 l i hi,h1 k (by omega),List.drop_eq_getElem_cons hi,List.all_cons]
    simp only[Option.bind_some]
    cases cH l[i] w with
    | true=>rw[if_pos rfl,wsucc hi (by omega)];exact h k (by omega)
    | false=>rw[if_neg (by decide)];rfl
/-- What a right policy decides of a right call. -/
theorem dec_eq (A d e:Int) (R:List S81) (hn:R.length≤1000) (hR: ∀ y ∈ R,y.f0.length≤1000∧y.f1.length≤1000∧∀ c ∈ y.f1,CR c) (hp:Evt (fun k=>spec_PolicyOk.f k A d e R) true) {a b:Int} {w:List S93} (hc:CallR a b w):Evt (fun k=>spec_Decide.f k A d e R a b w) (if a=A then decC b false w (resV d e) R else 0):=by
  obtain⟨K0,h0⟩:=hp
  obtain⟨q1,q2,q3,q4⟩:=hc
  have hcl:=callT a b w q1 q2 q3 q4
  dsimp only at h0
  have key:=down (T:=fun i=>Evt (fun k=>spec_Decide.l0 k (i:Int) A d e R a b w) (decC b false w (resV d e) (R.drop i))) (n:=R.length) ?_ ?_ R.length 0 (by omega)
  · obtain⟨K,h⟩:=key
    have h: ∀ k,K≤k→spec_Decide.l0 k 0 A d e R a b w=some (decC b false w (resV d e) R):=fun k hk=>h k hk
    refine⟨K0+K+5,fun k hk=>?_⟩
    obtain⟨k,rfl⟩ : ∃ m,k=m+1:=⟨k - 1,by omega⟩
    simp only[spec_Decide.f,h0 (k+1) (by omega),hcl (k+1) (by omega),Option.bind_some,if_true,spec_Decide.j0]
    by_cases ha:a=A
    · rw[if_neg (by simp[ha]),if_pos ha]
      exact h k (by omega)
    · rw[if_pos (by simp[ha]),if_neg ha]
  · refine .succ (.const fun k=>?_)
    simp only[spec_Decide.l0,resV_eq,Option.bind_some]
    rw[if_neg (by omega),List.drop_length]
    rfl
  · intro i hi ⟨K,h⟩
    obtain⟨r1,r2,r3⟩:=hR R[i] (List.getElem_mem hi)
    obtain⟨K1,h1⟩:=ruleN_eq R[i].f0 R[i].f1 r1 r3 r2 R[i].f2 R[i].f3 ⟨q1,q2,q3,q4⟩
    dsimp only at h h1
    refine .succ ⟨K+K1,fun k hk=>?_⟩
    simp only[spec_Decide.l0,resV_eq,Option.bind_some]
    rw[if_pos (by omega),if_pos (by omega),nrd_T81 R i hi,h1 k (by omega),List.drop_eq_getElem_cons hi]
    simp only[Option.bind_some,decC]
    by_cases hh:inC b false R[i]=true∧R[i].f1.all (fun c=>cH c w)=true
    · rw[if_pos hh,if_pos (by
        have:=hh.1
        simp only[inC,Bool.not_false,Bool.true_and]at this
        rw[this,hh.2]
        rfl)]
    · rw[if_neg hh,if_neg (fun e=>hh (by
        rw[Bool.and_eq_true]at e
        exact⟨by simp only[inC,Bool.not_false,Bool.true_and];exact e.1,e.2⟩)),wsucc hi (by omega)]
      exact h k (by omega)
/-- A right program takes no more steps than it has words. -/
theorem steps_le {R:List S34} (hP:ProgP R) (a b:Int) (w:List S93): ∀ (k:Nat) (g s i v s':Int),0≤s→s≤i→i≤10000000000→spec_Run.l0 k R g s i a b w=some (v,s')→s'≤(R.length:Int)
  | 0,_,_,_,_,_,_,_,_,h=>by simp[spec_Run.l0]at h
  | k+1,g,s,i,v,s',h0,h1,h2,h=>by
    have hn:=hP.1.2
    have ih:=steps_le hP a b w k
    rw[spec_Run.l0]at h
    by_cases hi:i<(R.length:Int)
    · obtain⟨j,rfl⟩:=Int.eq_ofNat_of_zero_le (show 0≤i by omega)
      have hj:j<R.length:=by omega
      have hA:=(hP.2.2 j hj).1
      rw[if_pos hi,if_pos (by omega)]at h
      have hr:rd_T34 R ((j:Nat):Int)=R[j]:=rd_nat34 R j hj
      rw[hr]at h
      obtain⟨_,c1,c2,c3,_⟩:=hA
      have e1:Aside0 (wrap64 (s+1)=s+1):=⟨w64 (by omega) (by omega)⟩
      have e2:Aside0 (wrap64 ((j:Int)+1)=(j:Int)+1):=⟨w64 (by omega) (by omega)⟩
      have e3: ∀ x:Int,0≤x→x≤4294967295→wrap64 (wrap64 ((j:Int)+x)+1)=(j:Int)+x+1:=fun x a1 a2=>by rw[w64 (x:=(j:Int)+x) (by omega) (by omega),w64 (by omega) (by omega)]
      have e4:=Aside0.mk (e3 R[j].f1 c1.1 c1.2)
      have e5:=Aside0.mk (e3 R[j].f2 c2.1 (by omega))
      have e6:=Aside0.mk (e3 R[j].f3 c3.1 (by omega))
      clear e3
      split at h
      · cases hf:spec_FieldAt.f k a b w R[j].f1 with
        | none=>rw[hf]at h;simp at h
        | some p=>
          rw[hf,Option.bind_some,e1.out,e2.out]at h
          exact ih _ _ _ v s' (by omega) (by omega) (by omega) h
      · split at h
        · rw[e1.out,e2.out]at h
          exact ih _ _ _ v s' (by omega) (by omega) (by omega) h
        · split at h
          · rw[e1.out,e4.out]at h
            exact ih _ _ _ v s' (by omega) (by omega) (by omega) h
          · split at h
            · rw[e1.out]at h
              simp only[Option.some.injEq,Prod.mk.injEq]at h
              omega
            · cases hf:spec_l07Asks.f R[j].f0 R[j].f1 R[j].f2 R[j].f3 g with
              | none=>rw[hf]at h;simp at h
              | some p=>
                rw[hf,Option.bind_some]at h
                split at h
                · rw[e1.out,e5.out]at h
                  exact ih _ _ _ v s' (by omega) (by omega) (by omega) h
                · rw[e1.out,e6.out]at h
                  exact ih _ _ _ v s' (by omega) (by omega) (by omega) h
    · rw[if_neg hi]at h
      simp only[Option.some.injEq,Prod.mk.injEq]at h
      omega
/-- Right lines that fit: their words are a right program, and do what the lines do, in no more steps than there are words. -/
theorem run_words {L:List S104} (hR:RL L) (h8: ∃ h:L.length - 1<L.length,L[L.length - 1].f1.f0=8) {P:List S34} (hL:Evt (fun k=>spec_Layout.f k L) (P,true)):ProgP P∧∀ {a b:Int} {w:List S93},CallR a b w→∀ {v:Int},Ends L a b w 0 0 v→∃ s',s'≤(P.length:Int)∧Evt (fun k=>spec_Run.f k P a b w) (v,s'):=by
  have h1:1≤L.length:=by obtain⟨h,_⟩:=h8;omega
  obtain⟨O,R,hOk,hN,hLd,h4⟩:=layS L ⟨h1,hR.n⟩ hR.s hR.i h8
  have hu:=hL.uniq h4
  have hlen:=laid_len hOk hLd
  have z0:pre O 0=0:=by simp[pre]
  have pos:1≤pre O L.length:=by
    obtain⟨h,e⟩:=h8
    have h':L.length - 1<O.length:=by have:=hOk.1;omega
    have q1:=hOk.2.2.2 (L.length - 1) h' h (by omega)
    rw[if_neg (by omega)]at q1
    have q2:pre O (L.length - 1+1)=pre O (L.length - 1)+O[L.length - 1]:=pre_succ h'
    rw[show L.length - 1+1=L.length by omega]at q2
    have q3:=(pre_bound hOk.2.1 (L.length - 1) (by omega)).1
    omega
  by_cases h400:R.length≤400
  · rw[if_pos h400]at hu
    simp only[Prod.mk.injEq,and_true]at hu
    subst hu
    have hP:=laid_prog hR.n hR.s hR.i h8 hOk hN hLd ⟨by omega,h400⟩
    obtain⟨c,hcs,hci⟩:=chkS P
    have hct:c=true:=hci.2 hP
    subst hct
    refine⟨hP,fun {a b w} hc {v} hE=>?_⟩
    obtain⟨ha,hbb,hw3,hw⟩:=hc
    have hcall:=callT a b w ha hbb hw3 hw
    obtain⟨s',K5,h5⟩:=run_laid hR.n hOk hLd h400 a b w hE 0
    rw[z0]at h5
    refine⟨s',steps_le hP a b w K5 0 0 0 v s' (by omega) (by omega) (by omega) (h5 K5 (Nat.le_refl _)),K5+P.length+10,fun k hk=>?_⟩
    simp only[spec_Run.f,hcs k (by omega),hcall k (by omega),Option.bind_some,if_true,Bool.not_true]
    obtain⟨k,rfl⟩ : ∃ m,k=m+1:=⟨k - 1,by omega⟩
    simp only[spec_Run.j0,Bool.false_eq_true,if_false]
    exact h5 k (by omega)
  · rw[if_neg h400]at hu
    simp at hu
/-- A right policy is right to the reference as well. -/
theorem polTS (b c:Int) (hb:0≤b∧b≤5) (hc:0≤c∧c≤65535) (R:List S81) (hR:R.length≤4) (hr: ∀ y ∈ R,RuleR y.f0 y.f1 y.f2 y.f3∧y.f0.length≤3∧y.f1.length≤2):Evt (fun k=>spec_PolicyOk.f k 62 b c R) true:=by
  obtain⟨r,_,h1,h2⟩:=pol 62 b c R (by omega) (fun y hy=>by have:=hr y hy;omega)
  have:=h2.uniq (polT 62 b c R (by omega) hb hc (by omega) (fun y hy=>(hr y hy).1))
  subst this
  exact h1
/-! The lines of a policy of few rules are right lines. -/
theorem resV_rg (a b:Int) (ha:0≤a∧a≤5) (hb:0≤b∧b≤65535):0≤resV a b∧resV a b≤4294967295:=by
  have h:=resV_eq a b
  simp only[spec_ResultOf.f,inS,Option.bind_some,decide_eq_true_eq]at h
  rw[if_pos (by omega),if_pos (by omega),w64 (x:=65536*a) (by omega) (by omega),w64 (by omega) (by omega)]at h
  simp only[Option.some.injEq]at h
  omega
/-- The places' names of lines. -/
def Lab (F:List S104) (p:List UInt8→Prop):Prop:= ∀ z ∈ F,z.f1.f0=0→p z.f0.toList
theorem Lab.app {F G:List S104} {p:List UInt8→Prop} (h:Lab F p) (g:Lab G p):Lab (F ++ G) p:=fun z hz h0=>by
  rcases List.mem_append.1 hz with hz|hz
  · exact h z hz h0
  · exact g z hz h0
theorem Lab.cons {x:S104} {G:List S104} {p:List UInt8→Prop} (h:x.f1.f0=0→p x.f0.toList) (g:Lab G p):Lab (x :: G) p:=fun z hz h0=>by
  rcases List.mem_cons.1 hz with hz|hz
  · subst hz;exact h h0
  · exact g z hz h0
theorem Lab.nil {p:List UInt8→Prop} :Lab ([] :List S104) p:=fun z hz=>absurd hz (by simp)
theorem Lab.mono {F:List S104} {p q:List UInt8→Prop} (h:Lab F p) (hq: ∀ u,p u→q u):Lab F q:=fun z hz h0=>hq _ (h z hz h0)
/-- It leads on behind s, with the letter c. -/
def Suc (s:List UInt8) (c:UInt8) (u:List UInt8):Prop:=s ++ [c] <+:u
theorem suc_ne {s u:List UInt8} {c d:UInt8} (hcd:c≠d) (h:Suc s c u): ¬ Suc s d u:=fun g=>by
  obtain⟨r,rfl⟩:=h
  obtain⟨q,e⟩:=g
  rw[List.append_assoc,List.append_assoc]at e
  have:=List.append_cancel_left e
  simp only[List.cons_append,List.nil_append,List.cons.injEq]at this
  exact hcd this.1.symm
theorem suc_self {s:List UInt8} {c:UInt8} :Suc s c (s ++ [c]):=List.prefix_refl _
theorem suc_not {s:List UInt8} {c:UInt8} : ¬ Suc s c s:=fun ⟨r,e⟩=>by
  have:=congrArg List.length e
  simp at this
theorem suc_up {s u:List UInt8} {c d:UInt8} (h:Suc (s ++ [c]) d u):Suc s c u:=(List.prefix_append _ _).trans h
/-- No name leads on behind s. -/
def Fx (pr:List S104) (s:List UInt8):Prop:=Lab pr (fun u=> ∀ c,¬ Suc s c u)
theorem chr_tl: ∀ i:Nat,i<26→(strOfNums [(97+(i:Int)) % 256]).toList= [UInt8.ofNat (97+i)]:=by
  simp only[ByteArray.toList_eq]
  decide
theorem cN_tl (s:ByteArray) (i:Nat) (hi:i<26):(cN s i).toList=s.toList ++ [UInt8.ofNat (97+i)]:=by
  have e:wrap64 (97+(i:Int))=97+i:=w64 (by omega) (by omega)
  rw[cN,tl_app,e,chr_tl i hi]
theorem chr_inj: ∀ i,i<26→∀ j,j<26→UInt8.ofNat (97+i)=UInt8.ofNat (97+j)→i=j:=by decide
theorem cZ_tl (s:ByteArray) (i:Nat) (hi:i<26):(cZ s i).toList=(s.toList ++ [UInt8.ofNat (97+i)]) ++ [122]:=by
  rw[cZ,tl_app,tl1,cN_tl s i hi]
/-- A rule's own names do not end as its end's. -/
theorem rule_lab2 {s n:ByteArray} : ∀ (l:List S114) (j:Nat),j+l.length≤10→Lab (rlF s n l j) (fun u=> ∃ c r,u=s.toList ++ c :: r∧c≠122)
  | [],_,_=>by rw[rlF];exact Lab.nil
  | c :: l,j,hj=>by
    have hj1:j<10:=by simp at hj;omega
    have dz: ∀ i,i<10→UInt8.ofNat (48+i)≠122:=by decide
    rw[rlF]
    refine Lab.app (fun z hz h0=>?_) (Lab.cons (fun _=>⟨110,(tN j).toList,?_,by decide⟩) (rule_lab2 l (j+1) (by simp at hj;omega)))
    · rcases cond_lab z hz h0 with e|e
      · exact⟨UInt8.ofNat (48+j),[97],by rw[e,tl_app,tl_app,tl1,tN_tl j hj1,List.append_assoc];rfl,dz j hj1⟩
      · exact⟨UInt8.ofNat (48+j),[98],by rw[e,tl_app,tl_app,tl1,tN_tl j hj1,List.append_assoc];rfl,dz j hj1⟩
    · show((s ++ (⟨#[110]⟩ :ByteArray)) ++ tN j).toList=_
      rw[tl_app,tl_app,tl1,List.append_assoc]
      rfl
theorem crF_lab (s:ByteArray) (y:S81) (i:Nat) (hi:i<26):Lab (crF s y i) (Suc s.toList (UInt8.ofNat (97+i))):=by
  rw[crF]
  refine Lab.app (fun z hz h0=>?_) (Lab.cons (fun h=>absurd h (by show ¬ (8:Int)=0;decide)) (Lab.cons (fun _=>?_) Lab.nil))
  · have:=rule_lab y.f1 0 z hz h0
    rw[cN_tl s i hi]at this
    exact this
  · show Suc s.toList _ (cZ s i).toList
    rw[cZ_tl s i hi]
    exact List.prefix_append _ _
theorem clF_lab (n:Int) (t:Bool) (s:ByteArray): ∀ (l:List S81) (i:Nat),i+l.length≤26→Lab (clF n t s l i) (fun u=> ∃ m,i≤m∧m<26∧Suc s.toList (UInt8.ofNat (97+m)) u)
  | [],_,_=>by rw[clF];exact Lab.nil
  | y :: l,i,h=>by
    simp only[List.length_cons]at h
    rw[clF]
    refine Lab.app ?_ ((clF_lab n t s l (i+1) (by omega)).mono fun u ⟨m,h1,h2,h3⟩=>⟨m,by omega,h2,h3⟩)
    split
    · exact(crF_lab s y i (by omega)).mono fun u hu=>⟨i,by omega,by omega,hu⟩
    · exact Lab.nil
/-- A rule that is right. -/
def RR (y:S81):Prop:=(∀ c ∈ y.f1,CR c)∧y.f1.length≤9∧(0≤y.f2∧y.f2≤5)∧(0≤y.f3∧y.f3≤65535)
theorem clF_ok (n:Int) (t:Bool) (s:ByteArray) (hs:s.size+3≤12) (post:List S104): ∀ (l:List S81) (i:Nat) (pr:List S104),i+l.length≤26→(∀ y ∈ l,RR y)→Lab pr (fun u=> ∀ m,i≤m→m<26→ ¬ Suc s.toList (UInt8.ofNat (97+m)) u)→Ok pr (clF n t s l i) post
  | [],_,_,_,_,_=>by rw[clF];trivial
  | y :: l,i,pr,hi,hl,hf=>by
    simp only[List.length_cons]at hi
    obtain⟨y1,y2,y3,y4⟩:=hl y List.mem_cons_self
    have hl2: ∀ z ∈ l,RR z:=fun z hz=>hl z (List.mem_cons_of_mem _ hz)
    rw[clF]
    split
    · have c1:=cN_size s i
      have c2:(cZ s i).size=s.size+2:=by rw[cZ,ByteArray.size_append,c1];rfl
      refine Ok.app ?_ (clF_ok n t s hs post l (i+1) _ (by omega) hl2 (Lab.app (hf.mono fun u h m h1 h2=>h m (by omega) h2) ((crF_lab s y i (by omega)).mono fun u hu m h1 h2=>suc_ne (fun e=>by have:=chr_inj i (by omega) m h2 e;omega) hu)))
      rw[crF]
      refine Ok.app (rule_ok (by omega) (.here (by simp)) y.f1 0 pr y1 (by omega) (Fre.j (fun z hz h0 h=>hf z hz h0 i (Nat.le_refl _) (by omega) (by rw[cN_tl s i (by omega)]at h;exact h)) 0)) ⟨gd_lw (.inr (.inr rfl)) (resV_rg _ _ y3 y4) (fun h=>absurd h (by decide)),gd_lp (by omega) ?_,trivial⟩
      refine not0 (Lab.app (p:=fun u=>u≠(cZ s i).toList) (hf.mono fun u h e=>h i (Nat.le_refl _) (by omega) (by rw[e,cZ_tl s i (by omega)];exact List.prefix_append _ _)) ((rule_lab2 y.f1 0 (by omega)).mono fun u ⟨c,r,e,hc⟩ e2=>?_)) (by show ¬ (8:Int)=0;decide)
      rw[e,cZ_tl s i (by omega),cN_tl s i (by omega)]at e2
      have e3:=List.append_cancel_left e2
      simp only[List.cons.injEq]at e3
      exact hc e3.1
    · rw[List.nil_append]
      exact clF_ok n t s hs post l (i+1) pr (by omega) hl2 (hf.mono fun u h m h1 h2=>h m (by omega) h2)
section
variable (b c:Int) (R:List S81) (hb:0≤b∧b≤5) (hc:0≤c∧c≤65535) (hR:R.length≤26) (hr: ∀ y ∈ R,RR y)
include hb hc hR hr
theorem chF_ok (n:Int) (t:Bool) (s:ByteArray) (hs:s.size+3≤12) (pr post:List S104) (hf:Fx pr s.toList):Ok pr (chF b c R n t s) post:=by
  rw[chF]
  exact Ok.app (clF_ok n t s hs _ R 0 pr (by omega) hr (hf.mono fun u h m _ _=>h _)) ⟨gd_lw (.inr (.inr rfl)) (resV_rg _ _ hb hc) (fun h=>absurd h (by decide)),trivial⟩
omit hb hc hr in
theorem chF_lab (n:Int) (t:Bool) (s:ByteArray):Lab (chF b c R n t s) (fun u=> ∃ x,Suc s.toList x u):=by
  rw[chF]
  exact Lab.app ((clF_lab n t s R 0 (by omega)).mono fun u ⟨m,_,_,h⟩=>⟨_,h⟩) (Lab.cons (fun h=>absurd h (by show ¬ (8:Int)=0;decide)) Lab.nil)
omit hb hc hr in
theorem tlF_lab: ∀ (m:Nat) (l:List Int) (s:ByteArray),Lab (tlF b c R m l s) (fun u=> ∃ x,Suc s.toList x u)
  | 0,l,s=>by rw[tlF];exact chF_lab b c R hR 0 true s
  | m+1,l,s=>by
    have up: ∀ (x:UInt8) (F:List S104),Lab F (fun u=> ∃ y,Suc (s ++ (⟨#[x]⟩ :ByteArray)).toList y u)→Lab F (fun u=> ∃ x,Suc s.toList x u):=fun x F h=>h.mono fun u ⟨y,hu⟩=>⟨x,by rw[tl_app,tl1]at hu;exact suc_up hu⟩
    have pl: ∀ x:UInt8,(lp (s ++ (⟨#[x]⟩ :ByteArray)):S104).f1.f0=0→∃ y,Suc s.toList y (lp (s ++ (⟨#[x]⟩ :ByteArray)):S104).f0.toList:=fun x _=>⟨x,by show Suc _ _ (s ++ (⟨#[x]⟩ :ByteArray)).toList;rw[tl_app,tl1];exact suc_self⟩
    rw[tlF]
    split
    · exact chF_lab b c R hR 0 true s
    · split
      · exact Lab.app (Lab.app (Lab.app (Lab.cons (fun h=>absurd h (by show ¬ (3:Int)=0;decide)) (Lab.cons (pl 121) Lab.nil)) (up 121 _ (chF_lab b c R hR _ false _))) (Lab.cons (pl 120) Lab.nil)) (up 120 _ (chF_lab b c R hR 0 true _))
      · exact Lab.app (Lab.app (Lab.app (Lab.cons (fun h=>absurd h (by show ¬ (5:Int)=0;decide)) (Lab.cons (pl 108) Lab.nil)) (up 108 _ (tlF_lab m _ _))) (Lab.cons (pl 104) Lab.nil)) (up 104 _ (tlF_lab m _ _))
/-- Two branches, each with a name of its own. -/
theorem fork_ok {o v:Int} (ho:3≤o∧o≤6) (hv:0≤v∧v≤4294967295) {s:ByteArray} {x y:UInt8} (hxy:x≠y) (hs:s.size+1≤12) {pr post A B:List S104} {q r:ByteArray} (hq:(q=s ++ (⟨#[x]⟩ :ByteArray)∧r=s ++ (⟨#[y]⟩ :ByteArray))∨(q=s ++ (⟨#[y]⟩ :ByteArray)∧r=s ++ (⟨#[x]⟩ :ByteArray))) (hf:Fx pr s.toList)
    (hlA:Lab A (fun u=> ∃ z,Suc (s ++ (⟨#[x]⟩ :ByteArray)).toList z u))
    (hA: ∀ p post,Fx p (s ++ (⟨#[x]⟩ :ByteArray)).toList→Ok p A post) (hB: ∀ p post,Fx p (s ++ (⟨#[y]⟩ :ByteArray)).toList→Ok p B post) :
    Ok pr ((([la o v q r,lp (s ++ (⟨#[x]⟩ :ByteArray))] ++ A) ++ [lp (s ++ (⟨#[y]⟩ :ByteArray))]) ++ B) post:=by
  have zx:(s ++ (⟨#[x]⟩ :ByteArray)).size=s.size+1:=by rw[ByteArray.size_append];rfl
  have zy:(s ++ (⟨#[y]⟩ :ByteArray)).size=s.size+1:=by rw[ByteArray.size_append];rfl
  have tx:(s ++ (⟨#[x]⟩ :ByteArray)).toList=s.toList ++ [x]:=by rw[tl_app,tl1]
  have ty:(s ++ (⟨#[y]⟩ :ByteArray)).toList=s.toList ++ [y]:=by rw[tl_app,tl1]
  have nla: ¬ (la o v q r:S104).f1.f0=0:=by show ¬ o=0;omega
  have f1: ∀ w:UInt8,Lab pr (fun u=> ¬ Suc s.toList w u):=fun w=>hf.mono fun u h=>h w
  have ne: ∀ (w:UInt8) (u:List UInt8),¬ Suc s.toList w u→u≠s.toList ++ [w]:=fun w u h e=>h (by rw[e];exact suc_self)
  have toX:To (([lp (s ++ (⟨#[x]⟩ :ByteArray))] ++ A ++ [lp (s ++ (⟨#[y]⟩ :ByteArray))] ++ B) ++ post) (s ++ (⟨#[x]⟩ :ByteArray)):= .here (by simp)
  have toY:To (([lp (s ++ (⟨#[x]⟩ :ByteArray))] ++ A ++ [lp (s ++ (⟨#[y]⟩ :ByteArray))] ++ B) ++ post) (s ++ (⟨#[y]⟩ :ByteArray)):= .here (by simp)
  have e:(([la o v q r,lp (s ++ (⟨#[x]⟩ :ByteArray))] ++ A) ++ [lp (s ++ (⟨#[y]⟩ :ByteArray))]) ++ B=la o v q r :: (lp (s ++ (⟨#[x]⟩ :ByteArray)) :: (A ++ (lp (s ++ (⟨#[y]⟩ :ByteArray)) :: B))):=by simp
  have e2:([lp (s ++ (⟨#[x]⟩ :ByteArray))] ++ A ++ [lp (s ++ (⟨#[y]⟩ :ByteArray))] ++ B) ++ post=(lp (s ++ (⟨#[x]⟩ :ByteArray)) :: (A ++ (lp (s ++ (⟨#[y]⟩ :ByteArray)) :: B))) ++ post:=by simp
  rw[e2]at toX toY
  rw[e]
  have g1:Lab (pr ++ [la o v q r]) (fun u=> ∀ w,¬ Suc s.toList w u):=Lab.app hf (Lab.cons (fun h=>absurd h nla) Lab.nil)
  have g2:Lab ((pr ++ [la o v q r]) ++ [lp (s ++ (⟨#[x]⟩ :ByteArray))]) (fun u=> ¬ Suc s.toList y u∧∀ z,¬ Suc (s.toList ++ [x]) z u):=Lab.app (g1.mono fun u h=>⟨h y,fun z hz=>h x (suc_up hz)⟩) (Lab.cons (fun _=>⟨by show ¬ Suc _ _ (s ++ (⟨#[x]⟩ :ByteArray)).toList;rw[tx];exact suc_ne hxy suc_self,fun z=>by show ¬ Suc _ _ (s ++ (⟨#[x]⟩ :ByteArray)).toList;rw[tx];exact suc_not⟩) Lab.nil)
  have g3:Lab (((pr ++ [la o v q r]) ++ [lp (s ++ (⟨#[x]⟩ :ByteArray))]) ++ A) (fun u=> ¬ Suc s.toList y u):=Lab.app (g2.mono fun u h=>h.1) (hlA.mono fun u ⟨z,hz⟩=>by rw[tx]at hz;exact suc_ne hxy (suc_up hz))
  refine⟨?_,gd_lp (by omega) (fun z hz h0=>?_),Ok.app (hA _ _ ?_) ⟨gd_lp (by omega) (fun z hz h0=>?_),hB _ _ ?_⟩⟩
  · rcases hq with⟨rfl,rfl⟩|⟨rfl,rfl⟩
    · exact gd_la ho hv toX toY
    · exact gd_la ho hv toY toX
  · rw[tx]
    exact ne x _ (g1 z hz h0 x)
  · rw[tx]
    exact g2.mono fun u h=>h.2
  · rw[ty]
    exact ne y _ (g3 z hz h0)
  · rw[ty]
    refine Lab.app (g3.mono fun u h z hz=>h (suc_up hz)) (Lab.cons (fun _ z=>?_) Lab.nil)
    show ¬ Suc _ _ (s ++ (⟨#[y]⟩ :ByteArray)).toList
    rw[ty]
    exact suc_not
theorem tlF_ok: ∀ (m:Nat) (l:List Int) (s:ByteArray),l.length≤m→s.size+l.length+4≤12→(∀ v ∈ l,0≤v∧v≤4294967295)→∀ pr post,Fx pr s.toList→Ok pr (tlF b c R m l s) post
  | 0,l,s,hl,hs,_=>fun pr post hf=>by rw[tlF];exact chF_ok b c R hb hc hR hr 0 true s (by omega) pr post hf
  | m+1,l,s,hl,hs,hv=>fun pr post hf=>by
    have sz: ∀ x:UInt8,(s ++ (⟨#[x]⟩ :ByteArray)).size=s.size+1:=fun x=>by rw[ByteArray.size_append];rfl
    rw[tlF]
    split
    · exact chF_ok b c R hb hc hR hr 0 true s (by omega) pr post hf
    · split
      · rename_i h0 h1
        have hr0:rd l 0=l[0]:=nrd l 0 (by omega)
        exact fork_ok b c R hb hc hR hr (by omega) (by rw[hr0];exact hv _ (List.getElem_mem _)) (by decide:(121:UInt8)≠120) (by omega) (.inl ⟨rfl,rfl⟩) hf (chF_lab b c R hR _ false _) (fun p q h=>chF_ok b c R hb hc hR hr _ false _ (by rw[sz];omega) p q h) (fun p q h=>chF_ok b c R hb hc hR hr 0 true _ (by rw[sz];omega) p q h)
      · rename_i h0 h1
        have hlt:l.length / 2<l.length:=by omega
        have hr0:rd l ((l.length / 2:Nat):Int)=l[l.length / 2]:=nrd l _ hlt
        have hp:(l.take (l.length / 2)).length=l.length / 2:=by rw[List.length_take];omega
        have hq:(l.drop (l.length / 2)).length=l.length - l.length / 2:=List.length_drop
        exact fork_ok b c R hb hc hR hr (by omega) (by rw[hr0];exact hv _ (List.getElem_mem _)) (by decide:(108:UInt8)≠104) (by omega) (.inr ⟨rfl,rfl⟩) hf (tlF_lab b c R hR m _ _) (tlF_ok m _ _ (by omega) (by rw[sz];omega) (fun v h=>hv v (List.mem_of_mem_take h))) (tlF_ok m _ _ (by omega) (by rw[sz];omega) (fun v h=>hv v (List.mem_of_mem_drop h)))
/-- All lines of a policy are right. -/
theorem plF_ok (a:Int) (ha:0≤a∧a≤4294967295) (N:List Int) (hN:N.length≤6) (hv: ∀ v ∈ N,0≤v∧v≤4294967295):Ok [] ([lw 1 1,la 3 a (⟨#[112]⟩ :ByteArray) (⟨#[113]⟩ :ByteArray),lp (⟨#[113]⟩ :ByteArray),lw 8 0,lp (⟨#[112]⟩ :ByteArray),lw 1 0] ++ tlF b c R N.length N (⟨#[116]⟩ :ByteArray)) []:=by
  have n8: ¬ (lw 8 0:S104).f1.f0=0:=by show ¬ (8:Int)=0;decide
  have n1: ∀ k:Int,¬ (lw 1 k:S104).f1.f0=0:=fun k=>by show ¬ (1:Int)=0;decide
  have n3: ¬ (la 3 a (⟨#[112]⟩ :ByteArray) (⟨#[113]⟩ :ByteArray):S104).f1.f0=0:=by show ¬ (3:Int)=0;decide
  have p113:((⟨#[113]⟩ :ByteArray)).toList= [113]:=tl1 113
  have p112:((⟨#[112]⟩ :ByteArray)).toList= [112]:=tl1 112
  refine Ok.app ⟨gd_lw (.inl rfl) (by omega) (by omega),gd_la (by omega) ha (.here (by simp)) (.here (by simp)),gd_lp (by decide) ?_,gd_lw (.inr (.inr rfl)) (by omega) (by omega),gd_lp (by decide) ?_,gd_lw (.inl rfl) (by omega) (by omega),trivial⟩ (tlF_ok b c R hb hc hR hr N.length N (⟨#[116]⟩ :ByteArray) (Nat.le_refl _) (by show 1+N.length+4≤12;omega) hv _ _ ?_)
  · exact not0 (not0 (fun z hz=>absurd hz (by simp)) (n1 1)) n3
  · refine not0 (addp (not0 (not0 (fun z hz=>absurd hz (by simp)) (n1 1)) n3) ?_) n8
    show((⟨#[113]⟩ :ByteArray)).toList≠((⟨#[112]⟩ :ByteArray)).toList
    rw[p113,p112]
    decide
  · have nt: ∀ x:UInt8,x≠116→∀ w,¬ Suc ((⟨#[116]⟩ :ByteArray)).toList w [x]:=fun x hx w=>by
      rw[tl1]
      exact fun ⟨r,e⟩=>by simp at e
    refine Lab.app Lab.nil (Lab.cons (fun h=>absurd h (n1 1)) (Lab.cons (fun h=>absurd h n3) (Lab.cons (fun _=>?_) (Lab.cons (fun h=>absurd h n8) (Lab.cons (fun _=>?_) (Lab.cons (fun h=>absurd h (n1 0)) Lab.nil))))))
    · show ∀ w,¬ Suc _ w ((⟨#[113]⟩ :ByteArray)).toList
      rw[p113]
      exact nt 113 (by decide)
    · show ∀ w,¬ Suc _ w ((⟨#[112]⟩ :ByteArray)).toList
      rw[p112]
      exact nt 112 (by decide)
end
/-! How many words they become. -/
def wt (x:S104):Int:=if x.f1.f0=0 then 0 else if 3≤x.f1.f0∧x.f1.f0≤6 then 3 else 1
def wts (l:List S104):Int:=(l.map wt).sum
theorem wts_app (l m:List S104):wts (l ++ m)=wts l+wts m:=by simp[wts]
theorem wts_cons (x:S104) (m:List S104):wts (x :: m)=wt x+wts m:=by simp[wts]
theorem pre_wts {L:List S104} {o:List Int} (ho:OkS L o): ∀ i,i≤L.length→pre o i≤wts (L.take i)
  | 0,_=>by simp[pre,wts]
  | i+1,h=>by
    obtain⟨h1,h2,h3,h4⟩:=ho
    have ih:=pre_wts ⟨h1,h2,h3,h4⟩ i (by omega)
    have hi:i<o.length:=by omega
    have hi':i<L.length:=by omega
    rw[pre_succ hi,List.take_succ_eq_append_getElem hi',wts_app]
    have hw:wts [L[i]]=wt L[i]:=by simp[wts]
    rw[hw]
    have b2:=h2 i hi
    by_cases ha:3≤L[i].f1.f0∧L[i].f1.f0≤6
    · have:wt L[i]=3:=by rw[wt,if_neg (by omega),if_pos ha]
      omega
    · have:=h4 i hi hi' ha
      by_cases h0:L[i].f1.f0=0
      · rw[if_pos h0]at this
        have:wt L[i]=0:=by rw[wt,if_pos h0]
        omega
      · rw[if_neg h0]at this
        have:wt L[i]=1:=by rw[wt,if_neg h0,if_neg ha]
        omega
theorem pre_mono {o:List Int} (ho: ∀ j (h:j<o.length),0≤o[j]∧o[j]≤3) {i:Nat} : ∀ {j:Nat},i≤j→j≤o.length→pre o i≤pre o j
  | 0,h,_=>by
    have:i=0:=by omega
    subst this
    exact Int.le_refl _
  | j+1,h,h'=>by
    by_cases e:i=j+1
    · subst e;exact Int.le_refl _
    · have:=pre_mono ho (i:=i) (j:=j) (by omega) (by omega)
      have:=(ho j (by omega)).1
      rw[pre_succ (show j<o.length by omega)]
      omega
theorem wt_lp (s:ByteArray):wt (lp s:S104)=0:=rfl
theorem wt_la (o k:Int) (s t:ByteArray) (ho:3≤o∧o≤6):wt (la o k s t:S104)=3:=by
  show(if o=0 then(0:Int)else if 3≤o∧o≤6 then 3 else 1)=3
  rw[if_neg (by omega),if_pos ho]
theorem wt_lw (o k:Int) (ho:o=1∨o=2∨o=8):wt (lw o k:S104)=1:=by
  show(if o=0 then(0:Int)else if 3≤o∧o≤6 then 3 else 1)=1
  rw[if_neg (by omega),if_neg (by omega)]
theorem cond_wts (a b c d e f:Int) (s y n:ByteArray):wts (cLines a b c d e f s y n:List S104)≤13:=by
  unfold cLines
  repeat' split
  all_goals simp[wts,cSame,cAbove,wt,lw,la,lp]
theorem rlF_wts (s n:ByteArray): ∀ (l:List S114) (j:Nat),wts (rlF s n l j)≤13*l.length
  | [],_=>by simp[rlF,wts]
  | c :: l,j=>by
    have h1:=cond_wts c.f0 c.f1.f0 c.f1.f1 c.f2 c.f3.f0 c.f3.f1 (s ++ tN j) ((s ++ (⟨#[110]⟩ :ByteArray)) ++ tN j) n
    have h2:=rlF_wts s n l (j+1)
    rw[rlF,wts_app,wts_cons,wt_lp,List.length_cons]
    omega
theorem clF_wts (n:Int) (t:Bool) (s:ByteArray): ∀ (l:List S81) (i:Nat),(∀ y ∈ l,y.f1.length≤2)→wts (clF n t s l i)≤27*l.length∧(clF n t s l i).length≤22*l.length
  | [],_,_=>by simp[clF,wts]
  | y :: l,i,h=>by
    obtain⟨h1,h1'⟩:=clF_wts n t s l (i+1) (fun z hz=>h z (List.mem_cons_of_mem _ hz))
    have h2:=rlF_wts (cN s i) (cZ s i) y.f1 0
    have h2':=crF_len s y i
    have h3:=h y List.mem_cons_self
    rw[clF,wts_app,List.length_append,List.length_cons]
    split
    · rw[crF,wts_app,wts_cons,wts_cons,wt_lp,wt_lw 8 _ (by omega)]
      rw[crF]at h2'
      have:wts ([] :List S104)=0:=rfl
      omega
    · have:wts ([] :List S104)=0:=rfl
      simp only[List.length_nil]
      omega
/-- All rules name numbers: the chain of the others is bare. -/
theorem clF_none (s:ByteArray): ∀ (l:List S81) (i:Nat),(∀ y ∈ l,y.f0.length≠0)→clF 0 true s l i= []
  | [],_,_=>rfl
  | y :: l,i,h=>by
    have h1:=h y List.mem_cons_self
    rw[clF,clF_none s l (i+1) (fun z hz=>h z (List.mem_cons_of_mem _ hz))]
    have:inC 0 true y=false:=by rw[inC,decide_eq_false h1];rfl
    rw[this]
    rfl
theorem tlF_wts (b c:Int) (R:List S81) (W:Int) (hW: ∀ n s,wts (chF b c R n false s)≤55∧(chF b c R n false s).length≤45) (hW0: ∀ s,wts (chF b c R 0 true s)≤W∧(chF b c R 0 true s).length≤45) (hW1:0≤W): ∀ (m:Nat) (l:List Int) (s:ByteArray),l.length≤m→∃ k:Nat,k=l.length∧wts (tlF b c R m l s)≤W+(W+61)*k∧(tlF b c R m l s).length≤45+96*k∧(1≤k→wts (tlF b c R m l s)+3≤(W+61)*k∧(tlF b c R m l s).length+3≤96*k)
  | 0,l,s,h=>⟨0,by omega,by rw[tlF];have:=hW0 s;omega,by rw[tlF];have:=hW0 s;omega,fun h=>by omega⟩
  | m+1,l,s,h=>by
    rw[tlF]
    split
    · rename_i h0
      exact⟨0,by omega,by have:=hW0 s;omega,by have:=hW0 s;omega,fun h=>by omega⟩
    · split
      · rename_i h0 h1
        have g1:=hW (rd l 0) (s ++ (⟨#[121]⟩ :ByteArray))
        have g2:=hW0 (s ++ (⟨#[120]⟩ :ByteArray))
        simp only[wts_app,wts_cons,wt_lp,wt_la 3 _ _ _ (show(3:Int)≤3∧(3:Int)≤6 by omega),List.length_append,List.length_cons,List.length_nil]
        have:wts ([] :List S104)=0:=rfl
        refine⟨1,h1.symm,?_,?_,fun _=>⟨?_,?_⟩⟩ <;> omega
      · rename_i h0 h1
        have hp:(l.take (l.length / 2)).length=l.length / 2:=by rw[List.length_take];omega
        have hq:(l.drop (l.length / 2)).length=l.length - l.length / 2:=List.length_drop
        obtain⟨k1,e1,_,_,g1⟩:=tlF_wts b c R W hW hW0 hW1 m (l.take (l.length / 2)) (s ++ (⟨#[108]⟩ :ByteArray)) (by omega)
        obtain⟨k2,e2,_,_,g2⟩:=tlF_wts b c R W hW hW0 hW1 m (l.drop (l.length / 2)) (s ++ (⟨#[104]⟩ :ByteArray)) (by omega)
        obtain⟨g1,g1'⟩:=g1 (by omega)
        obtain⟨g2,g2'⟩:=g2 (by omega)
        simp only[wts_app,wts_cons,wt_lp,wt_la 5 _ _ _ (show(3:Int)≤5∧(5:Int)≤6 by omega),List.length_append,List.length_cons,List.length_nil]
        have:wts ([] :List S104)=0:=rfl
        have hk:k1+k2=l.length:=by omega
        have hd:(W+61)*((k1+k2:Nat):Int)=(W+61)*(k1:Int)+(W+61)*(k2:Int):=by rw[Int.natCast_add,Int.mul_add]
        refine⟨k1+k2,hk,?_,?_,fun _=>⟨?_,?_⟩⟩
        · rw[hd];omega
        · omega
        · rw[hd];omega
        · omega
/-- The lines of a tree end with a ret. -/
theorem tlF_end (b c:Int) (R:List S81): ∀ (m:Nat) (l:List Int) (s:ByteArray),∃ (F:List S104) (v:Int),tlF b c R m l s=F ++ [lw 8 v]
  | 0,l,s=>⟨_,_,by rw[tlF,chF]⟩
  | m+1,l,s=>by
    rw[tlF]
    split
    · exact⟨_,_,by rw[chF]⟩
    · split
      · exact⟨_,_,by rw[show chF b c R 0 true (s ++ (⟨#[120]⟩ :ByteArray))=clF 0 true (s ++ (⟨#[120]⟩ :ByteArray)) R 0 ++ [lw 8 (resV b c)]from rfl,← List.append_assoc]⟩
      · obtain⟨F,v,e⟩:=tlF_end b c R m (l.drop (l.length / 2)) (s ++ (⟨#[104]⟩ :ByteArray))
        exact⟨_,v,by rw[e,← List.append_assoc]⟩
/-- A policy of few rules always becomes a program. -/
theorem small_run (b c:Int) (hb:0≤b∧b≤5) (hc:0≤c∧c≤65535) (R:List S81) (hR:R.length≤2) (hr: ∀ y ∈ R,RuleR y.f0 y.f1 y.f2 y.f3∧y.f0.length≤3∧y.f1.length≤2) :
    ∃ P:List S34,Evt (fun k=>impl_Compile.f k 62 b c R) (P,0)∧3<P.length∧∀ {a n:Int} {w:List S93},CallR a n w→∃ s',Evt (fun k=>spec_Run.f k P a n w) (if a=62 then decC n false w (resV b c) R else 0,s'):=by
  have hl2: ∀ y ∈ R,y.f0.length≤1048576∧y.f1.length≤9:=fun y hy=>by have:=hr y hy;omega
  have hcr: ∀ y ∈ R,∀ c ∈ y.f1,CR c:=fun y hy=>(hr y hy).1.2.1
  have hf2: ∀ y ∈ R,y.f1.length≤2:=fun y hy=>(hr y hy).2.2
  have hrr: ∀ y ∈ R,RR y:=fun y hy=>⟨hcr y hy,(hl2 y hy).2,(hr y hy).1.2.2.2.2.1,(hr y hy).1.2.2.2.2.2⟩
  obtain⟨N,_,hN,hNs,hNm,_,hNi⟩:=numsOf 62 b c R (by omega) (fun y hy=>(hl2 y hy).1)
  have s0:=sumLe (fun y=>y.f0.length) 3 R fun y hy=>(hr y hy).2.1
  have hN6:N.length≤6:=by omega
  have hNr: ∀ v ∈ N,0≤v∧v≤4294967295:=fun v hv=>by
    obtain⟨y,hy,hvy⟩:=List.mem_flatMap.1 ((hNm v).1 hv)
    obtain⟨i,hi,e⟩:=List.mem_iff_getElem.1 hvy
    have:=(hr y hy).1.1.1 i hi
    rw[e]at this
    exact this
  have hO:=pol_eq 62 b c R (by omega) hl2 N (by omega) hNi
  have hok:=plF_ok b c R hb hc (by omega) hrr 62 (by omega) N hN6 hNr
  obtain⟨F,v,hend⟩:=tlF_end b c R N.length N (⟨#[116]⟩ :ByteArray)
  -- how long, and how many words
  have W1: ∀ n s,wts (chF b c R n false s)≤55∧(chF b c R n false s).length≤45:=fun n s=>by
    have:=clF_wts n false s R 0 hf2
    rw[chF,wts_app,wts_cons,wt_lw 8 _ (by omega),List.length_append,List.length_singleton]
    have:wts ([] :List S104)=0:=rfl
    omega
  have W0: ∀ s,wts (chF b c R 0 true s)≤55∧(chF b c R 0 true s).length≤45:=fun s=>by
    have:=clF_wts 0 true s R 0 hf2
    rw[chF,wts_app,wts_cons,wt_lw 8 _ (by omega),List.length_append,List.length_singleton]
    have:wts ([] :List S104)=0:=rfl
    omega
  have few:wts (tlF b c R N.length N (⟨#[116]⟩ :ByteArray))≤390∧(tlF b c R N.length N (⟨#[116]⟩ :ByteArray)).length≤590:=by
    by_cases hall: ∀ y ∈ R,y.f0.length≠0
    · have W0': ∀ s,wts (chF b c R 0 true s)≤1∧(chF b c R 0 true s).length≤45:=fun s=>by
        refine⟨?_,(W0 s).2⟩
        rw[chF,clF_none s R 0 hall,wts_app,wts_cons,wt_lw 8 _ (by omega)]
        have:wts ([] :List S104)=0:=rfl
        omega
      obtain⟨k,e,_,h2,h3⟩:=tlF_wts b c R 1 W1 W0' (by omega) N.length N (⟨#[116]⟩ :ByteArray) (Nat.le_refl _)
      by_cases hk:1≤k
      · obtain⟨h3,h4⟩:=h3 hk
        omega
      · have hk0:k=0:=by omega
        subst hk0
        omega
    · have hN3:N.length≤3:=by
        have: ∃ y ∈ R,y.f0.length=0:=by
          refine Classical.byContradiction fun h=>hall fun y hy e=>h ⟨y,hy,e⟩
        obtain⟨y,hy,hy0⟩:=this
        match R,hR,hy,hN,hr with
        | [],_,hy,_,_=>exact absurd hy (by simp)
        | [x],_,hy,hN,hr=>
          have e:y=x:=by simpa using hy
          subst e
          simp only[List.map_cons,List.map_nil,List.sum_cons,List.sum_nil]at hN
          omega
        | [x,z],_,hy,hN,hr=>
          have hx:=(hr x (by simp)).2.1
          have hz:=(hr z (by simp)).2.1
          simp only[List.map_cons,List.map_nil,List.sum_cons,List.sum_nil]at hN
          rcases List.mem_cons.1 hy with e|e
          · subst e;omega
          · have e:y=z:=by simpa using e
            subst e
            omega
        | _ :: _ :: _ :: _,hR,_,_,_=>exact absurd hR (by simp)
      obtain⟨k,e,h1,h2,h3⟩:=tlF_wts b c R 55 W1 W0 (by omega) N.length N (⟨#[116]⟩ :ByteArray) (Nat.le_refl _)
      by_cases hk:1≤k
      · obtain⟨h3,h4⟩:=h3 hk
        omega
      · have hk0:k=0:=by omega
        subst hk0
        omega
  have hOw:wts ([lw 1 1,la 3 62 (⟨#[112]⟩ :ByteArray) (⟨#[113]⟩ :ByteArray),lp (⟨#[113]⟩ :ByteArray),lw 8 0,lp (⟨#[112]⟩ :ByteArray),lw 1 0] ++ tlF b c R N.length N (⟨#[116]⟩ :ByteArray):List S104)≤396:=by
    simp only[wts_app,wts_cons,wt_lp,wt_lw 1 _ (show(1:Int)=1∨(1:Int)=2∨(1:Int)=8 by omega),wt_lw 8 _ (show(8:Int)=1∨(8:Int)=2∨(8:Int)=8 by omega),wt_la 3 _ _ _ (show(3:Int)≤3∧(3:Int)≤6 by omega)]
    have:wts ([] :List S104)=0:=rfl
    omega
  have hOl:([lw 1 1,la 3 62 (⟨#[112]⟩ :ByteArray) (⟨#[113]⟩ :ByteArray),lp (⟨#[113]⟩ :ByteArray),lw 8 0,lp (⟨#[112]⟩ :ByteArray),lw 1 0] ++ tlF b c R N.length N (⟨#[116]⟩ :ByteArray):List S104).length≤596:=by
    simp only[List.length_append,List.length_cons,List.length_nil]
    omega
  have hOe: ∃ (G:List S104) (v:Int),([lw 1 1,la 3 62 (⟨#[112]⟩ :ByteArray) (⟨#[113]⟩ :ByteArray),lp (⟨#[113]⟩ :ByteArray),lw 8 0,lp (⟨#[112]⟩ :ByteArray),lw 1 0] ++ tlF b c R N.length N (⟨#[116]⟩ :ByteArray):List S104)=G ++ [lw 8 v]:=⟨_,v,by rw[hend,← List.append_assoc]⟩
  have hOp: ∃ G:List S104,([lw 1 1,la 3 62 (⟨#[112]⟩ :ByteArray) (⟨#[113]⟩ :ByteArray),lp (⟨#[113]⟩ :ByteArray),lw 8 0,lp (⟨#[112]⟩ :ByteArray),lw 1 0] ++ tlF b c R N.length N (⟨#[116]⟩ :ByteArray):List S104)= [lw 1 1,la 3 62 (⟨#[112]⟩ :ByteArray) (⟨#[113]⟩ :ByteArray),lp (⟨#[113]⟩ :ByteArray),lw 8 0,lp (⟨#[112]⟩ :ByteArray),lw 1 0] ++ G:=⟨_,rfl⟩
  have hrun: ∀ {L:List S104},L= [lw 1 1,la 3 62 (⟨#[112]⟩ :ByteArray) (⟨#[113]⟩ :ByteArray),lp (⟨#[113]⟩ :ByteArray),lw 8 0,lp (⟨#[112]⟩ :ByteArray),lw 1 0] ++ tlF b c R N.length N (⟨#[116]⟩ :ByteArray)→RL L→∀ {a n:Int} {w:List S93},CallR a n w→Ends L a n w 0 0 (if a=62 then decC n false w (resV b c) R else 0):=fun {L} e hRL {a n w} hcall=>pol_run hRL hcall hcr hNs hNm ⟨[],by rw[List.drop_zero,List.append_nil];exact e⟩
  generalize ([lw 1 1,la 3 62 (⟨#[112]⟩ :ByteArray) (⟨#[113]⟩ :ByteArray),lp (⟨#[113]⟩ :ByteArray),lw 8 0,lp (⟨#[112]⟩ :ByteArray),lw 1 0] ++ tlF b c R N.length N (⟨#[116]⟩ :ByteArray):List S104)=O at hO hOl hrun hok hOw hOe hOp
  replace hrun:=@hrun O rfl
  have hRL:=iRL (by omega) hok
  have h8: ∃ h:O.length - 1<O.length,O[O.length - 1].f1.f0=8:=by
    obtain⟨G,v,e⟩:=hOe
    subst e
    refine⟨by simp,?_⟩
    have:(G ++ [lw 8 v])[(G ++ [lw 8 v]).length - 1]'(by simp)=lw 8 v:=by simp
    rw[this]
    rfl
  have h1:1≤O.length:=by obtain⟨h,_⟩:=h8;omega
  obtain⟨o,P,hOk,hNr2,hLd,h4⟩:=layS O ⟨h1,hRL.n⟩ hRL.s hRL.i h8
  have hlen:=laid_len hOk hLd
  have z0:pre o 0=0:=by simp[pre]
  have up:=pre_wts hOk O.length (Nat.le_refl _)
  rw[List.take_length]at up
  have h400:P.length≤400:=by omega
  rw[if_pos h400]at h4
  -- at least six lines ahead, four of them words
  have lo:3<P.length:=by
    obtain⟨G,e⟩:=hOp
    have hlo:O.length=6+G.length:=by rw[e];simp;omega
    have g: ∀ j (hj:j<6),O[j]'(by omega)=([lw 1 1,la 3 62 (⟨#[112]⟩ :ByteArray) (⟨#[113]⟩ :ByteArray),lp (⟨#[113]⟩ :ByteArray),lw 8 0,lp (⟨#[112]⟩ :ByteArray),lw 1 0] :List S104)[j]'(by simpa using hj):=fun j hj=>by
      subst e
      exact List.getElem_append_left _
    obtain⟨q1,q2,q3,q4⟩:=hOk
    have w0:=q4 0 (by omega) (by omega) (by rw[g 0 (by omega)];show ¬ (3≤(1:Int)∧(1:Int)≤6);omega)
    have w1:=q3 1 (by omega) (by omega) (by rw[g 1 (by omega)];show 3≤(3:Int)∧(3:Int)≤6;omega)
    have w3:=q4 3 (by omega) (by omega) (by rw[g 3 (by omega)];show ¬ (3≤(8:Int)∧(8:Int)≤6);omega)
    have w5:=q4 5 (by omega) (by omega) (by rw[g 5 (by omega)];show ¬ (3≤(1:Int)∧(1:Int)≤6);omega)
    rw[g 0 (by omega)]at w0
    rw[g 3 (by omega)]at w3
    rw[g 5 (by omega)]at w5
    have w0:o[0]'(by omega)=1:=w0
    have w3:o[3]'(by omega)=1:=w3
    have w5:o[5]'(by omega)=1:=w5
    have b2:=(q2 2 (by omega)).1
    have b4:=(q2 4 (by omega)).1
    have p1:pre o 1=pre o 0+o[0]'(by omega):=pre_succ (show 0<o.length by omega)
    have p2:pre o 2=pre o 1+o[1]'(by omega):=pre_succ (show 1<o.length by omega)
    have p3:pre o 3=pre o 2+o[2]'(by omega):=pre_succ (show 2<o.length by omega)
    have p4:pre o 4=pre o 3+o[3]'(by omega):=pre_succ (show 3<o.length by omega)
    have p5:pre o 5=pre o 4+o[4]'(by omega):=pre_succ (show 4<o.length by omega)
    have p6:pre o 6=pre o 5+o[5]'(by omega):=pre_succ (show 5<o.length by omega)
    have mono:pre o 6≤pre o O.length:=pre_mono q2 (by omega) (by omega)
    omega
  obtain⟨hP,hgo⟩:=run_words hRL h8 h4
  obtain⟨⟨P2,q⟩,hPl,hLs,K3,h3⟩:=layout O (by omega)
  have e2:=hLs.uniq h4
  simp only[Prod.mk.injEq]at e2
  obtain⟨rfl,rfl⟩:=e2
  obtain⟨K1,g1⟩:=polT 62 b c R (by omega) hb hc (by omega) (fun y hy=>(hr y hy).1)
  obtain⟨K2,g2⟩:=hO
  dsimp only at g1 g2 h3
  have h600: ¬ (O.length:Int)>600:=by omega
  refine⟨P2,⟨K1+K2+K3,fun k hk=>?_⟩,lo,fun hcall=>?_⟩
  · dsimp only
    simp only[impl_Compile.f,g1 k (by omega),g2 k (by omega),h3 k (by omega),Option.bind_some,if_true,if_neg h600]
  · obtain⟨s',_,h⟩:=hgo hcall (hrun hRL hcall)
    exact⟨s',h⟩
theorem sameNs (l:List Int) (hl:l.length≤4611686018427387904):Evt (fun k=>laws_sameInts.f k l l) true:=by
  have h:Evt (fun k=>laws_sameInts.l0 k l l ((0:Nat):Int)) true:=by
    refine down (T:=fun i=>Evt (fun k=>laws_sameInts.l0 k l l (i:Int)) true) (n:=l.length) ?_ ?_ l.length 0 (by omega)
    · have n0: ¬ ((l.length:Nat):Int)<(l.length:Int):=Int.lt_irrefl _
      exact .succ (.const fun k=>by simp only[laws_sameInts.l0,if_neg n0])
    · intro i hi ⟨K,h⟩
      dsimp only at h
      have p1:(i:Int)<(l.length:Int):=by omega
      have p0:(0:Int)≤(i:Int):=by omega
      refine .succ ⟨K,fun k hk=>?_⟩
      simp only[laws_sameInts.l0,if_pos p1,if_pos p0,if_true,wsucc hi (show l.length≤9223372036854775807 by omega)]
      exact h k hk
  obtain⟨K,h⟩:=h
  refine⟨K,fun k hk=>?_⟩
  have q:laws_sameInts.l0 k l l 0=some true:=h k hk
  simp only[laws_sameInts.f,if_true,q]
theorem small_j0 (b c:Int) (hb:0≤b∧b≤5) (hc:0≤c∧c≤65535) (R:List S81) (hR:R.length≤2) (hr: ∀ y ∈ R,RuleR y.f0 y.f1 y.f2 y.f3∧y.f0.length≤3∧y.f1.length≤2) (a n:Int) (w:List S93) (hw3:w.length=3) (hw: ∀ y ∈ w,(0≤y.f0∧y.f0≤4294967295)∧(0≤y.f1∧y.f1≤4294967295)):Evt (fun k=>laws_FnCompilesSmall.j0 k 62 b c R a n w) true:=by
  have hl2: ∀ y ∈ R,y.f0.length≤1048576∧y.f1.length≤9:=fun y hy=>by have:=hr y hy;omega
  obtain⟨P,⟨K1,h1⟩,hP3,hgo⟩:=small_run b c hb hc R hR hr
  obtain⟨N,_,hN,hNs,hNm,⟨K2,h2⟩,⟨K3,h3⟩⟩:=numsOf 62 b c R (by omega) (fun y hy=>(hl2 y hy).1)
  have s0:=sumLe (fun y=>y.f0.length) 3 R fun y hy=>(hr y hy).2.1
  have hNr: ∀ v ∈ N,0≤v∧v≤4294967295:=fun v hv=>by
    obtain⟨y,hy,hvy⟩:=List.mem_flatMap.1 ((hNm v).1 hv)
    obtain⟨i,hi,e⟩:=List.mem_iff_getElem.1 hvy
    have:=(hr y hy).1.1.1 i hi
    rw[e]at this
    exact this
  obtain⟨K4,h4⟩:=sameNs N (by omega)
  have hpol:=polTS b c hb hc R (by omega) hr
  dsimp only at h1 h2 h3 h4
  have hl3:(P.length:Int)>3:=by omega
  have key:=down (T:=fun i=> ∀ u:Int,Evt (fun k=>laws_FnCompilesSmall.l0 k P 0 (77 :: N) (i:Int) 62 b c R 62 u w) true) (n:=(77 :: N).length) ?_ ?_ (77 :: N).length 0 (by omega) n
  · obtain⟨K5,h5⟩:=key
    have h5: ∀ k,K5≤k→laws_FnCompilesSmall.l0 k P 0 (77 :: N) 0 62 b c R 62 n w=some true:=fun k hk=>h5 k hk
    have hlt:([77] :List Int).length+N.length<17592186044416:=by simp only[List.length_cons,List.length_nil];omega
    refine .succ ⟨K1+K2+K5,fun k hk=>?_⟩
    simp only[laws_FnCompilesSmall.j0,h1 k (by omega),h2 k (by omega),Option.bind_some,if_pos hlt,List.cons_append,List.nil_append]
    exact h5 k (by omega)
  · intro u
    refine .succ ⟨K2+K3+K4,fun k hk=>?_⟩
    simp only[laws_FnCompilesSmall.l0]
    rw[if_neg (by omega)]
    simp only[if_true,if_pos hl3,h2 k (by omega),h3 k (by omega),h4 k (by omega),Option.bind_some]
  · intro i hi ih u
    have hv:0≤(77 :: N)[i]∧(77 :: N)[i]≤4294967295:=by
      rcases List.mem_cons.1 (List.getElem_mem hi)with e|e
      · rw[e];omega
      · exact hNr _ e
    obtain⟨s',K5,h5⟩:=hgo (a:=62) (n:=(77 :: N)[i]) (w:=w) ⟨by omega,hv,hw3,hw⟩
    obtain⟨K6,h6⟩:=dec_eq 62 b c R (by omega) (fun y hy=>⟨by have:=hr y hy;omega,by have:=hr y hy;omega,(hr y hy).1.2.1⟩) hpol (a:=62) (b:=(77 :: N)[i]) (w:=w) ⟨by omega,hv,hw3,hw⟩
    obtain⟨K7,h7⟩:=ih (77 :: N)[i]
    rw[if_pos rfl]at h5 h6
    dsimp only at h5 h6 h7
    have hlN:(77 :: N).length≤1000:=by simp only[List.length_cons];omega
    refine .succ ⟨K5+K6+K7,fun k hk=>?_⟩
    simp only[laws_FnCompilesSmall.l0]
    rw[if_pos (by omega),if_pos (by omega),nrd (77 :: N) i hi,h5 k (by omega),h6 k (by omega),wsucc hi (by omega)]
    simp only[Option.bind_some,if_true]
    exact h7 k (by omega)
theorem main (l:List Int) (hl0:l.length≤maxLen): ∃ k,laws_FnCompilesSmall.f k l=some true:=by
  by_cases hb:(l.length:Int)>1048576
  · exact⟨0,by simp only[laws_FnCompilesSmall.f,laws_big.f,Option.bind_some,decide_eq_true hb,if_true]⟩
  have hl:l.length≤1048576:=by omega
  obtain⟨e,K0,h0⟩:=newC l hl
  obtain⟨b,c,R,p1,e1,⟨K1,h1⟩,⟨hb1,hc1⟩,hR,hr,hp1⟩:=polR hl 0 e (by omega)
  obtain⟨a,n,w,p2,e2,⟨K2,h2⟩,⟨ha,hn,hw3,hw⟩,_⟩:=callR hl p1 e1 hp1
  dsimp only at h0 h1 h2
  have hd: ∀ k,K0≤k→K1≤k→K2≤k→spec_DrawPolicy.f k l=some (62,b,c,R,a,n,w):=fun k k0 k1 k2=>by
    simp only[spec_DrawPolicy.f,h0 k k0,h1 k k1,h2 k k2,Option.bind_some]
  by_cases h:(R.length:Int)>2
  · have hge:(2:Int)≤(R.length:Int):=by omega
    obtain⟨K3,h3⟩:=small_j0 b c hb1 hc1 (R.take (2:Int).toNat) (by rw[List.length_take];show min 2 _≤2;omega) (fun y hy=>hr y (List.mem_of_mem_take hy)) a n w hw3 hw
    dsimp only at h3
    exact⟨K0+K1+K2+K3,by simp only[laws_FnCompilesSmall.f,laws_big.f,decide_eq_false hb,Bool.false_eq_true,if_false,hd _ (show K0≤K0+K1+K2+K3 by omega) (by omega) (by omega),Option.bind_some,if_pos h,if_pos hge,h3 _ (show K3≤K0+K1+K2+K3 by omega)]⟩
  · obtain⟨K3,h3⟩:=small_j0 b c hb1 hc1 R (by omega) hr a n w hw3 hw
    dsimp only at h3
    exact⟨K0+K1+K2+K3,by simp only[laws_FnCompilesSmall.f,laws_big.f,decide_eq_false hb,Bool.false_eq_true,if_false,hd _ (show K0≤K0+K1+K2+K3 by omega) (by omega) (by omega),Option.bind_some,if_neg h,h3 _ (show K3≤K0+K1+K2+K3 by omega)]⟩

end Go.Proofs.Ytpbalojiaghfhaa.PFnCompilesSmall
end
