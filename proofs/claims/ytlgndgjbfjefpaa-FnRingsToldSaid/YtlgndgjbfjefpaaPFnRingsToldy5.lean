import Derived.Test.YtlgndgjbfjefpaaPFnRingsToldy0
namespace Go.Proofs.Ytlgndgjbfjefpaa.PFnRingsTold
open Go.RowKit Go.Proofs.YtlgndgjbfjefpaaW.PrintWords Go.Proofs.YtlgndgjbfjefpaaW.PrintLast Go.Proofs.YtlgndgjbfjefpaaW.PrintMore Go.Proofs.YtlgndgjbfjefpaaW.Z
open Kd
attribute [local go_sem] isS max2_int min2_int max_two min_two max_three min_three max_four min_four
set_option linter.unusedVariables false
set_option linter.unusedSimpArgs false
/-- A state of type 161 at block g of W; what its slices lead to came in by w0. -/
def IsS161 (w0 W:World) (g:Nat) (f0:List Int) (f1:Int) (f2:Int):Prop:= ∃ b c,W.heap[g]?=some (.cells #[.slice b f0.length c,.int .i64 f1,.int .i64 f2] 161 (0,0))∧w0.heap.size≤g∧Kd.C (Kd.int .u8) w0 b f0.length f0
theorem IsS161.grown {w0 W:World} {g:Nat} {f0:List Int} {f1:Int} {f2:Int} {W1:World} {row:Option Nat} (h:IsS161 w0 W g f0 f1 f2) (hw:W.grownBy W1 row) (hne:some g≠row):IsS161 w0 W1 g f0 f1 f2:=by
  obtain⟨b,c,hb,hg,s⟩:=h
  exact⟨b,c,blk_grown hb hw hne,hg,s⟩
theorem IsS161.own_neN {w0 W:World} {g:Nat} {f0:List Int} {f1:Int} {f2:Int} {α:Type} {d:Kd α} {e:Nat} {base:Nat} {ok:Nat→Prop} {v:Value} {xs:List α} (h:IsS161 w0 W g f0 f1 f2) (ho:Kd.N d e W base ok v xs) (ht:e≠161):some g≠v.ownBlock:=by
  obtain⟨b,c,hb,hg,s⟩:=h
  exact N_ne ho hb ht
theorem IsS161.fresh {w0 W:World} {g:Nat} {f0:List Int} {f1:Int} {f2:Int} (h:IsS161 w0 W g f0 f1 f2): ∀ k,W.heap.size≤k→k≠g:=by
  obtain⟨b,c,hb,hg,s⟩:=h
  exact Kd.freshB hb
theorem IsS161.kept {w0 W:World} {g:Nat} {f0:List Int} {f1:Int} {f2:Int} {W1:World} {S:Nat→Prop} (h:IsS161 w0 W g f0 f1 f2) (hk:Kept W W1 S) (hne: ¬ S g):IsS161 w0 W1 g f0 f1 f2:=by
  obtain⟨b,c,hb,hg,s⟩:=h
  exact⟨b,c,blk_kept hb hk hne,hg,s⟩
theorem IsS161.below {w0 W:World} {g:Nat} {f0:List Int} {f1:Int} {f2:Int} {W1:World} (h:IsS161 w0 W g f0 f1 f2) (hw:Below W.heap.size W W1):IsS161 w0 W1 g f0 f1 f2:=h.grown (grown_of_below hw none) (by simp)
theorem IsS161.alloc {w0 W:World} {g:Nat} {f0:List Int} {f1:Int} {f2:Int} (h:IsS161 w0 W g f0 f1 f2) (o:Obj):IsS161 w0 (W.alloc o) g f0 f1 f2:=h.below (below_alloc (Below.refl _ _) o)
theorem IsS161.drewN {w0 W:World} {g:Nat} {f0:List Int} {f1:Int} {f2:Int} (h:IsS161 w0 W g f0 f1 f2) (m:Nat):IsS161 w0 (W.drewN m) g f0 f1 f2:=h
theorem IsS161.drew {w0 W:World} {g:Nat} {f0:List Int} {f1:Int} {f2:Int} (h:IsS161 w0 W g f0 f1 f2):IsS161 w0 W.drew g f0 f1 f2:=h
theorem IsS161.at_ {w0 W:World} {g:Nat} {f0:List Int} {f1:Int} {f2:Int} {w':World} {m:Nat} (hq:W.drewN m=w') (h:IsS161 w0 W g f0 f1 f2):IsS161 w0 w' g f0 f1 f2:=by subst hq;exact IsS161.drewN h m
theorem IsS161.apart {w0 W:World} {g:Nat} {f0:List Int} {f1:Int} {f2:Int} {α:Type} {d:Kd α} {e:Nat} {base:Nat} {ok:Nat→Prop} {v:Value} {xs:List α} (h:IsS161 w0 W g f0 f1 f2) (ho:d.R e W base ok v xs) (ht: ∀ q,q ∈ e :: d.E→q≠161):d.R e W base (fun k=>ok k∧k≠g) v xs:=by
  obtain⟨b,c,hb,hg,s⟩:=h
  exact R_types ho hb ht
theorem IsS161.own_ne {w0 W:World} {g:Nat} {f0:List Int} {f1:Int} {f2:Int} {α:Type} {d:Kd α} {e:Nat} {base:Nat} {ok:Nat→Prop} {v:Value} {xs:List α} (h:IsS161 w0 W g f0 f1 f2) (ho:d.R e W base ok v xs) (ht:e≠161):some g≠v.ownBlock:=by
  obtain⟨b,c,hb,hg,s⟩:=h
  exact R_ne ho hb ht
theorem IsS161.apartQ {w0 W:World} {g:Nat} {f0:List Int} {f1:Int} {f2:Int} {α:Type} {d:Kd α} {e:Nat} {base:Nat} {ok:Nat→Prop} {v:Value} {xs:List α} (h:IsS161 w0 W g f0 f1 f2) (ho:d.Q e W base ok v xs) (ht: ∀ q,q ∈ e :: d.E→q≠161):d.Q e W base (fun k=>ok k∧k≠g) v xs:=by
  obtain⟨b,c,hb,hg,s⟩:=h
  exact Q_types ho hb ht
theorem IsS161.own_neQ {w0 W:World} {g:Nat} {f0:List Int} {f1:Int} {f2:Int} {α:Type} {d:Kd α} {e:Nat} {base:Nat} {ok:Nat→Prop} {v:Value} {xs:List α} (h:IsS161 w0 W g f0 f1 f2) (ho:d.Q e W base ok v xs) (ht:e≠161):some g≠v.ownBlock:=by
  obtain⟨b,c,hb,hg,s⟩:=h
  exact Q_ne ho hb ht
theorem IsS161.apartS {w0 W:World} {g:Nat} {f0:List Int} {f1:Int} {f2:Int} {α:Type} {d:Kd α} {e:Nat} {base:Nat} {ok:Nat→Prop} {v:Value} {xs:List α} (h:IsS161 w0 W g f0 f1 f2) (ho:d.S e W base ok v xs) (ht: ∀ q,q ∈ e :: d.E→q≠161):d.S e W base (fun k=>ok k∧k≠g) v xs:=by
  obtain⟨b,c,hb,hg,s⟩:=h
  exact S_types ho hb ht
theorem IsS161.own_neS {w0 W:World} {g:Nat} {f0:List Int} {f1:Int} {f2:Int} {α:Type} {d:Kd α} {e:Nat} {base:Nat} {ok:Nat→Prop} {v:Value} {xs:List α} (h:IsS161 w0 W g f0 f1 f2) (ho:d.S e W base ok v xs) (ht:e≠161):some g≠v.ownBlock:=by
  obtain⟨b,c,hb,hg,s⟩:=h
  exact S_ne ho hb ht
theorem IsS161.lt {w0 W:World} {g:Nat} {f0:List Int} {f1:Int} {f2:Int} (h:IsS161 w0 W g f0 f1 f2):g<W.heap.size:=by
  obtain⟨b,c,hb,hg,s⟩:=h
  exact blk_lt hb
theorem IsS161.ge {w0 W:World} {g:Nat} {f0:List Int} {f1:Int} {f2:Int} (h:IsS161 w0 W g f0 f1 f2):w0.heap.size≤g:=by
  obtain⟨b,c,hb,hg,s⟩:=h
  exact hg
theorem IsS161.ne_blk {w0 W:World} {g:Nat} {f0:List Int} {f1:Int} {f2:Int} {a:Nat} {cs:Array Value} {t:TypeId} {fr:Nat×Nat} (h:IsS161 w0 W g f0 f1 f2) (hb2:W.heap[a]?=some (.cells cs t fr)) (ht:t≠161):g≠a:=by
  obtain⟨b,c,hb,hg,s⟩:=h
  rintro rfl
  rw[hb]at hb2
  injection hb2 with hb2
  injection hb2 with _ ht2
  exact ht ht2.symm
theorem IsS161.far {w0 W:World} {g:Nat} {f0:List Int} {f1:Int} {f2:Int} {p:Addr} (h:IsS161 w0 W g f0 f1 f2) (hne:g≠p.block) (u:Value):IsS161 w0 (W.setCell p u) g f0 f1 f2:=by
  obtain⟨b,c,hb,hg,s⟩:=h
  exact⟨b,c,blk_far hb hne u,hg,s⟩
theorem cellS161_0 {W:World} {g:Nat} {b:Option Addr} {c:Nat} {f0:List Int} {f1:Int} {f2:Int} (h:W.heap[g]?=some (.cells #[.slice b f0.length c,.int .i64 f1,.int .i64 f2] 161 (0,0))):W.cell? ⟨g,0,none⟩=some (.slice b f0.length c):=(blk_cell h 0).trans rfl
theorem cellS161_1 {W:World} {g:Nat} {b:Option Addr} {c:Nat} {f0:List Int} {f1:Int} {f2:Int} (h:W.heap[g]?=some (.cells #[.slice b f0.length c,.int .i64 f1,.int .i64 f2] 161 (0,0))):W.cell? ⟨g,1,none⟩=some (.int .i64 f1):=(blk_cell h 1).trans rfl
theorem IsS161.set_1 {w0 W:World} {g:Nat} {f0:List Int} {f1:Int} {f2:Int} (h:IsS161 w0 W g f0 f1 f2) (x:Int):IsS161 w0 (W.setCell ⟨g,1,none⟩ (.int .i64 x)) g f0 x f2:=by
  obtain⟨b,c,hb,hg,s⟩:=h
  exact⟨b,c,by simpa using blk_set hb 1 (.int .i64 x),hg,s⟩
theorem cellS161_2 {W:World} {g:Nat} {b:Option Addr} {c:Nat} {f0:List Int} {f1:Int} {f2:Int} (h:W.heap[g]?=some (.cells #[.slice b f0.length c,.int .i64 f1,.int .i64 f2] 161 (0,0))):W.cell? ⟨g,2,none⟩=some (.int .i64 f2):=(blk_cell h 2).trans rfl
theorem IsS161.set_2 {w0 W:World} {g:Nat} {f0:List Int} {f1:Int} {f2:Int} (h:IsS161 w0 W g f0 f1 f2) (x:Int):IsS161 w0 (W.setCell ⟨g,2,none⟩ (.int .i64 x)) g f0 f1 x:=by
  obtain⟨b,c,hb,hg,s⟩:=h
  exact⟨b,c,by simpa using blk_set hb 2 (.int .i64 x),hg,s⟩
theorem IsS161.new (w0 W:World) (b:Option Addr) (c:Nat) (f0:List Int) (f1:Int) (f2:Int) (hB:Below w0.heap.size w0 W) (s:Kd.C (Kd.int .u8) w0 b f0.length f0):IsS161 w0 (W.alloc (.cells #[.slice b f0.length c,.int .i64 f1,.int .i64 f2] 161)) W.heap.size f0 f1 f2:=⟨b,c,by simpa using heap_alloc_new W _,hB.size,s⟩
def spec_l01New.l0:Nat→List Int→Int→Int→Option (List Int×Int×Int)
  | 0,_,_,_=>none
  | k+1,ah,aE,ai=>if ai<(ah.length:Int)then(if ai<4000 then(if 0≤ai then(spec_l01New.l0 k ah (Go.bits .and .i64 (wrap64 ((wrap64 ((wrap64 (aE*131))+(wrap64 (rd ah ai))))+7)) 1073741823) (wrap64 (ai+1)))else(none))else(some (ah,0,aE)))else(some (ah,0,aE))
def spec_l01New.f (k:Nat) (D:List Int):Option (List Int×Int×Int):=spec_l01New.l0 k D (wrap64 (78801+(D.length:Int))) 0
theorem q5x0 {P:Prop} (h:P:=by repeat(first|(with_reducible first|exact HBW.out|apply below_alloc|apply pw_below_drewN|apply below_drew1)|exact HBW.out)):P:=h
theorem q5x1 {P:Prop} (h:P:=by repeat(first|(with_reducible first|exact HBW.out|apply below_alloc|apply pw_below_drewN|apply below_drew1|refine below_set ?_ (Aside0.out (by assumption)))|exact HBW.out)):P:=h
set_option maxHeartbeats 8000000 in
set_option maxRecDepth 100000 in
theorem spec_l01New.calls (k:Nat) (b:Option Addr) (c:Nat) (D:List Int) (r1:List Int) (r2:Int) (r3:Int) (w0 w:World) (hB:Below w0.heap.size w0 w) (s:Kd.C (Kd.int .u8) w0 b D.length D) (a4:D.length≤c) (h:spec_l01New.f k D=some (r1,r2,r3)) :
 Calls Try.prog 85 #[.slice b D.length c] w fun e w'=> ∃ g_:Nat,e= .returned (.pointer (some ⟨g_,0,none⟩))∧IsS161 w0 w' g_ r1 r2 r3∧Below w0.heap.size w0 w'∧Below w.heap.size w w':=by
 have hu161:=Try.underlying161;have HR0:=aM s;have HC0:=aM a4;clear s a4;have HBW:=rW w;have HW0:=aM hB.size;have HB:=aM hB;clear hB;have H:(spec_l01New.l0 k D (wrap64 (78801+(D.length:Int))) 0)=some (r1,r2,r3):=h;clear h;have H':=aM H;clear H;go_enter Try.func85,Try.ntmps85;go_wp2
 go_loopg [3,4] k (fun kq bo bp w'=> ∃ (aa:Int) (Y:Int),bo= .int .i64 aa∧bp= .int .i64 Y∧Aside0 (spec_l01New.l0 kq D aa Y=some (r1,r2,r3))∧Aside0 (kq≤k)∧Aside0 (Below w0.heap.size w0 w')∧Aside0 (Below w.heap.size w w'))
 case atStart=>exact⟨(wrap64 (78801+(D.length:Int))),(0),rS,rS,H',⟨Nat.le_refl _⟩,⟨cB⟩,⟨q5x0⟩⟩
 case round=>
  clear H' HBW;obtain⟨aa,Y,rfl,rfl,HA,HK1,HB,HBW⟩:=hrel
  cases gk with
  | zero=>exact absurd HA.out (by simp[spec_l01New.l0])
  | succ k1=>
   have H:=HA.out;clear HA;simp only[spec_l01New.l0]at H;by_cases i:Y<(D.length:Int)
   ·rw[if_pos i]at H;have ae:=decide_eq_true i;clear i;by_cases L:Y<4000
    ·rw[if_pos L]at H;have au:=decide_eq_true L;clear L;replace H:=gD H;obtain⟨aj,H⟩:=H;have H':=aM H;clear H;have aG:0≤(Y:Int):=dA;have aH:Y<(D.length:Int):=dA;obtain⟨cI,bq,a5⟩:=at_int HR0.out Y aG aH;cases bq;replace a5:=pw_cell_below HB.out a5;replace aG:=eq_true aG;replace aH:=eq_true aH;go_wp2;go_roundg k1
     case measure=>exact oK
     case rel=>exact⟨(Go.bits .and .i64 (wrap64 ((wrap64 ((wrap64 (aa*131))+(wrap64 (rd D Y))))+7)) 1073741823),(wrap64 (Y+1)),rS,rS,H',⟨oK⟩,⟨cB⟩,⟨q5x0⟩⟩
    ·rw[if_neg L]at H;have au:=decide_eq_false L;clear L;simp only[Option.some.injEq,Prod.mk.injEq]at H;obtain⟨rfl,rfl,rfl⟩:=H
     go_wp2_with (first|((with_reducible refine gN 31 ?_);refine boxZ 31 #[.slice b D.length c,.int .i64 0,.int .i64 aa] 161 ?_;intro av hg br hbox hb;replace HB:=sB hb;have bs:=aM hbox;have GW179:=aM ((by rw[hg];exact(below_size q5x0):w.heap.size≤av));have GE179:=aM ((Nat.le_trans HW0.out (by rw[hg];exact(below_size q5x0):w.heap.size≤av):w0.heap.size≤av));replace HBW:=aM (below_step HBW.out hb);clear hb hbox hg))
     go_ret
     exact⟨_,rfl,(show IsS161 w0 _ av D 0 aa from ⟨_,_,kS bs _,GE179.out,HR0.out⟩),cB,q5x1⟩
   ·rw[if_neg i]at H;have ae:=decide_eq_false i;clear i;simp only[Option.some.injEq,Prod.mk.injEq]at H;obtain⟨rfl,rfl,rfl⟩:=H
    go_wp2_with (first|((with_reducible refine gN 31 ?_);refine boxZ 31 #[.slice b D.length c,.int .i64 0,.int .i64 aa] 161 ?_;intro aw hg bu hbox hb;replace HB:=sB hb;have bv:=aM hbox;have GW180:=aM ((by rw[hg];exact(below_size q5x0):w.heap.size≤aw));have GE180:=aM ((Nat.le_trans HW0.out (by rw[hg];exact(below_size q5x0):w.heap.size≤aw):w0.heap.size≤aw));replace HBW:=aM (below_step HBW.out hb);clear hb hbox hg))
    go_ret
    exact⟨_,rfl,(show IsS161 w0 _ aw D 0 aa from ⟨_,_,kS bv _,GE180.out,HR0.out⟩),cB,q5x1⟩
def spec_l01Byte.f (s0_0:List Int) (s0_1:Int) (s0_2:Int):Option (Int×Int×Int):=if s0_1<(s0_0.length:Int)then(if 0≤s0_1 then(some (Go.bits .and .i64 (wrap64 ((Go.bits .and .i64 (Go.bits .xor .i64 ((wrap64 ((wrap64 (s0_2*6364136223846793005))+1442695040888963407)) / 8589934592) ((wrap64 ((wrap64 (s0_2*6364136223846793005))+1442695040888963407)) / 35184372088832)) 255)+(wrap64 (rd s0_0 s0_1)))) 255,wrap64 (s0_1+1),wrap64 ((wrap64 (s0_2*6364136223846793005))+1442695040888963407)))else(none))else(some (Go.bits .and .i64 (Go.bits .xor .i64 ((wrap64 ((wrap64 (s0_2*6364136223846793005))+1442695040888963407)) / 8589934592) ((wrap64 ((wrap64 (s0_2*6364136223846793005))+1442695040888963407)) / 35184372088832)) 255,s0_1,wrap64 ((wrap64 (s0_2*6364136223846793005))+1442695040888963407)))
theorem q5x2 {P:Prop} (h:P:=by repeat(first|(with_reducible first|exact HI0.out|apply IsS161.alloc|apply IsS161.drewN|apply IsS161.drew|apply IsS161.set_1|apply IsS161.set_2)|exact HI0.out)):P:=h
theorem q5x3 {P:Prop} (h:P:=by repeat(first|(with_reducible first|exact HB.out|apply below_alloc|apply pw_below_drewN|apply below_drew1|refine below_set ?_ (IsS161.ge HI0.out))|exact HB.out)):P:=h
set_option maxHeartbeats 8000000 in
set_option maxRecDepth 100000 in
theorem spec_l01Byte.calls (g:Nat) (s0_0:List Int) (s0_1:Int) (s0_2:Int) (r1:Int) (r2:Int) (r3:Int) (w0 w:World) (hI:IsS161 w0 w g s0_0 s0_1 s0_2) (hB:Below w0.heap.size w0 w) (h:spec_l01Byte.f s0_0 s0_1 s0_2=some (r1,r2,r3)) :
 Calls Try.prog 86 #[.pointer (some ⟨g,0,none⟩)] w fun e w'=>e= .returned (.int .i64 r1)∧IsS161 w0 w' g s0_0 r2 r3∧Below w0.heap.size w0 w'∧KeepBut w w' g none:=by
 have HI0:=aM hI;have HK:=aM (KeepBut.refl w g none);have HL:=aM hB.size;clear hI;have HW0:=aM hB.size;have HB:=aM hB;clear hB;have H:(if s0_1<(s0_0.length:Int)then(if 0≤s0_1 then(some (Go.bits .and .i64 (wrap64 ((Go.bits .and .i64 (Go.bits .xor .i64 ((wrap64 ((wrap64 (s0_2*6364136223846793005))+1442695040888963407)) / 8589934592) ((wrap64 ((wrap64 (s0_2*6364136223846793005))+1442695040888963407)) / 35184372088832)) 255)+(wrap64 (rd s0_0 s0_1)))) 255,wrap64 (s0_1+1),wrap64 ((wrap64 (s0_2*6364136223846793005))+1442695040888963407)))else(none))else(some (Go.bits .and .i64 (Go.bits .xor .i64 ((wrap64 ((wrap64 (s0_2*6364136223846793005))+1442695040888963407)) / 8589934592) ((wrap64 ((wrap64 (s0_2*6364136223846793005))+1442695040888963407)) / 35184372088832)) 255,s0_1,wrap64 ((wrap64 (s0_2*6364136223846793005))+1442695040888963407))))=some (r1,r2,r3):=h;clear h;by_cases i:s0_1<(s0_0.length:Int)
 ·rw[if_pos i]at H;have ae:=decide_eq_true i;clear i;replace H:=gD H;obtain⟨au,H⟩:=H;simp only[Option.some.injEq,Prod.mk.injEq]at H;obtain⟨rfl,rfl,rfl⟩:=H;obtain⟨ASz4_0,cSz4_0,HGz4,hgz4,HSz4_0⟩:=HI0.out;have bw:=cellS161_0 HGz4;have bx:=cellS161_1 HGz4;have bz:=cellS161_2 HGz4;have bA:=blk_frozen HGz4 1;have bB:=blk_frozen HGz4 2;clear HGz4 hgz4;have aI:0≤(s0_1:Int):=dA;have aJ:s0_1<(s0_0.length:Int):=dA;obtain⟨bC,bD,af⟩:=at_int HSz4_0 s0_1 aI aJ;cases bD
  have ax:bC.block≠g:=Nat.ne_of_lt (Nat.lt_of_lt_of_le (by have:=World.block_lt_of_cell? _ _ af;first|rwa [add_block]at this|exact this) (IsS161.ge HI0.out))
  replace af:=pw_cell_below HB.out af
  replace af:=(cell_far (p:=⟨g,2,none⟩) (by first|(rw[add_block];exact ax)|(show(Addr.add _ _).block≠_;rw[add_block];exact ax)|exact ax) (.int .i64 (wrap64 ((wrap64 (s0_2*6364136223846793005))+1442695040888963407)))).trans af
  (try have hy181_0:=fun (n_:Nat)=>(show(((w.drewN n_).setCell ⟨g,2,none⟩ (.int .i64 (wrap64 ((wrap64 (s0_2*6364136223846793005))+1442695040888963407))))).cell? _=some _ from af))
  clear ax;replace aI:=eq_true aI;replace aJ:=eq_true aJ;go_enter Try.func86,Try.ntmps86;go_wp2
  repeat(go_quiet (fail);try go_wp2)
  go_ret;exact⟨rE,q5x2,q5x3,cK⟩
 ·rw[if_neg i]at H;have ae:=decide_eq_false i;clear i;simp only[Option.some.injEq,Prod.mk.injEq]at H;obtain⟨rfl,rfl,rfl⟩:=H;obtain⟨ASz5_0,cSz5_0,HGz5,hgz5,HSz5_0⟩:=HI0.out;have cJ:=cellS161_0 HGz5;have cL:=cellS161_1 HGz5;have cM:=cellS161_2 HGz5;have cN:=blk_frozen HGz5 1;have cO:=blk_frozen HGz5 2;clear HGz5 hgz5;go_enter Try.func86,Try.ntmps86;go_wp2
  repeat(go_quiet (fail);try go_wp2)
  go_ret;exact⟨rE,q5x2,q5x3,cK⟩
def spec_l01Below.f (s0_0:List Int) (s0_1:Int) (s0_2:Int) (z:Int):Option (Int×Int×Int):=if z≤0 then(some (0,s0_1,s0_2))else(if z≤256 then((spec_l01Byte.f s0_0 s0_1 s0_2).bind fun aK=>(if z=0 then(none)else(some (Int.tmod aK.1 z,aK.2.1,aK.2.2))))else((spec_l01Byte.f s0_0 s0_1 s0_2).bind fun aN=>((spec_l01Byte.f s0_0 aN.2.1 aN.2.2).bind fun aP=>((spec_l01Byte.f s0_0 aP.2.1 aP.2.2).bind fun aQ=>((spec_l01Byte.f s0_0 aQ.2.1 aQ.2.2).bind fun aT=>(if z=0 then(none)else(some (Int.tmod (wrap64 ((wrap64 ((wrap64 ((wrap64 (aN.1*16777216))+(wrap64 (aP.1*65536))))+(wrap64 (aQ.1*256))))+aT.1)) z,aT.2.1,aT.2.2))))))))
set_option maxHeartbeats 8000000 in
set_option maxRecDepth 100000 in
theorem spec_l01Below.calls (g:Nat) (s0_0:List Int) (s0_1:Int) (s0_2:Int) (z:Int) (r1:Int) (r2:Int) (r3:Int) (w0 w:World) (hI:IsS161 w0 w g s0_0 s0_1 s0_2) (hB:Below w0.heap.size w0 w) (h:spec_l01Below.f s0_0 s0_1 s0_2 z=some (r1,r2,r3)) :
 Calls Try.prog 87 #[.pointer (some ⟨g,0,none⟩),.int .i64 z] w fun e w'=>e= .returned (.int .i64 r1)∧IsS161 w0 w' g s0_0 r2 r3∧Below w0.heap.size w0 w'∧KeepBut w w' g none:=by
 have HI0:=aM hI;have HK:=aM (KeepBut.refl w g none);have HL:=aM hB.size;clear hI;have HW0:=aM hB.size;have HB:=aM hB;clear hB
 unfold spec_l01Below.f at h;have H:=h
 clear h;by_cases L:z≤0
 ·rw[if_pos L]at H;have au:=decide_eq_true L;clear L;simp only[Option.some.injEq,Prod.mk.injEq]at H;obtain⟨rfl,rfl,rfl⟩:=H;go_enter Try.func87,Try.ntmps87;go_wp2;go_ret;exact⟨rE,q5x2,q5x3,cK⟩
 ·rw[if_neg L]at H;have au:=decide_eq_false L;clear L;by_cases G:z≤256
  ·rw[if_pos G]at H;have aj:=decide_eq_true G;clear G;replace H:=bE H;obtain⟨⟨bF,bG,bH⟩,ay,H⟩:=H;(try dsimp only at H);by_cases ab:z=0
   ·rw[if_pos ab]at H;cases H
   ·rw[if_neg ab]at H;obtain⟨cP,cQ⟩:=eF ab;simp only[Option.some.injEq,Prod.mk.injEq]at H;obtain⟨rfl,rfl,rfl⟩:=H;go_enter Try.func87,Try.ntmps87
    go_wp2_with (first|((with_reducible refine gF 86 ?_);refine gX (some 14) Try.func86 (spec_l01Byte.calls g s0_0 s0_1 s0_2 bF bG bH w0 _ q5x2 q5x3 ay.out) ?_;rintro a6 ⟨hi,hb,hk⟩;replace HK:=tK (w:=w) hk;replace HB:=aM hb;replace HI0:=aM hi;(try clear hb);(try clear hk);(try clear hi)))
    go_ret;exact⟨rE,q5x2,q5x3,cK⟩
  ·rw[if_neg G]at H;have aj:=decide_eq_false G;clear G;replace H:=bE H;obtain⟨⟨bI,a7,a8⟩,bJ,H⟩:=H;(try dsimp only at H);replace H:=bE H;obtain⟨⟨bL,a9,ba⟩,bM,H⟩:=H;(try dsimp only at H);replace H:=bE H;obtain⟨⟨bN,bb,bd⟩,bO,H⟩:=H;(try dsimp only at H);replace H:=bE H;obtain⟨⟨bP,bQ,bR⟩,bS,H⟩:=H;(try dsimp only at H);by_cases aU:z=0
   ·rw[if_pos aU]at H;cases H
   ·rw[if_neg aU]at H;obtain⟨cR,cS⟩:=eF aU;simp only[Option.some.injEq,Prod.mk.injEq]at H;obtain⟨rfl,rfl,rfl⟩:=H;go_enter Try.func87,Try.ntmps87
    go_wp2_with (first|((with_reducible refine gF 86 ?_);refine gX (some 18) Try.func86 (spec_l01Byte.calls g s0_0 s0_1 s0_2 bI a7 a8 w0 _ q5x2 q5x3 bJ.out) ?_;rintro cT ⟨hi,hb,hk⟩;replace HK:=tK (w:=w) hk;replace HB:=aM hb;replace HI0:=aM hi;(try clear hb);(try clear hk);(try clear hi))|((with_reducible refine gF 86 ?_);refine gX (some 20) Try.func86 (spec_l01Byte.calls g s0_0 a7 a8 bL a9 ba w0 _ q5x2 q5x3 bM.out) ?_;rintro bT ⟨hi,hb,hk⟩;replace HK:=tK (w:=w) hk;replace HB:=aM hb;replace HI0:=aM hi;(try clear hb);(try clear hk);(try clear hi))|((with_reducible refine gF 86 ?_);refine gX (some 22) Try.func86 (spec_l01Byte.calls g s0_0 a9 ba bN bb bd w0 _ q5x2 q5x3 bO.out) ?_;rintro cU ⟨hi,hb,hk⟩;replace HK:=tK (w:=w) hk;replace HB:=aM hb;replace HI0:=aM hi;(try clear hb);(try clear hk);(try clear hi))|((with_reducible refine gF 86 ?_);refine gX (some 24) Try.func86 (spec_l01Byte.calls g s0_0 bb bd bP bQ bR w0 _ q5x2 q5x3 bS.out) ?_;rintro cV ⟨hi,hb,hk⟩;replace HK:=tK (w:=w) hk;replace HB:=aM hb;replace HI0:=aM hi;(try clear hb);(try clear hk);(try clear hi)))
    go_ret;exact⟨rE,q5x2,q5x3,cK⟩
def spec_l01PickInt.f (s0_0:List Int) (s0_1:Int) (s0_2:Int) (O:List Int):Option (Int×Int×Int):=(spec_l01Below.f s0_0 s0_1 s0_2 (O.length:Int)).bind fun ak=>(if 0≤ak.1 then(if ak.1<(O.length:Int)then(some (rd O ak.1,ak.2.1,ak.2.2))else(none))else(none))
set_option maxHeartbeats 8000000 in
set_option maxRecDepth 100000 in
theorem spec_l01PickInt.calls (g:Nat) (s0_0:List Int) (s0_1:Int) (s0_2:Int) (aV:Option Addr) (be:Nat) (O:List Int) (r1:Int) (r2:Int) (r3:Int) (w0 w:World) (hI:IsS161 w0 w g s0_0 s0_1 s0_2) (hB:Below w0.heap.size w0 w) (bf:Kd.C (Kd.int .i64) w aV O.length O) (bg:O.length≤be) (hf1: ∀ ad,aV=some ad→0<O.length→ad.block≠g) (h:spec_l01PickInt.f s0_0 s0_1 s0_2 O=some (r1,r2,r3)) :
 Calls Try.prog 93 #[.pointer (some ⟨g,0,none⟩),.slice aV O.length be] w fun e w'=>e= .returned (.int .i64 r1)∧IsS161 w0 w' g s0_0 r2 r3∧Below w0.heap.size w0 w'∧KeepBut w w' g none:=by
 have HR1:=aM bf;have HC1:=aM bg;clear bf bg;have HI0:=aM hI;have HK:=aM (KeepBut.refl w g none);have HL:=aM hB.size;clear hI;have HW0:=aM hB.size;have HB:=aM hB;clear hB
 unfold spec_l01PickInt.f at h;have H:=h
 clear h;replace H:=bE H;obtain⟨⟨az,bU,bV⟩,al,H⟩:=H;(try dsimp only at H);replace H:=gD H;obtain⟨aj,H⟩:=H;replace H:=gD H;obtain⟨cW,H⟩:=H;simp only[Option.some.injEq,Prod.mk.injEq]at H;obtain⟨rfl,rfl,rfl⟩:=H;go_enter Try.func93,Try.ntmps93
 go_wp2_with (first|((with_reducible refine gF 87 ?_);refine gX (some 9) Try.func87 (spec_l01Below.calls g s0_0 s0_1 s0_2 (O.length:Int) az bU bV w0 _ q5x2 q5x3 al.out) ?_;rintro bu ⟨hi,hb,hk⟩;replace HK:=tK (w:=w) hk;replace HB:=aM hb;replace HI0:=aM hi;(try clear hb);(try clear hk);(try clear hi);have aW:0≤(az:Int):=dA;have aX:az<(O.length:Int):=dA;obtain⟨bW,bX,bh⟩:=at_int HR1.out az aW aX;cases bX;replace bh:=keep_cell HK.out bh (by first|(rw[add_block];exact hf1 _ rfl (by omega))|exact hf1 _ rfl (by omega)|exact hf1 bW rfl (by omega));replace aW:=eq_true aW;replace aX:=eq_true aX))
 go_ret;exact⟨rE,q5x2,q5x3,cK⟩
def spec_l16Copy.f (U:List (S33)) (l:Int) (n:Int) (j:Int):Option ((List (S33))×Int×Int×Int):=(some (([] :List (S33)):List (S33))).bind fun am=>(if am.length+U.length<4398046511104 then(some ((am ++ U),l,n,j))else(none))
set_option maxHeartbeats 8000000 in
set_option maxRecDepth 100000 in
theorem spec_l16Copy.calls {aA:Option Addr}{aC:Nat}{U:List (S33)}{l:Int}{n:Int}{j:Int}{r1:List (S33)}{r2:Int}{r3:Int}{r4:Int}{w:World}(h:spec_l16Copy.f U l n j=some (r1,r2,r3,r4))(bi:Kd.C k33 w aA U.length U)(bj:U.length≤aC) :
 Calls Try.prog 95 #[.agg #[.slice aA U.length aC,.int .i64 l,.int .i64 n,.int .i64 j]] w fun e w'=> ∃ v0_:Value,e= .returned (.agg #[v0_,.int .i64 r2,.int .i64 r3,.int .i64 r4])∧Kd.R k33 33 w' w.heap.size (fun _=>True) v0_ r1∧Below w.heap.size w w':=by
 have hu28:=Try.underlying28;have HR0_0:=aM bi;have HC0_0:=aM bj;clear bi bj;have HB:=rW w
 unfold spec_l16Copy.f at h;have H:=h
 clear h;replace H:=nE H;obtain⟨am,bk,H⟩:=H;replace H:=gC H;obtain⟨i,H⟩:=H;have bY:=aM i;clear i;obtain⟨bZ,bl⟩ : ∃ y_:List (S33),Aside0 (y_=(am ++ U)):=⟨_,⟨rfl⟩⟩;rw[← bl.out]at H;simp only[Option.some.injEq,Prod.mk.injEq]at H;obtain⟨rfl,rfl,rfl,rfl⟩:=H;go_enter Try.func95,Try.ntmps95
 go_wp2_with (first|((with_reducible refine gN 1 ?_);refine boxZ 1 #[.slice aA U.length aC,.int .i64 l,.int .i64 n,.int .i64 j] 28 ?_;intro cX hg b0 hbox hb;have I:=aM hbox;have GW201:=gS hg;have GE201:=gS hg;replace HB:=sB hb;clear hb hbox hg)|((with_reducible refine gN 2 ?_);refine boxZ 2 #[.slice none 0 0,.int .i64 0,.int .i64 0,.int .i64 0] 28 ?_;intro b1 hg cY hbox hb;have X:=aM hbox;have GW202:=gS hg;have GE202:=gS hg;replace HB:=sB hb;have b5:=nL hg I;have b8:=nG hg I;replace I:=kB I hb;clear hb hbox hg;have hnb5:=b5.out;have hnc5:=b8.out;obtain⟨b9,ca,cb,cc,cd,ce,cf,cg⟩:=cz4 I)|((with_reducible refine gN 3 ?_);refine boxZ 3 #[.slice none 0 0,.int .i64 0,.int .i64 0,.int .i64 0] 28 ?_;intro cZ hg a6 hbox hb;have ac:=aM hbox;have GW203:=gS hg;have GE203:=gS hg;replace HB:=sB hb;have ch:=nL hg I;have ci:=nG hg I;replace I:=kB I hb;have cj:=nL hg X;have ck:=nG hg X;replace X:=kB X hb;clear hb hbox hg;have hnb8:=ci.out;have hnc8:=ch.out;have hnb9:=ck.out;have hnc9:=cj.out;obtain⟨cl,cm,cn,co,cp,cq,cr,ct⟩:=cz4 ac)|((with_reducible refine gN 5 ?_);refine R_lit k33 _ 33 ?hg (N:=5) ?hd (xs:=([] :List (S33))) (inner:=[]) (ok:=fun _=>True) (okp:=fun _=>True) ?hr ?hp (fun _ hk=>hk) trivial (Below.refl _ _) (Nat.le_refl _) (by simp) ?_;(case hd=>rfl);(case hg=>rfl);(case hr=>exact rG);(case hp=>exact(Reps.none _ _));intro cu cv an hb hg_ hnew_;clear hg_ hnew_;(first|rw[← bk.out]at an|(simp only[Int.reduceToNat]at an;rw[← bk.out]at an));have ao:=rL an;replace I:=kB I hb;replace X:=kB X hb;replace ac:=kP ac hb (.cells #[.slice aA U.length aC,.int .i64 l,.int .i64 n,.int .i64 j] 28 (0,0));replace HB:=sB hb;clear hb an;obtain⟨c0,c1,c2,c3,c4,c6,da,db⟩:=cz4 I)|((with_reducible refine gA 5 7 ?_);at_builtin;refine R_append_rows k33 (w0:=w) w.heap.size rfl (.tmp 5) (.tmp 7) 26 33 (.agg #[(.int .i64 0),(.int .i64 0),(.int .i64 0),(.int .i64 0)]) 32 rfl Try.underlying26 info33 rfl (by decide) (by omega) cu am U _ _ _ (fun _=>True) (fun _=>False) rfl rfl ?aO ?aR (fun _ _ h=>h) (fun _ h=>h.elim) ?aF ?aB ?aS ?aL ?_;(case aR=>exact cH HR0_0);(case aB=>exact cB);(case aF=>exact(fun _ _=>trivial));(case aO=>exact(mR ao));(case aS=>exact(below_size cB));(case aL=>have:=bY.out;omega);intro dc bT ho hb hg hat;rw[← bl.out]at ho;replace I:=kN I hg ao I;replace X:=kN X hg ao X;replace ac:=kN ac hg ao ac;replace HB:=aM hb;have bm:=aM ho;clear ao ho hb hg hat;obtain⟨cw,cx,cy⟩:=R_slice bm.out;subst cy;obtain⟨dd,de,df,dg,dh,di,dj,dk⟩:=cz4 ac;obtain⟨dl,dm,dn,dp,dq,dr,ds,dt⟩:=cz4 X))
 refine bodyPost_ret (results_cell_row rfl _ _ b1 28 #[.slice cw bZ.length cx,.int .i64 l,.int .i64 n,.int .i64 j] (0,0) _ rfl (kS X _) Try.underlying28 rfl (by kernel_rfl)) rfl ?_
 exact⟨_,rE,fR (R_types (R_types bm.out ac.out (by decide)) X.out (by decide)) (fun _ hk=>trivial),cB⟩
def spec_l01In.f (J:Int) (z:Int) (ap:Int):Option (Bool):=if J≥z then(some (decide (J≤ap)))else(some false)
set_option maxHeartbeats 8000000 in
set_option maxRecDepth 100000 in
theorem spec_l01In.calls {J:Int}{z:Int}{ap:Int}{r:Bool}{w:World}(h:spec_l01In.f J z ap=some r) :
 Calls Try.prog 100 #[.int .i64 J,.int .i64 z,.int .i64 ap] w fun e w'=>e= .returned (.bool r)∧Drawn0 w w':=by
 have H:(if J≥z then(some (decide (J≤ap)))else(some false))=some r:=h;clear h;by_cases G:J≥z
 ·rw[if_pos G]at H;have aj:decide (z≤J)=true:=decide_eq_true G;clear G;obtain rfl:=Option.some.inj H;go_enter Try.func100,Try.ntmps100;go_wp2;go_ret
  exact⟨by first|rfl|(simp;done)|(simp[*];done),by repeat(first|exact Drawn0.refl _|apply Drawn0.step)⟩
 ·rw[if_neg G]at H;have aj:decide (z≤J)=false:=decide_eq_false G;clear G;obtain rfl:=Option.some.inj H;go_enter Try.func100,Try.ntmps100;go_wp2;go_ret
  exact⟨by first|rfl|(simp;done)|(simp[*];done),by repeat(first|exact Drawn0.refl _|apply Drawn0.step)⟩
def spec_HalfOk.f (J:Int):Option (Bool):=(spec_l01In.f J 0 4294967295).bind fun bn=>(some bn)
set_option maxHeartbeats 8000000 in
set_option maxRecDepth 100000 in
theorem spec_HalfOk.calls {J:Int}{r:Bool}{w:World}(h:spec_HalfOk.f J=some r) :
 Calls Try.prog 96 #[.int .i64 J] w fun e w'=>e= .returned (.bool r)∧Drawn0 w w':=by
 unfold spec_HalfOk.f at h;have H:=h
 clear h;replace H:=bE H;obtain⟨bn,cz,H⟩:=H;obtain rfl:=Option.some.inj H;go_enter Try.func96,Try.ntmps96
 go_wp2_with (first|((with_reducible refine gF 100 ?_);refine gX (some 4) Try.func100 (spec_l01In.calls cz.out) ?_;rintro w' ⟨nd,rfl⟩))
 go_ret
 exact⟨by first|rfl|(simp;done)|(simp[*];done),by repeat(first|exact Drawn0.refl _|apply Drawn0.step)⟩
def spec_ItemOk.f (y:Int) (l:Int) (n:Int) (j:Int):Option (Bool):=if y=1 then((spec_HalfOk.f l).bind fun aY=>(if aY=true then((spec_HalfOk.f n).bind fun aZ=>(if aZ=true then(some (j == 0))else(some false)))else(some false)))else(if y=2 then((spec_l01In.f j 1 1000000000).bind fun a0=>(if a0=true then(if l=0 then(some (n == 0))else(some false))else(some false)))else(some false))
set_option maxHeartbeats 8000000 in
set_option maxRecDepth 100000 in
theorem spec_ItemOk.calls {y:Int}{l:Int}{n:Int}{j:Int}{r:Bool}{w:World}(h:spec_ItemOk.f y l n j=some r) :
 Calls Try.prog 30 #[.agg #[.int .i64 y,.int .i64 l,.int .i64 n,.int .i64 j]] w fun e w'=>e= .returned (.bool r)∧Below w.heap.size w w':=by
 have hu33:=Try.underlying33;have HB:=rW w
 unfold spec_ItemOk.f at h;have H:=h
 clear h;by_cases i:y=1
 ·rw[if_pos i]at H;obtain⟨ae,a1⟩:=eT i;clear i;replace H:=bE H;obtain⟨aY,al,H⟩:=H;by_cases G:aY=true
  ·subst G;replace H:=iT H;replace H:=bE H;obtain⟨aZ,ay,H⟩:=H;by_cases ab:aZ=true
   ·subst ab;replace H:=iT H;obtain rfl:=Option.some.inj H;go_enter Try.func30,Try.ntmps30
    go_wp2_with (first|((with_reducible refine gN 1 ?_);refine boxZ 1 #[.int .i64 y,.int .i64 l,.int .i64 n,.int .i64 j] 33 ?_;intro ag hg a6 hbox hb;have M:=aM hbox;have GW211:=gS hg;have GE211:=gS hg;replace HB:=sB hb;clear hb hbox hg;obtain⟨du,dv,dw,dx,dy,dz,dC,dD⟩:=cz4 M)|((with_reducible refine gF 96 ?_);refine gX (some 8) Try.func96 (spec_HalfOk.calls al.out) ?_;rintro w' ⟨nd,rfl⟩)|(go_at_call 96;(with_reducible refine(spec_HalfOk.calls ay.out).mono ?_);rintro e w' ⟨rfl,⟨nd,rfl⟩⟩))
    go_ret;exact⟨rE,cB⟩
   ·replace ab:=Bool.eq_false_iff.mpr ab;subst ab;replace H:=iF H;obtain rfl:=Option.some.inj H;go_enter Try.func30,Try.ntmps30
    go_wp2_with (first|((with_reducible refine gN 1 ?_);refine boxZ 1 #[.int .i64 y,.int .i64 l,.int .i64 n,.int .i64 j] 33 ?_;intro ag hg dE hbox hb;have M:=aM hbox;have GW211:=gS hg;have GE211:=gS hg;replace HB:=sB hb;clear hb hbox hg;obtain⟨cl,cm,cn,co,cp,cq,cr,ct⟩:=cz4 M)|((with_reducible refine gF 96 ?_);refine gX (some 8) Try.func96 (spec_HalfOk.calls al.out) ?_;rintro w' ⟨nd,rfl⟩)|(go_at_call 96;(with_reducible refine(spec_HalfOk.calls ay.out).mono ?_);rintro e w' ⟨rfl,⟨nd,rfl⟩⟩))
    go_ret;exact⟨rE,cB⟩
  ·replace G:=Bool.eq_false_iff.mpr G;subst G;replace H:=iF H;obtain rfl:=Option.some.inj H;go_enter Try.func30,Try.ntmps30
   go_wp2_with (first|((with_reducible refine gN 1 ?_);refine boxZ 1 #[.int .i64 y,.int .i64 l,.int .i64 n,.int .i64 j] 33 ?_;intro ag hg cv hbox hb;have M:=aM hbox;have GW211:=gS hg;have GE211:=gS hg;replace HB:=sB hb;clear hb hbox hg;obtain⟨dF,dG,dH,dI,dJ,dK,dL,dM⟩:=cz4 M)|((with_reducible refine gF 96 ?_);refine gX (some 8) Try.func96 (spec_HalfOk.calls al.out) ?_;rintro w' ⟨nd,rfl⟩))
   go_ret;exact⟨rE,cB⟩
 ·rw[if_neg i]at H;obtain⟨ae,a1⟩:=eF i;by_cases aq:y=2
  ·rw[if_pos aq]at H;obtain⟨cA,cD⟩:=eT aq;clear aq;replace H:=bE H;obtain⟨a0,a2,H⟩:=H;by_cases aD:a0=true
   ·subst aD;replace H:=iT H;by_cases ar:l=0
    ·rw[if_pos ar]at H;obtain⟨cE,cF⟩:=eT ar;clear ar;obtain rfl:=Option.some.inj H;go_enter Try.func30,Try.ntmps30
     go_wp2_with (first|((with_reducible refine gN 1 ?_);refine boxZ 1 #[.int .i64 y,.int .i64 l,.int .i64 n,.int .i64 j] 33 ?_;intro ag hg dN hbox hb;have M:=aM hbox;have GW211:=gS hg;have GE211:=gS hg;replace HB:=sB hb;clear hb hbox hg;obtain⟨dO,dP,dQ,dS,dT,dU,dV,dX⟩:=cz4 M)|(go_at_call 100;(with_reducible refine(spec_l01In.calls a2.out).mono ?_);rintro e w' ⟨rfl,⟨nd,rfl⟩⟩))
     go_ret;exact⟨rE,cB⟩
    ·rw[if_neg ar]at H;obtain⟨cE,cF⟩:=eF ar;obtain rfl:=Option.some.inj H;go_enter Try.func30,Try.ntmps30
     go_wp2_with (first|((with_reducible refine gN 1 ?_);refine boxZ 1 #[.int .i64 y,.int .i64 l,.int .i64 n,.int .i64 j] 33 ?_;intro ag hg dY hbox hb;have M:=aM hbox;have GW211:=gS hg;have GE211:=gS hg;replace HB:=sB hb;clear hb hbox hg;obtain⟨dZ,d0,d1,d2,d3,d4,d5,d6⟩:=cz4 M)|(go_at_call 100;(with_reducible refine(spec_l01In.calls a2.out).mono ?_);rintro e w' ⟨rfl,⟨nd,rfl⟩⟩))
     go_ret;exact⟨rE,cB⟩
   ·replace aD:=Bool.eq_false_iff.mpr aD;subst aD;replace H:=iF H;obtain rfl:=Option.some.inj H;go_enter Try.func30,Try.ntmps30
    go_wp2_with (first|((with_reducible refine gN 1 ?_);refine boxZ 1 #[.int .i64 y,.int .i64 l,.int .i64 n,.int .i64 j] 33 ?_;intro ag hg d7 hbox hb;have M:=aM hbox;have GW211:=gS hg;have GE211:=gS hg;replace HB:=sB hb;clear hb hbox hg;obtain⟨d8,d9,ea,eb,ec,ed,ee,ef⟩:=cz4 M)|(go_at_call 100;(with_reducible refine(spec_l01In.calls a2.out).mono ?_);rintro e w' ⟨rfl,⟨nd,rfl⟩⟩))
    go_ret;exact⟨rE,cB⟩
  ·rw[if_neg aq]at H;obtain⟨cA,cD⟩:=eF aq;obtain rfl:=Option.some.inj H;go_enter Try.func30,Try.ntmps30
   go_wp2_with (first|((with_reducible refine gN 1 ?_);refine boxZ 1 #[.int .i64 y,.int .i64 l,.int .i64 n,.int .i64 j] 33 ?_;intro ag hg eg hbox hb;have M:=aM hbox;have GW211:=gS hg;have GE211:=gS hg;replace HB:=sB hb;clear hb hbox hg;obtain⟨eh,ei,ej,ek,el,em,en,eo⟩:=cz4 M))
   go_ret;exact⟨rE,cB⟩
def spec_l16Length.f (y:Int) (l:Int) (n:Int) (j:Int):Option (Int):=if y=2 then(some j)else(some 1)
set_option maxHeartbeats 8000000 in
set_option maxRecDepth 100000 in
theorem spec_l16Length.calls {y:Int}{l:Int}{n:Int}{j:Int}{r:Int}{w:World}(h:spec_l16Length.f y l n j=some r) :
 Calls Try.prog 101 #[.agg #[.int .i64 y,.int .i64 l,.int .i64 n,.int .i64 j]] w fun e w'=>e= .returned (.int .i64 r)∧Below w.heap.size w w':=by
 have hu33:=Try.underlying33;have HB:=rW w;have H:(if y=2 then(some j)else(some 1))=some r:=h;clear h;by_cases i:y=2
 ·rw[if_pos i]at H;obtain⟨ae,a1⟩:=eT i;clear i;obtain rfl:=Option.some.inj H;go_enter Try.func101,Try.ntmps101
  go_wp2_with (first|((with_reducible refine gN 1 ?_);refine boxZ 1 #[.int .i64 y,.int .i64 l,.int .i64 n,.int .i64 j] 33 ?_;intro cG hg b0 hbox hb;have a3:=aM hbox;have GW215:=gS hg;have GE215:=gS hg;replace HB:=sB hb;clear hb hbox hg;obtain⟨bw,bx,bz,ep,eq,bA,bB,er⟩:=cz4 a3))
  go_ret;exact⟨rE,cB⟩
 ·rw[if_neg i]at H;obtain⟨ae,a1⟩:=eF i;obtain rfl:=Option.some.inj H;go_enter Try.func101,Try.ntmps101
  go_wp2_with (first|((with_reducible refine gN 1 ?_);refine boxZ 1 #[.int .i64 y,.int .i64 l,.int .i64 n,.int .i64 j] 33 ?_;intro cG hg br hbox hb;have a3:=aM hbox;have GW215:=gS hg;have GE215:=gS hg;replace HB:=sB hb;clear hb hbox hg;obtain⟨b9,ca,cb,cc,cd,ce,cf,cg⟩:=cz4 a3))
  go_ret;exact⟨rE,cB⟩
end Go.Proofs.Ytlgndgjbfjefpaa.PFnRingsTold
