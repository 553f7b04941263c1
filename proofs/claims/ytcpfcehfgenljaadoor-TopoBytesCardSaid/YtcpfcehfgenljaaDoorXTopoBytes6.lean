/- Part 7 of 7 of what the row of TopoBytes stands on: contracts over the given program's functions, the plain law, the row; no condition beyond those that each theorem states. -/
import Derived.Test.YtcpfcehfgenljaaDoorXTopoBytes5
import Derived.Test.YtcpfcehfgenljaaDoorTie
import Derived.Test.YtcpfcehfgenljaaDoorCards
import Derived.SevenTiedAt
import Derived.LaidMore
import Derived.Lib.LaidTab
section
namespace Go.Proofs.YtcpfcehfgenljaaDoor.Pure
open Go.RowKit Go.Proofs.YtcpfcehfgenljaaDoor.Q Go.Proofs.YtcpfcehfgenljaaDoorW.PrintWords Go.Proofs.YtcpfcehfgenljaaDoorW.PrintLast Go.Proofs.YtcpfcehfgenljaaDoorW.PrintMore
set_option linter.unusedVariables false
set_option linter.unusedSimpArgs false
theorem d_W : ∀ (n : Nat) (t : List Int),t.length = 2 * n → (pairs t).length = n
 | 0,t,h => by
  have : t = []:=List.length_eq_zero_iff.1 (by omega)
  subst this;rfl
 | n + 1,[],h => by simp at h
 | n + 1,[x],h => by simp at h;omega
 | n + 1,x :: y :: t,h => by rw [pairs,List.length_cons,d_W n t (by simp at h;omega)]
theorem g_g : ∀ (n : Nat) (p s : List Int),p.length = 2 * n → pairs (p ++ s) = pairs p ++ pairs s
 | 0,p,s,h => by
  have : p = []:=List.length_eq_zero_iff.1 (by omega)
  subst this;rfl
 | n + 1,[],s,h => by simp at h
 | n + 1,[x],s,h => by simp at h;omega
 | n + 1,x :: y :: p,s,h => by
  show pairs (x :: y :: (p ++ s)) = _
  rw [pairs,g_g n p s (by simp at h;omega),pairs];rfl
theorem f_7 : ∀ (n : Nat) (t : List Int),t.length = 2 * n → Byt t → (pairs t).flatMap encS = t
 | 0,t,h,hb => by
  have : t = []:=List.length_eq_zero_iff.1 (by omega)
  subst this;rfl
 | n + 1,[],h,hb => by simp at h
 | n + 1,[x],h,hb => by simp at h;omega
 | n + 1,x :: y :: t,h,hb => by
  have hx:=hb x (by simp)
  have hy:=hb y (by simp)
  rw [pairs,List.flatMap_cons,f_7 n t (by simp at h;omega) (fun z hz => hb z (by simp [hz]))]
  unfold encS
  show x % 256 :: y % 256 :: t = _
  rw [show x % 256 = x by omega,show y % 256 = y by omega]
def j_A (h : Int) (t : List Int) : List S56 × Int:=if okT (pairs (t.take (2 * h.toNat))) = true ∧ t.length = 2 * h.toNat then (pairs (t.take (2 * h.toNat)),0) else ([],160)
theorem i_1 (h : Int) (t : List Int) (hB : Byt (h :: t)) (hl : t.length ≤ 100000) : ∀ (n i : Nat) (pre suf : List Int),t = pre ++ suf → pre.length = 2 * i → ((i + n : Nat) : Int) = h → 2 * n ≤ suf.length →
 Ev (fun k => a_h.l0 k (h :: t) h (i : Int) (pairs pre)) (j_A h t)
 | 0,i,pre,suf,ht,hp,hi,hn => by
  have e : t.take (2 * h.toNat) = pre:=by rw [ht,List.take_left' (by omega)]
  have hpl:=d_W i pre hp
  have htl : t.length = 2 * i + suf.length:=by rw [ht,List.length_append,hp]
  refine Ev.step (f:=fun k => (a_n.f k (pairs pre)).bind fun t422 => (if t422 = true then (if 0 < (((h :: t).length : Nat) : Int) then (if (((h :: t).length : Nat) : Int) = (wrap64 (1 + (wrap64 (2 * (wrap64 (rd (h :: t) 0)))))) then (some (pairs pre,0)) else (some (([] : List S56),160))) else (none)) else (some (([] : List S56),160)))) (fun k => ?_) ?_
  ·rw [a_h.l0,if_neg (by omega)]
  ·refine Ev.bind (h_h (pairs pre) (by omega)) ?_
   have r0 : rd (h :: t) 0 = h:=rfl
   have hh:=hB h (by simp)
   have hc : (((h :: t).length : Nat) : Int) = (t.length : Int) + 1:=by simp
   simp only [r0,c_u h (by omega) (by omega),c_u (2 * h) (by omega) (by omega),c_u (1 + 2 * h) (by omega) (by omega),hc,if_pos (show 0 < (t.length : Int) + 1 by omega)]
   unfold j_A
   rw [e]
   cases okT (pairs pre)
   ·simp only [Bool.false_eq_true,if_false,false_and];exact Ev.now _
   ·simp only [if_true,true_and]
    by_cases c : t.length = 2 * h.toNat
    ·simp only [if_pos c,if_pos (show (t.length : Int) + 1 = 1 + 2 * h by omega)];exact Ev.now _
    ·simp only [if_neg c,if_neg (show ¬ (t.length : Int) + 1 = 1 + 2 * h by omega)];exact Ev.now _
 | n + 1,i,pre,[],ht,hp,hi,hn => by simp at hn
 | n + 1,i,pre,[x],ht,hp,hi,hn => by simp at hn;omega
 | n + 1,i,pre,x :: y :: suf,ht,hp,hi,hn => by
  have htl : t.length = 2 * i + 2 + suf.length:=by rw [ht,List.length_append,hp];simp only [List.length_cons];omega
  have hx:=hB x (by rw [ht];simp)
  have hy:=hB y (by rw [ht];simp)
  have hpl:=d_W i pre hp
  have hc : (((h :: t).length : Nat) : Int) = (t.length : Int) + 1:=by simp
  have e1 : wrap64 (1 + wrap64 (2 * (i : Int))) = ((2 * i + 1 : Nat) : Int):=by rw [c_u (2 * (i : Int)) (by omega) (by omega),c_u _ (by omega) (by omega)];omega
  have e2 : wrap64 (2 + wrap64 (2 * (i : Int))) = ((2 * i + 2 : Nat) : Int):=by rw [c_u (2 * (i : Int)) (by omega) (by omega),c_u _ (by omega) (by omega)];omega
  have r1 : rd (h :: t) ((2 * i + 1 : Nat) : Int) = x:=by
   have:=rdi (B:=h :: t) (pre:=h :: pre) (suf:=y :: suf) (x:=x) (by rw [ht];rfl)
   rwa [List.length_cons,hp] at this
  have r2 : rd (h :: t) ((2 * i + 2 : Nat) : Int) = y:=by
   have:=rdi (B:=h :: t) (pre:=h :: (pre ++ [x])) (suf:=suf) (x:=y) (by rw [ht];simp)
   rw [List.length_cons,List.length_append,hp] at this
   exact this
  have ih:=i_1 h t hB hl n (i + 1) (pre ++ [x,y]) suf (by rw [ht];simp) (by rw [List.length_append,hp];simp only [List.length_cons,List.length_nil];omega) (by omega) (by simp only [List.length_cons] at hn;omega)
  rw [g_g i pre [x,y] hp] at ih
  refine Ev.step (f:=fun k => a_h.l0 k (h :: t) h ((i + 1 : Nat) : Int) (pairs pre ++ pairs [x,y])) (fun k => ?_) ih
  rw [a_h.l0,if_pos (by omega),e1,e2,if_pos (by omega),if_pos (by omega),if_pos (by omega),if_pos (by omega),if_pos (by omega),r1,r2,c_u x (by omega) (by omega),c_u y (by omega) (by omega),c_7 i (by omega)]
  rfl
theorem i_2 (h : Int) (t : List Int) (hB : Byt (h :: t)) (hle : ¬ (t.length : Int) + 1 ≤ 2 * h) : j_A h t = if okT (pairs t) = true ∧ encB (pairs t) = h :: t then (pairs t,0) else ([],160):=by
 have hh:=hB h (by simp)
 unfold j_A
 by_cases c : t.length = 2 * h.toNat
 rotate_left
 ·rw [if_neg (fun hx => c hx.2),if_neg]
  rintro ⟨hok,he⟩
  have hl:=i_W hok
  have h1:=congrArg List.length he
  rw [j_m,List.length_cons] at h1
  unfold encB at he
  have h2:=(List.cons.inj he).1
  omega
 have e : t.take (2 * h.toNat) = t:=List.take_of_length_le (by omega)
 have hp:=d_W h.toNat t c
 have henc : encB (pairs t) = h :: t:=by
  unfold encB
  rw [hp,f_7 h.toNat t c (fun x hx => hB x (by simp [hx]))]
  congr 1
  omega
 rw [e]
 cases okT (pairs t)
 ·simp
 rw [if_pos ⟨rfl,c⟩,if_pos ⟨rfl,henc⟩]
theorem i_0 (B : List Int) (hB : Byt B) (hl : B.length ≤ 100000) : Ev (fun k => a_h.f k B) (decB B):=by
 unfold a_h.f
 cases B with
 | nil =>
  refine Ev.step (f:=fun _ => some ([],7)) (fun k => ?_) (Ev.now _)
  rfl
 | cons h t =>
  have hh:=hB h (by simp)
  have hl' : t.length + 1 ≤ 100000:=by simpa using hl
  have r0 : rd (h :: t) 0 = h:=rfl
  have hc : (((h :: t).length : Nat) : Int) = (t.length : Int) + 1:=by simp
  simp only [r0,hc,c_u h (by omega) (by omega),c_u (2 * h) (by omega) (by omega),c_u (1 + 2 * h) (by omega) (by omega),if_neg (show ¬ (t.length : Int) + 1 < 1 by omega),if_pos (show 0 < (t.length : Int) + 1 by omega)]
  rw [decB]
  by_cases c : (t.length : Int) + 1 ≤ 2 * h
  ·rw [if_pos c]
   simp only [decide_eq_true (show (t.length : Int) + 1 < 1 + 2 * h by omega)]
   refine Ev.step (f:=fun _ => some ([],7)) (fun k => ?_) (Ev.now _)
   rw [a_h.j0,if_pos rfl]
  rw [if_neg c, ← i_2 h t hB c]
  simp only [decide_eq_false (show ¬ (t.length : Int) + 1 < 1 + 2 * h by omega)]
  refine Ev.step (f:=fun k => a_h.l0 k (h :: t) h ((0 : Nat) : Int) (pairs [])) (fun k => ?_) (i_1 h t hB (by omega) h.toNat 0 [] t rfl rfl (by omega) (by omega))
  rw [a_h.j0,if_neg (by decide),hc,if_pos (by omega),r0,c_u h (by omega) (by omega)]
  rfl
end Go.Proofs.YtcpfcehfgenljaaDoor.Pure
end
section
namespace Go.Proofs.YtcpfcehfgenljaaDoor.Pure
open Go.RowKit Go.Proofs.YtcpfcehfgenljaaDoor.Q Go.Proofs.YtcpfcehfgenljaaDoorW.PrintWords Go.Proofs.YtcpfcehfgenljaaDoorW.PrintLast Go.Proofs.YtcpfcehfgenljaaDoorW.PrintMore
set_option linter.unusedVariables false
set_option linter.unusedSimpArgs false
theorem j_j {B : List Int} (h : Byt B) (n : Nat) : Byt (B.take n):=fun x hx => h x (List.mem_of_mem_take hx)
theorem k_m (n : Nat) : mn (n : Int) 600 = ((min n 600 : Nat) : Int):=by unfold mn;split <;> omega
theorem h_a (R : List (List Int)) (hR : ∀ b ∈ R,Byt b) : ∀ n i : Nat,i + n = 12 → Ev (fun k => a_f.l1 k R (R.length : Int) (i : Int)) true
 | n,i,h => by
  by_cases hlt : i < R.length
  ·cases n with
   | zero =>
    refine Ev.step (f:=fun _ => some true) (fun k => ?_) (Ev.now _)
    rw [a_f.l1,if_pos (by omega),if_pos (by omega),if_pos (by omega),if_pos (by omega)]
   | succ n =>
    have ih:=h_a R hR n (i + 1) (by omega)
    have hrd : b_h R (i : Int) = R[i]:=by unfold b_h;simp [hlt]
    have hb:=hR _ (List.getElem_mem hlt)
    generalize hbb : R[i] = b at hrd hb
    have hB:=j_j hb (min b.length 600)
    have hlen : (b.take (min b.length 600)).length ≤ 600:=by rw [List.length_take];omega
    refine Ev.step (f:=fun k => (a_w.f k (b.take (min b.length 600))).bind fun bt448 => (a_h.f k (b.take (min b.length 600))).bind fun bt459 => (if bt448.2 = bt459.2 then ((a_t.f k bt448.1 bt459.1).bind fun t464 => (if t464 = true then (a_f.l1 k R (R.length : Int) ((i + 1 : Nat) : Int)) else (some false))) else (some false))) (fun k => ?_) ?_
    ·rw [a_f.l1,if_pos (by omega),if_pos (by omega),if_pos (by omega),if_neg (by omega),hrd,k_m,Int.toNat_natCast,c_7 i (by omega),Option.bind_some,if_pos (by omega),if_pos (by omega)]
     simp only [Option.bind_some,List.nil_append,List.length_nil,if_pos (show 0 + (b.take (min b.length 600)).length < 140737488355328 by omega)]
    ·generalize b.take (min b.length 600) = B at hB hlen
     refine Ev.bind (j_e B hB (by omega)) (Ev.bind (i_0 B hB (by omega)) ?_)
     simp only [if_true]
     have hd : (decB B).1.length ≤ 100000:=by
      rcases i_g B with ⟨_,hok,_⟩ | ⟨h0,_⟩
      ·have:=i_W hok;omega
      ·rw [h0];simp
     refine Ev.bind (k_o _ _ hd) ?_
     rw [j_o]
     exact ih
  ·refine Ev.step (f:=fun _ => some true) (fun k => ?_) (Ev.now _)
   rw [a_f.l1,if_neg (by omega)]
theorem g_8 (R : List (List Int)) (hR : ∀ b ∈ R,Byt b) : Ev (fun k => a_f.j1 k R) true:=by
 refine Ev.step (f:=fun k => a_f.l1 k R (R.length : Int) ((0 : Nat) : Int)) (fun k => ?_) (h_a R hR 12 0 rfl)
 rw [a_f.j1];rfl
theorem g_9 (R : List (List Int)) (hR : ∀ b ∈ R,Byt b) (L : List S24) : ∀ n i : Nat,i + n = 8 → Ev (fun k => a_f.l0 k R L (L.length : Int) (i : Int)) true
 | n,i,h => by
  by_cases hlt : i < L.length
  ·cases n with
   | zero =>
    refine Ev.step (fun k => ?_) (g_8 R hR)
    rw [a_f.l0,if_pos (by omega),if_pos (by omega),if_pos (by omega),if_pos (by omega)]
   | succ n =>
    have ih:=g_9 R hR L n (i + 1) (by omega)
    generalize ht : (b_B L (i : Int)).f0.take 9 = t
    have hl9 : t.length ≤ 9:=by subst ht;rw [List.length_take];omega
    refine Ev.step (f:=fun k => (a_z.f k t).bind fun bt431 => ((a_n.f k t).bind fun t435 => (if t435 = true then (if bt431.2 = 0 then ((a_q.f k t).bind fun t436 => ((bytes_Equal.f bt431.1 t436).bind fun t439 => (if t439 = true then (a_f.l0 k R L (L.length : Int) ((i + 1 : Nat) : Int)) else (some false)))) else (some false)) else (if bt431.2 = 160 then (if (bt431.1.length : Int) = 0 then (a_f.l0 k R L (L.length : Int) ((i + 1 : Nat) : Int)) else (some false)) else (some false))))) (fun k => ?_) ?_
    ·rw [a_f.l0,if_pos (by omega),if_pos (by omega),if_pos (by omega),if_neg (by omega),k_q,ht,Option.bind_some,c_7 i (by omega)]
    ·refine Ev.bind (g_5 t (by omega)) (Ev.bind (h_h t (by omega)) ?_)
     cases hok : okT t
     ·simpa using ih
     ·simp only [if_true]
      refine Ev.bind (j_z t (by omega)) ?_
      simp only [h_Z (f_C t) (f_C t),Option.bind_some,decide_true,if_true]
      exact ih
  ·refine Ev.step (fun k => ?_) (g_8 R hR)
   rw [a_f.l0,if_neg (by omega)]
theorem f_3 (L : List S24) (R : List (List Int)) (h1 : L.length ≤ maxLen ∧ ∀ x ∈ L,wf24 x) (h2 : R.length ≤ maxLen ∧ ∀ b ∈ R,b.length ≤ maxLen ∧ ∀ x ∈ b,(Lit.int .u8 x).wf = true) : ∃ k,a_f.f k L R = some true:=by
 have hR : ∀ b ∈ R,Byt b:=fun b hb x hx => by
  have:=bounds_u8 ((h2.2 b hb).2 x hx)
  exact ⟨this.1,by omega⟩
 refine Ev.rounds (g:=fun k => a_f.f k L R) (Ev.bind j_C ?_)
 simp only [if_true]
 exact g_9 R hR L 8 0 rfl
end Go.Proofs.YtcpfcehfgenljaaDoor.Pure
end
section
namespace Go.Proofs.YtcpfcehfgenljaaDoor.topoBytes
open Go.ChangeShapes Go.WideShapes Go.ChangeAt Go.RowKit Go.Proofs.YtcpfcehfgenljaaDoor.Q
open Go.Proofs.YtcpfcehfgenljaaDoorW.PrintWords Go.Proofs.YtcpfcehfgenljaaDoorW.PrintLast Go.Proofs.YtcpfcehfgenljaaDoorW.PrintMore
set_option linter.unusedVariables false
set_option linter.unusedSimpArgs false
theorem k_5 {W : World} (h : laidMetH Tryd.prog Rows.topoBytesRow.laid W) : b_9 W:=by
 rw [MakeChecks.laidMetH_plain _ _ _ (by kernel_rfl)] at h
 have h' : laidMet Tryd.prog [("math/bits.deBruijn32tab", Lib.tabData .u8 (Lib.deBruijn32tab.map fun n : Nat => (n : Int)))] W := h
 have ht:=Lib.tabIs_of_head (g:=0) (by kernel_rfl) (by kernel_rfl) Tryd.underlying97 Tryd.underlying5 (by kernel_rfl) (by kernel_rfl) h'
 intro j hj
 have hc:=ht.cell (g:=0) (by kernel_rfl) j (by simpa using hj)
 rw [hc]
 simp only [List.getD_eq_getElem?_getD,List.getElem?_map]
 rw [List.getElem?_eq_getElem hj]
 rfl
theorem j_l (os : Os) (args : Array Value) : laidMetH Tryd.prog Rows.topoBytesRow.laid ((World.doorLaid Tryd.prog 14 os).forCall (fun _ _ => 0) ⟨#[],args,[]⟩).memory :=
 laidMetH_of_parts3 (fuel:=8) (laidMet_of_run' 8 (by kernel_rfl) (by kernel_rfl)) (by kernel_rfl) (by kernel_rfl)
set_option maxRecDepth 100000 in
theorem lifted (os : Os) (started : os.Started) (H : Type) (enc : TypeId × Value → H) :
 ReturnsInHanded {} Tryd.checked os 9 .any (fun w args => (Rows.topoBytesSpec.pre enc Tryd.prog Tryd.f9 [] false w args ∧ laidMetH Tryd.prog Rows.topoBytesRow.laid w) ∧ sizedMet enc Tryd.prog Tryd.f9 (OpenSpec.ofChange Rows.topoBytesSpec) false w args) (Rows.topoBytesSpec.post enc Tryd.prog Tryd.f9 false true false false):=by
 refine returnsInHanded_of_change_and (C:=Tryd.checked) (X:=fun w _ => laidMetH Tryd.prog Rows.topoBytesRow.laid w) (fun _ _ _ hh h => h.of_heap hh) own started (by kernel_rfl) Tryd.func9
  (ChangeSpec.witness_shaped (enc:=enc) (C:=Tryd.checked) (os:=os) (X:=fun w _ => laidMetH Tryd.prog Rows.topoBytesRow.laid w) false (World.doorLaid Tryd.prog 14 os) #[.slice none 0 0,.slice none 0 0] 8 rfl (World.shaped_of_RefB (by kernel_rfl) (by kernel_rfl)) (by kernel_rfl) (by kernel_rfl) (by kernel_rfl) (j_l os _)) ?_
 intro W base args ds gs before hval0 hW hcnd hsz0 hL _
 have hT:=k_5 hL
 have hval : ∀ (j : Nat) t v,Tryd.f9.params[j]? = some t → args[j]? = some v → Value.okWide Tryd.prog W .any base t v:=hval0
 have hW':=hW
 obtain ⟨p,q,hA0,hV,rfl,hfz,hnd⟩:=hW
 have hA : DataW.TrodAll enc Tryd.prog W 0 (fun _ => true) true Tryd.f9.params.toList args.toList ds p:=hA0
 rw [Tryd.params9] at hA hval
 obtain ⟨v0,vs0,d0,ds0,p0,q0,hargs,rfl,rfl,h0,r0⟩:=trodAll_cons hA
 obtain ⟨v1,vs1,d1,ds1,p1,q1,rfl,rfl,rfl,h1,r1⟩:=trodAll_cons r0
 obtain ⟨rfl,rfl,rfl⟩:=trodAll_nil r1
 obtain rfl : args = #[v0,v1]:=by cases args;simp_all
 obtain ⟨rfl,rfl⟩:=trodVars_none hV
 have k0:=h0
 have lt0 : ∀ x ∈ p0,x.block < W.heap.size:=by obtain ⟨m,hm⟩:=k0;exact DataW.trod_lt m _ _ _ hm
 obtain ⟨a0,len0,cap0,rfl⟩:=okWide_slice Tryd.underlying70 (hval 0 70 v0 rfl rfl)
 obtain ⟨fuel0,hf0⟩:=h0
 obtain ⟨l0,⟨A0,c0,he0,hc0,hr0⟩,wf0_⟩:=(d_h.slice Tryd.underlying70 (by kernel_rfl) op24).open_ hf0
 simp [Value.cells] at he0
 obtain ⟨rfl,rfl,rfl⟩:=he0
 have k1:=h1
 have lt1 : ∀ x ∈ p1,x.block < W.heap.size:=by obtain ⟨m,hm⟩:=k1;exact DataW.trod_lt m _ _ _ hm
 obtain ⟨a1,len1,cap1,rfl⟩:=okWide_slice Tryd.underlying72 (hval 1 72 v1 rfl rfl)
 obtain ⟨fuel1,hf1⟩:=h1
 obtain ⟨l1,⟨A1,c1,he1,hc1,hr1⟩,wf1_⟩:=(d_h.slice Tryd.underlying72 (by kernel_rfl) (d_h.slice Tryd.underlying25 (by kernel_rfl) (d_h.int Tryd.underlying5 (by kernel_rfl)))).open_ hf1
 simp [Value.cells] at he1
 obtain ⟨rfl,rfl,rfl⟩:=he1
 obtain ⟨K,hK⟩:=Pure.f_3 l0 l1 wf0_ wf1_
 refine (a_f.calls _ _ _ _ _ _ _ _ _ hr0 hc0 hr1 hc1 hT hK).mono fun e W' ⟨he,bel⟩ => ?_
 subst he
 exact ⟨_,rfl,_,_,_,[],_,[],hW',trodAll_mk1 (shut_bool Tryd.underlying4 _),(trodAll_cons_mk (Below.trod laidOut (by kernel_rfl) (of_decide_eq_true (by kernel_rfl)) k0 bel lt0) (trodAll_cons_mk (Below.trod laidOut (by kernel_rfl) (of_decide_eq_true (by kernel_rfl)) k1 bel lt1) trodAll_mk0)),rfl,bel.frame _,fun h => by cases h⟩
theorem over : Rows.topoBytesRow.holds Tryd.pinned (OpenSpec.ofChange Rows.topoBytesSpec) :=
 OpenClaim.holds_of_wide 9 Tryd.f9 rfl rfl rfl rfl rfl rfl rfl ⟨rfl,rfl,rfl,rfl,rfl⟩ rfl rfl rfl rfl rfl (by kernel_rfl) Tryd.func9 (by kernel_rfl)
  (of_decide_eq_true (by kernel_rfl)) (by unfold Func.isWrapper;first|(rw [if_pos (by decide +kernel)];kernel_rfl)|(rw [if_neg (by decide +kernel)];exact ⟨rfl,rfl⟩))
  (fun os started H enc _ => lifted os started H enc)
theorem l_G : Rows.TopoBytesCardSaid :=
 Claim7.holds_tied_plain_at .later [] [.data] true (true, "6dbd2b49adb5acd0b183bc1951f3d41c819263b5044b5d85a2e1d0af7c9bdaaa") false
  over (fun _ h => by cases h) (by kernel_rfl) (fun _ h => by cases h) topoBytes_row_tie rfl ⟨rfl,rfl⟩ (by kernel_rfl) rfl
  (fun f fn hf hfn => by
   obtain rfl : f = 9 := Option.some.inj ((show Tryd.prog.funcNamed "mainsheet/mainsheetlaw06.TopoBytes" = some 9 by kernel_rfl).symm.trans hf) |>.symm
   obtain rfl : fn = Tryd.f9:=(Option.some.inj (Tryd.func9.symm.trans hfn)).symm
   exact ⟨by kernel_rfl,fun j t ht => by
    rw [Tryd.params9] at ht
    rcases j with _|_|j
    ·obtain rfl : 70 = t:=by simpa using ht
     exact (show Tryd.prog.wantsStandIn 70 = false by kernel_rfl)
    ·obtain rfl : 72 = t:=by simpa using ht
     exact (show Tryd.prog.wantsStandIn 72 = false by kernel_rfl)
    ·simp at ht⟩)
  (by kernel_rfl)
theorem proved : Rows.TopoBytesCardSaid:=l_G
#print axioms proved
end Go.Proofs.YtcpfcehfgenljaaDoor.topoBytes
namespace Go.Proofs.YtcpfcehfgenljaaDoor
theorem topoBytes_holds : Rows.TopoBytesCardSaid:=topoBytes.proved
end Go.Proofs.YtcpfcehfgenljaaDoor
end
