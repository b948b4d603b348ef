/-
  Plain facts on layer 28 (brush strokes): the dabs of a stroke, of the program and of the reference alike. Conditions stand in each statement (enough rounds).
-/
import Derived.Test.YtlilncnoohfcdaaBrx12
import Derived.Test.YtlilncnoohfcdaaBrx15
import Derived.Test.YtlilncnoohfcdaaBrx16
import Derived.Test.YtlilncnoohfcdaaBrx17
import Derived.Test.YtlilncnoohfcdaaBrx4
import Derived.Test.YtlilncnoohfcdaaBrx5
import Derived.Test.YtlilncnoohfcdaaBrx7
import Derived.Test.YtlilncnoohfcdaaBrx8
import Derived.Test.YtlilncnoohfcdaaDynRef
import Derived.Test.YtlilncnoohfcdaaDab
import Derived.Test.YtlilncnoohfcdaaRnd
import Derived.Test.YtlilncnoohfcdaaRun
namespace Go.Proofs.Ytlilncnoohfcdaa.Num
open Go.RowKit Go.Proofs.YtlilncnoohfcdaaW.PrintWords Go.Proofs.YtlilncnoohfcdaaW.PrintLast Go.Proofs.YtlilncnoohfcdaaW.PrintMore Go.Proofs.Ytlilncnoohfcdaa.Da Go.Proofs.Ytlilncnoohfcdaa.Br
abbrev SM:=S57
abbrev DB:=S28
abbrev DY:=S120
def sgood (s:SM):Prop:=(-16777216≤s.f0∧s.f0≤16777216)∧(-16777216≤s.f1∧s.f1≤16777216)∧(0≤s.f2∧s.f2≤65535)∧(0≤s.f3∧s.f3≤65535)∧(0≤s.f4∧s.f4≤1073741824)
instance (s:SM):Decidable (sgood s):=by unfold sgood;infer_instance
def sc (l:List SM):Nat→Int→Int
  | 0,_=>0
  | d+1,i=>if ¬ sgood (zab l i) then 2 else if 0<i∧(zab l i).f4<(zab l (i - 1)).f4 then 24 else sc l d (i+1)
def scheck (l:List SM):Int:=if (l.length:Int)=0 then 1 else if (l.length:Int) > 128 then 3 else sc l l.length 0
theorem check_l0 (l:List SM) (hl:l.length<1000) (d:Nat) : ∀ (k:Nat) (i:Int),0≤i→i+d=l.length→2*d+1≤k→zaP.l0 k l l (l.length:Int) i=some (sc l d i):=by
  induction d with
  | zero=>
    intro k i h0 h1 hk
    obtain ⟨k,rfl⟩ : ∃ m,k=m+1:=⟨k - 1,by omega⟩
    rw [zaP.l0.eq_2,if_neg (by omega)]
    rfl
  | succ d ih=>
    intro k i h0 h1 hk
    obtain ⟨k,rfl⟩ : ∃ m,k=m+2:=⟨k - 2,by omega⟩
    have J (b:Bool):zaP.j1 (k+1) l i l (l.length:Int) i b (zab l i).f0 (zab l i).f1 (zab l i).f2 (zab l i).f3 (zab l i).f4=some (if b=true then 2 else if 0<i∧(zab l i).f4<(zab l (i - 1)).f4 then 24 else sc l d (i+1)):=by
      rw [zaP.j1.eq_2]
      cases b with
      | true=>rw [if_pos rfl,if_pos rfl]
      | false=>
        rw [if_neg (show ¬ (false=true) by decide),if_neg (show ¬ (false=true) by decide),w64 (n:=i - 1) (by omega) (by omega),w64 (n:=i+1) (by omega) (by omega),ih k (i+1) (by omega) (by omega) (by omega)]
        by_cases c:i > 0
        · rw [if_pos c,if_pos (by omega),if_pos (by omega)]
          by_cases c2:(zab l i).f4<(zab l (i - 1)).f4
          · rw [if_pos c2,if_pos ⟨by omega,c2⟩]
          · rw [if_neg c2,if_neg (fun h=>c2 h.2)]
        · rw [if_neg c,if_neg (fun h=>c (by omega))]
    rw [zaP.l0.eq_2,if_pos (by omega),if_pos (by omega),if_pos (by omega),J,J]
    rw [sc]
    by_cases g:sgood (zab l i)
    · have g':=g
      obtain ⟨⟨q0,q1⟩,⟨q2,q3⟩,⟨q4,q5⟩,⟨q6,q7⟩,⟨q8,q9⟩⟩:=g'
      rw [if_neg (not_not_intro g),if_neg (by unfold mn;split <;> omega),if_neg (by unfold mx;split <;> omega),if_neg (by unfold mn;split <;> split <;> omega),if_neg (by unfold mx;split <;> omega),decide_eq_false (by omega),if_neg (by decide)]
    · rw [if_pos g,if_pos rfl]
      by_cases c1:mn (zab l i).f0 (zab l i).f1 < -16777216
      · rw [if_pos c1]
      · rw [if_neg c1]
        by_cases c2:mx (zab l i).f0 (zab l i).f1 > 16777216
        · rw [if_pos c2]
        · rw [if_neg c2]
          by_cases c3:mn (mn (zab l i).f2 (zab l i).f3) (zab l i).f4<0
          · rw [if_pos c3]
          · rw [if_neg c3]
            by_cases c4:mx (zab l i).f2 (zab l i).f3 > 65535
            · rw [if_pos c4]
            · rw [if_neg c4,decide_eq_true,if_pos rfl]
              apply Classical.byContradiction
              intro c5
              refine g ?_
              unfold mn at c1 c3
              unfold mx at c2 c4
              unfold sgood
              (repeat' split at c1) <;> (repeat' split at c2) <;> (repeat' split at c3) <;> (repeat' split at c4) <;> omega
theorem brushCheck_f (k:Nat) (hk:300≤k) (l:List SM):zaP.f k l=some (scheck l):=by
  unfold zaP.f scheck
  by_cases c:(l.length:Int)=0
  · rw [if_pos c,if_pos c]
  · rw [if_neg c,if_neg c]
    by_cases c2:(l.length:Int) > 128
    · rw [if_pos c2,if_pos c2]
    · rw [if_neg c2,if_neg c2,check_l0 l (by omega) l.length k 0 (by omega) (by omega) (by omega)]
theorem refSunit_f (a:Int):zaV.f a=some (decide (0≤a∧a≤65535)):=by
  unfold zaV.f
  by_cases c:a≥0
  · rw [if_pos c];congr 1;rw [decide_eq_decide];omega
  · rw [if_neg c,decide_eq_false (by omega)]
theorem refScheck_l0 (l:List SM) (hl:l.length<1000) (d:Nat) : ∀ (k:Nat) (i:Int),0≤i→i+d=l.length→2*d+1≤k→zau.l0 k l i=some (sc l d i):=by
  induction d with
  | zero=>
    intro k i h0 h1 hk
    obtain ⟨k,rfl⟩ : ∃ m,k=m+1:=⟨k - 1,by omega⟩
    rw [zau.l0.eq_2,if_neg (by omega)]
    rfl
  | succ d ih=>
    intro k i h0 h1 hk
    obtain ⟨k,rfl⟩ : ∃ m,k=m+2:=⟨k - 2,by omega⟩
    have J (b:Bool):zau.j1 (k+1) l i b (zab l i).f0 (zab l i).f1 (zab l i).f2 (zab l i).f3 (zab l i).f4=some (if b=true then 2 else if 0<i∧(zab l i).f4<(zab l (i - 1)).f4 then 24 else sc l d (i+1)):=by
      rw [zau.j1.eq_2]
      cases b with
      | true=>rw [if_pos rfl,if_pos rfl]
      | false=>
        rw [if_neg (show ¬ (false=true) by decide),if_neg (show ¬ (false=true) by decide),w64 (n:=i - 1) (by omega) (by omega),w64 (n:=i+1) (by omega) (by omega),ih k (i+1) (by omega) (by omega) (by omega)]
        by_cases c:i > 0
        · rw [if_pos c,if_pos (by omega),if_pos (by omega)]
          by_cases c2:(zab l i).f4<(zab l (i - 1)).f4
          · rw [if_pos c2,if_pos ⟨by omega,c2⟩]
          · rw [if_neg c2,if_neg (fun h=>c2 h.2)]
        · rw [if_neg c,if_neg (fun h=>c (by omega))]
    rw [zau.l0.eq_2,if_pos (by omega),if_pos (by omega),J,J]
    rw [sc]
    rw [refSunit_f,zay,refSunit_f,zay]
    by_cases c1:(zab l i).f0 < -16777216
    · rw [if_pos c1,if_pos rfl,if_pos (fun h=>by have:=h.1;omega)]
    rw [if_neg c1]
    by_cases c2:(zab l i).f0 > 16777216
    · rw [if_pos c2,if_pos rfl,if_pos (fun h=>by have:=h.1;omega)]
    rw [if_neg c2]
    by_cases c3:(zab l i).f1 < -16777216
    · rw [if_pos c3,if_pos rfl,if_pos (fun h=>by have:=h.2.1;omega)]
    rw [if_neg c3]
    by_cases c4:(zab l i).f1 > 16777216
    · rw [if_pos c4,if_pos rfl,if_pos (fun h=>by have:=h.2.1;omega)]
    rw [if_neg c4]
    by_cases c5:0≤(zab l i).f2∧(zab l i).f2≤65535
    · rw [if_pos (decide_eq_true c5)]
      by_cases c6:0≤(zab l i).f3∧(zab l i).f3≤65535
      · rw [if_pos (decide_eq_true c6)]
        by_cases c7:(zab l i).f4<0
        · rw [if_pos c7,if_pos rfl,if_pos (fun h=>by have:=h.2.2.2.2;omega)]
        · rw [if_neg c7]
          by_cases c8:(zab l i).f4 > 1073741824
          · rw [decide_eq_true c8,if_pos rfl,if_pos (fun h=>by have:=h.2.2.2.2;omega)]
          · rw [decide_eq_false c8,if_neg (by decide),if_neg (not_not_intro (show sgood (zab l i) from ⟨by omega,by omega,c5,c6,by omega⟩))]
      · rw [if_neg (by simpa using c6),if_pos rfl,if_pos (fun h=>c6 h.2.2.2.1)]
    · rw [if_neg (by simpa using c5),if_pos rfl,if_pos (fun h=>c5 h.2.2.1)]
theorem refScheck_f (k:Nat) (hk:300≤k) (l:List SM):zau.f k l=some (scheck l):=by
  unfold zau.f scheck
  by_cases c:(l.length:Int)=0
  · rw [if_pos c,if_pos c]
  · rw [if_neg c,if_neg c]
    by_cases c2:(l.length:Int) > 128
    · rw [if_pos c2,if_pos c2]
    · rw [if_neg c2,if_neg c2,refScheck_l0 l (by omega) l.length k 0 (by omega) (by omega) (by omega)]
theorem sc_ok (l:List SM) (d:Nat) : ∀ i:Int,sc l d i=0→∀ j,i≤j→j<i+d→sgood (zab l j):=by
  induction d with
  | zero=>intro i _ j h0 h1;omega
  | succ d ih=>
    intro i h j h0 h1
    unfold sc at h
    split at h
    · omega
    · rename_i g
      split at h
      · omega
      · by_cases e:j=i
        · rw [e];exact Classical.not_not.mp g
        · exact ih (i+1) h j (by omega) (by omega)
theorem scheck_ok (l:List SM) (h:scheck l=0):1≤l.length∧l.length≤128∧∀ j:Int,0≤j→j<l.length→sgood (zab l j):=by
  unfold scheck at h
  split at h
  · omega
  · split at h
    · omega
    · exact ⟨by omega,by omega,fun j h0 h1=>sc_ok l l.length 0 h j h0 (by omega)⟩
def bsize (a0 v:Int):Int:=mx 1 (rdiv (a0*v) 65535)
def bspread (sz a7 v:Int):Int:=rdiv (rdiv (sz*a7) 100*v) 65535
def bplace (sd ix dim n m:Int):Int:=clP (wrap64 (wrap64 (n+Rnd.under (Rnd.num sd ix dim) (2*m+1)) - m))
def bdab (a0 a7 sd:Int) (l:List DY) (s:SM) (sp ix:Int):DB:=
  ⟨bplace sd ix 2 s.f0 (bspread (bsize a0 (val l 1 s.f2 s.f3 sp ix sd)) a7 (val l 4 s.f2 s.f3 sp ix sd)),
   bplace sd ix 3 s.f1 (bspread (bsize a0 (val l 1 s.f2 s.f3 sp ix sd)) a7 (val l 4 s.f2 s.f3 sp ix sd)),
   bsize a0 (val l 1 s.f2 s.f3 sp ix sd),val l 2 s.f2 s.f3 sp ix sd,(val l 3 s.f2 s.f3 sp ix sd*65536 / 65535) % 65536⟩
theorem mulr {a b m n:Int} (a0:0≤a) (a1:a≤m) (b0:0≤b) (b1:b≤n):0≤a*b∧a*b≤m*n:=
  ⟨Int.mul_nonneg a0 b0,Int.mul_le_mul a1 b1 b0 (by omega)⟩
theorem bsize_bd (a0 v:Int) (h:1≤a0∧a0≤1024) (hv:0≤v∧v≤65535):1≤bsize a0 v∧bsize a0 v≤1024:=by
  have p:=mulr (show 0≤a0 by omega) h.2 hv.1 hv.2
  have r:=rdiv_lim (a0*v) 65535 (by omega) 1024 (by omega) (by omega)
  unfold bsize mx
  split <;> omega
theorem bspread_bd (sz a7 v:Int) (h:1≤sz∧sz≤1024) (h7:0≤a7∧a7≤1000) (hv:0≤v∧v≤65535):(0≤sz*a7∧sz*a7≤1024000)∧(-10240≤rdiv (sz*a7) 100∧rdiv (sz*a7) 100≤10240)∧(-671078400≤rdiv (sz*a7) 100*v∧rdiv (sz*a7) 100*v≤671078400)∧-10240≤bspread sz a7 v∧bspread sz a7 v≤10240:=by
  have p:=mulr (show 0≤sz by omega) h.2 h7.1 h7.2
  have r:=rdiv_lim (sz*a7) 100 (by omega) 10240 (by omega) (by omega)
  have q : -671078400≤rdiv (sz*a7) 100*v∧rdiv (sz*a7) 100*v≤671078400:=by
    have e:=mulr (a:=10240+rdiv (sz*a7) 100) (b:=v) (m:=20480) (n:=65535) (by omega) (by omega) hv.1 hv.2
    have e2:=mulr (a:=10240 - rdiv (sz*a7) 100) (b:=v) (m:=20480) (n:=65535) (by omega) (by omega) hv.1 hv.2
    rw [Int.add_mul] at e
    rw [Int.sub_mul] at e2
    omega
  exact ⟨by omega,r,q,rdiv_lim _ 65535 (by omega) 10240 (by omega) (by omega)⟩
theorem dabOf_f (k:Nat) (hk:90≤k) (a0 a1 a2 a3 a4 a5 a6 a7 a8 a9 a10 a11 a12 a13:Int) (l:List DY) (e:Bool) (s0 s1 s2 s3 s4 sp ix:Int) (h0:1≤a0∧a0≤1024) (h7:0≤a7∧a7≤1000) :
    zb5.f k a0 a1 a2 a3 a4 a5 a6 a7 a8 a9 a10 a11 a12 a13 l e s0 s1 s2 s3 s4 sp ix=some ((bdab a0 a7 a13 l ⟨s0,s1,s2,s3,s4⟩ sp ix).f0,(bdab a0 a7 a13 l ⟨s0,s1,s2,s3,s4⟩ sp ix).f1,(bdab a0 a7 a13 l ⟨s0,s1,s2,s3,s4⟩ sp ix).f2,(bdab a0 a7 a13 l ⟨s0,s1,s2,s3,s4⟩ sp ix).f3,(bdab a0 a7 a13 l ⟨s0,s1,s2,s3,s4⟩ sp ix).f4):=by
  obtain ⟨k,rfl⟩ : ∃ m,k=m+1:=⟨k - 1,by omega⟩
  have v1:=val_bd l 1 s2 s3 sp ix a13
  have v3:=val_bd l 3 s2 s3 sp ix a13
  have v4:=val_bd l 4 s2 s3 sp ix a13
  have z:=bsize_bd a0 _ h0 v1
  obtain ⟨p1,p2,p3,p4⟩:=bspread_bd _ a7 _ z h7 v4
  have p0:=mulr (show 0≤a0 by omega) h0.2 v1.1 v1.2
  have p5:=mulr v3.1 v3.2 (show (0:Int)≤65536 by omega) (show (65536:Int)≤65536 by omega)
  unfold zb5.f
  rw [val_f (k+1) (by omega),zay,w64 (n:=a0*val l 1 s2 s3 sp ix a13) (by omega) (by omega),div_f k _ 65535 (by omega) (by omega) (by omega) (by omega),zay]
  rw [show mx 1 (rdiv (a0*val l 1 s2 s3 sp ix a13) 65535)=bsize a0 (val l 1 s2 s3 sp ix a13) from rfl,w64 (n:=bsize a0 (val l 1 s2 s3 sp ix a13)*a7) (by omega) (by omega),div_f k _ 100 (by omega) (by omega) (by omega) (by omega),zay,
    val_f (k+1) (by omega),zay,w64 (n:=rdiv (bsize a0 (val l 1 s2 s3 sp ix a13)*a7) 100*val l 4 s2 s3 sp ix a13) (by omega) (by omega),div_f k _ 65535 (by omega) (by omega) (by omega) (by omega),zay]
  rw [show rdiv (rdiv (bsize a0 (val l 1 s2 s3 sp ix a13)*a7) 100*val l 4 s2 s3 sp ix a13) 65535=bspread (bsize a0 (val l 1 s2 s3 sp ix a13)) a7 (val l 4 s2 s3 sp ix a13) from rfl,
    w64 (n:=2*bspread (bsize a0 (val l 1 s2 s3 sp ix a13)) a7 (val l 4 s2 s3 sp ix a13)) (by omega) (by omega),w64 (n:=2*bspread (bsize a0 (val l 1 s2 s3 sp ix a13)) a7 (val l 4 s2 s3 sp ix a13)+1) (by omega) (by omega),
    Rnd.below_f,zay,clP_f,zay,Rnd.below_f,zay,clP_f,zay,val_f (k+1) (by omega),zay,val_f (k+1) (by omega),zay,w64 (n:=val l 3 s2 s3 sp ix a13*65536) (by omega) (by omega),floor_f _ 65535 (by omega) (by omega) (by omega),zay,
    (tdiv_pos (val l 3 s2 s3 sp ix a13*65536 / 65535) 65536 (by omega) (Int.ediv_nonneg p5.1 (by omega))).2]
  rfl
theorem refDab_f (k:Nat) (hk:90≤k) (a0 a1 a2 a3 a4 a5 a6 a7 a8 a9 a10 a11 a12 a13:Int) (l:List DY) (e:Bool) (s0 s1 s2 s3 s4 sp ix:Int) (h0:1≤a0∧a0≤1024) (h7:0≤a7∧a7≤1000) :
    zaD.f k a0 a1 a2 a3 a4 a5 a6 a7 a8 a9 a10 a11 a12 a13 l e s0 s1 s2 s3 s4 sp ix=some ((bdab a0 a7 a13 l ⟨s0,s1,s2,s3,s4⟩ sp ix).f0,(bdab a0 a7 a13 l ⟨s0,s1,s2,s3,s4⟩ sp ix).f1,(bdab a0 a7 a13 l ⟨s0,s1,s2,s3,s4⟩ sp ix).f2,(bdab a0 a7 a13 l ⟨s0,s1,s2,s3,s4⟩ sp ix).f3,(bdab a0 a7 a13 l ⟨s0,s1,s2,s3,s4⟩ sp ix).f4):=by
  obtain ⟨k,rfl⟩ : ∃ m,k=m+2:=⟨k - 2,by omega⟩
  have v1:=val_bd l 1 s2 s3 sp ix a13
  have v3:=val_bd l 3 s2 s3 sp ix a13
  have v4:=val_bd l 4 s2 s3 sp ix a13
  have z:=bsize_bd a0 _ h0 v1
  obtain ⟨p1,p2,p3,p4⟩:=bspread_bd _ a7 _ z h7 v4
  have p0:=mulr (show 0≤a0 by omega) h0.2 v1.1 v1.2
  have p5:=mulr v3.1 v3.2 (show (0:Int)≤65536 by omega) (show (65536:Int)≤65536 by omega)
  unfold zaD.f
  rw [refVal_f (k+2) (by omega),zay,w64 (n:=a0*val l 1 s2 s3 sp ix a13) (by omega) (by omega),refDiv_f (k+1) _ 65535 (by omega) (by omega) (by omega) (by omega),zay,refVal_f (k+2) (by omega),zay,refVal_f (k+2) (by omega),zay,
    w64 (n:=val l 3 s2 s3 sp ix a13*65536) (by omega) (by omega),refFloor_f (k+1) _ 65535 (by omega) (by omega) (by omega),zay]
  rw [show mx 1 (rdiv (a0*val l 1 s2 s3 sp ix a13) 65535)=bsize a0 (val l 1 s2 s3 sp ix a13) from rfl,w64 (n:=bsize a0 (val l 1 s2 s3 sp ix a13)*a7) (by omega) (by omega),refDiv_f (k+1) _ 100 (by omega) (by omega) (by omega) (by omega),zay,
    refVal_f (k+2) (by omega),zay,w64 (n:=rdiv (bsize a0 (val l 1 s2 s3 sp ix a13)*a7) 100*val l 4 s2 s3 sp ix a13) (by omega) (by omega),refDiv_f (k+1) _ 65535 (by omega) (by omega) (by omega) (by omega),zay]
  rw [show rdiv (rdiv (bsize a0 (val l 1 s2 s3 sp ix a13)*a7) 100*val l 4 s2 s3 sp ix a13) 65535=bspread (bsize a0 (val l 1 s2 s3 sp ix a13)) a7 (val l 4 s2 s3 sp ix a13) from rfl,
    w64 (n:=2*bspread (bsize a0 (val l 1 s2 s3 sp ix a13)) a7 (val l 4 s2 s3 sp ix a13)) (by omega) (by omega),w64 (n:=2*bspread (bsize a0 (val l 1 s2 s3 sp ix a13)) a7 (val l 4 s2 s3 sp ix a13)+1) (by omega) (by omega),
    Rnd.refBelow_f,zay,Rnd.refBelow_f,zay,zcm,zay,zcm,zay,
    (tdiv_pos (val l 3 s2 s3 sp ix a13*65536 / 65535) 65536 (by omega) (Int.ediv_nonneg p5.1 (by omega))).2]
  rfl
theorem bdab_bd (a0 a7 sd:Int) (l:List DY) (s:SM) (sp ix:Int) (h0:1≤a0∧a0≤1024):(-16777216≤(bdab a0 a7 sd l s sp ix).f0∧(bdab a0 a7 sd l s sp ix).f0≤16777216)∧(-16777216≤(bdab a0 a7 sd l s sp ix).f1∧(bdab a0 a7 sd l s sp ix).f1≤16777216)∧(1≤(bdab a0 a7 sd l s sp ix).f2∧(bdab a0 a7 sd l s sp ix).f2≤1024)∧(0≤(bdab a0 a7 sd l s sp ix).f3∧(bdab a0 a7 sd l s sp ix).f3≤65535)∧(0≤(bdab a0 a7 sd l s sp ix).f4∧(bdab a0 a7 sd l s sp ix).f4<65536):=
  ⟨clP_bd _,clP_bd _,bsize_bd a0 _ h0 (val_bd _ _ _ _ _ _ _),val_bd _ _ _ _ _ _ _,Int.emod_nonneg _ (by omega),Int.emod_lt_of_pos _ (by omega)⟩
def bspc (a5 sz:Int):Int:=16*mx 1 (rdiv (sz*a5) 100)
theorem bspc_bd (a5 sz:Int) (h5:1≤a5∧a5≤1000) (h:1≤sz∧sz≤1024):(0≤sz*a5∧sz*a5≤1024000)∧(1≤mx 1 (rdiv (sz*a5) 100)∧mx 1 (rdiv (sz*a5) 100)≤10240)∧16≤bspc a5 sz∧bspc a5 sz≤163840:=by
  have p:=mulr (show 0≤sz by omega) h.2 (show 0≤a5 by omega) h5.2
  have r:=rdiv_lim (sz*a5) 100 (by omega) 10240 (by omega) (by omega)
  have m:1≤mx 1 (rdiv (sz*a5) 100)∧mx 1 (rdiv (sz*a5) 100)≤10240:=by unfold mx;split <;> omega
  unfold bspc
  exact ⟨by omega,m,by omega,by omega⟩
theorem spacing_f (k:Nat) (hk:1≤k) (a0 a1 a2 a3 a4 a5 a6 a7 a8 a9 a10 a11 a12 a13:Int) (l:List DY) (e:Bool) (d0 d1 d2 d3 d4:Int) (h5:1≤a5∧a5≤1000) (h:1≤d2∧d2≤1024) :
    zbP.f k a0 a1 a2 a3 a4 a5 a6 a7 a8 a9 a10 a11 a12 a13 l e d0 d1 d2 d3 d4=some (bspc a5 d2):=by
  obtain ⟨k,rfl⟩ : ∃ m,k=m+1:=⟨k - 1,by omega⟩
  obtain ⟨p,m,q⟩:=bspc_bd a5 d2 h5 h
  unfold zbP.f
  rw [w64 (n:=d2*a5) (by omega) (by omega),div_f k _ 100 (by omega) (by omega) (by omega) (by omega),zay,w64 (by omega) (by omega)]
  rfl
theorem refSpacing_f (k:Nat) (hk:2≤k) (a0 a1 a2 a3 a4 a5 a6 a7 a8 a9 a10 a11 a12 a13:Int) (l:List DY) (e:Bool) (d0 d1 d2 d3 d4:Int) (h5:1≤a5∧a5≤1000) (h:1≤d2∧d2≤1024) :
    zba.f k a0 a1 a2 a3 a4 a5 a6 a7 a8 a9 a10 a11 a12 a13 l e d0 d1 d2 d3 d4=some (bspc a5 d2):=by
  obtain ⟨k,rfl⟩ : ∃ m,k=m+2:=⟨k - 2,by omega⟩
  obtain ⟨p,m,q⟩:=bspc_bd a5 d2 h5 h
  unfold zba.f
  rw [w64 (n:=d2*a5) (by omega) (by omega),refDiv_f (k+1) _ 100 (by omega) (by omega) (by omega) (by omega),zay,w64 (by omega) (by omega)]
  rfl
def bpart (p q d n:Int):Int:=wrap64 (p+rdiv ((q - p)*d) n)
def bmid (p q:SM) (d n:Int):SM:=⟨bpart p.f0 q.f0 d n,bpart p.f1 q.f1 d n,bpart p.f2 q.f2 d n,bpart p.f3 q.f3 d n,bpart p.f4 q.f4 d n⟩
theorem smul {a b m n:Int} (a0 : -m≤a) (a1:a≤m) (b0:0≤b) (b1:b≤n) : -(m*n)≤a*b∧a*b≤m*n:=by
  have m0:0≤m:=by omega
  have h1:a*b≤m*n:=Int.le_trans (Int.mul_le_mul_of_nonneg_right a1 b0) (Int.mul_le_mul_of_nonneg_left b1 m0)
  have h2 : -a*b≤m*n:=Int.le_trans (Int.mul_le_mul_of_nonneg_right (show -a≤m by omega) b0) (Int.mul_le_mul_of_nonneg_left b1 m0)
  rw [Int.neg_mul] at h2
  omega
theorem part_f (k:Nat) (p q d n:Int) (hp : -16777216≤p∧p≤1073741824) (hq : -16777216≤q∧q≤1073741824) (hd:0≤d∧d≤n) (hn:1≤n∧n≤1073741824):zbl.f (k+1) (wrap64 ((wrap64 (q - p))*d)) n=some (rdiv ((q - p)*d) n):=by
  have b:=smul (a:=q - p) (b:=d) (m:=2000000000) (n:=1073741824) (by omega) (by omega) hd.1 (by omega)
  rw [w64 (n:=q - p) (by omega) (by omega),w64 (n:=(q - p)*d) (by omega) (by omega),div_f k _ n (by omega) (by omega) (by omega) (by omega)]
theorem refPart_f (k:Nat) (p q d n:Int) (hp : -16777216≤p∧p≤1073741824) (hq : -16777216≤q∧q≤1073741824) (hd:0≤d∧d≤n) (hn:1≤n∧n≤1073741824):zaU.f (k+2) p q d n=some (bpart p q d n):=by
  have b:=smul (a:=q - p) (b:=d) (m:=2000000000) (n:=1073741824) (by omega) (by omega) hd.1 (by omega)
  unfold zaU.f
  rw [w64 (n:=q - p) (by omega) (by omega),w64 (n:=(q - p)*d) (by omega) (by omega),refDiv_f (k+1) _ n (by omega) (by omega) (by omega) (by omega),zay]
  rfl
theorem sampleAt_f (k:Nat) (hk:1≤k) (p q:SM) (d n:Int) (hp:sgood p) (hq:sgood q) (hd:0≤d∧d≤n) (hn:1≤n∧n≤1073741824) :
    zbC.f k p.f0 p.f1 p.f2 p.f3 p.f4 q.f0 q.f1 q.f2 q.f3 q.f4 d n=some ((bmid p q d n).f0,(bmid p q d n).f1,(bmid p q d n).f2,(bmid p q d n).f3,(bmid p q d n).f4):=by
  obtain ⟨k,rfl⟩ : ∃ m,k=m+1:=⟨k - 1,by omega⟩
  obtain ⟨p0,p1,p2,p3,p4⟩:=hp
  obtain ⟨q0,q1,q2,q3,q4⟩:=hq
  unfold zbC.f
  rw [part_f k _ _ _ _ (by omega) (by omega) hd hn,zay,part_f k _ _ _ _ (by omega) (by omega) hd hn,zay,part_f k _ _ _ _ (by omega) (by omega) hd hn,zay,part_f k _ _ _ _ (by omega) (by omega) hd hn,zay,part_f k _ _ _ _ (by omega) (by omega) hd hn,zay]
  rfl
theorem refBetween_f (k:Nat) (hk:2≤k) (p q:SM) (d n:Int) (hp:sgood p) (hq:sgood q) (hd:0≤d∧d≤n) (hn:1≤n∧n≤1073741824) :
    zbd.f k p.f0 p.f1 p.f2 p.f3 p.f4 q.f0 q.f1 q.f2 q.f3 q.f4 d n=some ((bmid p q d n).f0,(bmid p q d n).f1,(bmid p q d n).f2,(bmid p q d n).f3,(bmid p q d n).f4):=by
  obtain ⟨k,rfl⟩ : ∃ m,k=m+2:=⟨k - 2,by omega⟩
  obtain ⟨p0,p1,p2,p3,p4⟩:=hp
  obtain ⟨q0,q1,q2,q3,q4⟩:=hq
  unfold zbd.f
  rw [refPart_f k _ _ _ _ (by omega) (by omega) hd hn,zay,refPart_f k _ _ _ _ (by omega) (by omega) hd hn,zay,refPart_f k _ _ _ _ (by omega) (by omega) hd hn,zay,refPart_f k _ _ _ _ (by omega) (by omega) hd hn,zay,refPart_f k _ _ _ _ (by omega) (by omega) hd hn,zay]
  rfl
def blen (p q:SM):Int:=hyp (16*(q.f0 - p.f0)) (16*(q.f1 - p.f1))
theorem blen_bd (p q:SM) (hp:sgood p) (hq:sgood q):0≤blen p q∧blen p q≤1073741824:=by
  obtain ⟨p0,p1,_⟩:=hp
  obtain ⟨q0,q1,_⟩:=hq
  obtain ⟨h0,_,h1,_⟩:=hyp_is (16*(q.f0 - p.f0)) (16*(q.f1 - p.f1)) (by omega) (by omega) (by omega) (by omega)
  have sq : ∀ z:Int,-536870912≤z→z≤536870912→z*z≤536870912*536870912:=fun z a b=>by
    by_cases s:0≤z
    · exact Int.mul_le_mul b b s (by omega)
    · have e:z*z=(-z)*(-z):=(Int.neg_mul_neg z z).symm
      rw [e]
      exact Int.mul_le_mul (by omega) (by omega) (by omega) (by omega)
  have a:=sq (16*(q.f0 - p.f0)) (by omega) (by omega)
  have b:=sq (16*(q.f1 - p.f1)) (by omega) (by omega)
  refine ⟨h0,?_⟩
  apply Int.le_of_not_gt
  intro hc
  unfold blen at hc
  have:=Int.mul_le_mul (show (1073741825:Int)≤hyp (16*(q.f0 - p.f0)) (16*(q.f1 - p.f1)) by omega) (show (1073741825:Int)≤hyp (16*(q.f0 - p.f0)) (16*(q.f1 - p.f1)) by omega) (by omega) (by omega)
  omega
theorem length_f (k:Nat) (hk:70≤k) (p q:SM) (hp:sgood p) (hq:sgood q):zcu.f k p.f0 p.f1 p.f2 p.f3 p.f4 q.f0 q.f1 q.f2 q.f3 q.f4=some (blen p q):=by
  obtain ⟨k,rfl⟩ : ∃ m,k=m+1+64:=⟨k - 65,by omega⟩
  obtain ⟨p0,p1,_⟩:=hp
  obtain ⟨q0,q1,_⟩:=hq
  unfold zcu.f
  rw [w64 (n:=q.f0 - p.f0) (by omega) (by omega),w64 (n:=q.f1 - p.f1) (by omega) (by omega),w64 (n:=16*(q.f0 - p.f0)) (by omega) (by omega),w64 (n:=16*(q.f1 - p.f1)) (by omega) (by omega),hypot_f _ _ _ (by omega) (by omega) (by omega) (by omega),zay]
  rfl
theorem refLen_f (k:Nat) (hk:70≤k) (p q:SM) (hp:sgood p) (hq:sgood q):zaq.f k (wrap64 (16*(wrap64 (q.f0 - p.f0)))) (wrap64 (16*(wrap64 (q.f1 - p.f1))))=some (blen p q):=by
  obtain ⟨k,rfl⟩ : ∃ m,k=m+66:=⟨k - 66,by omega⟩
  obtain ⟨p0,p1,_⟩:=hp
  obtain ⟨q0,q1,_⟩:=hq
  rw [w64 (n:=q.f0 - p.f0) (by omega) (by omega),w64 (n:=q.f1 - p.f1) (by omega) (by omega),w64 (n:=16*(q.f0 - p.f0)) (by omega) (by omega),w64 (n:=16*(q.f1 - p.f1)) (by omega) (by omega),refHypot_f _ _ _ (by omega) (by omega) (by omega) (by omega)]
  rfl
end Go.Proofs.Ytlilncnoohfcdaa.Num
