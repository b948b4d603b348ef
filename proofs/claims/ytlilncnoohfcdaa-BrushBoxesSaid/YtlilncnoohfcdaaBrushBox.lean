/-
  Plain facts on layer 28: the box of dabs, of the program and of the reference alike. Conditions stand in each statement (enough rounds; angles of 64 bits).
-/
import Derived.Test.YtlilncnoohfcdaaBrx18
import Derived.Test.YtlilncnoohfcdaaBrx9
import Derived.Test.YtlilncnoohfcdaaRect
import Derived.Test.YtlilncnoohfcdaaBrush
namespace Go.Proofs.Ytlilncnoohfcdaa.Num
open Go.RowKit Go.Proofs.YtlilncnoohfcdaaW.PrintWords Go.Proofs.YtlilncnoohfcdaaW.PrintLast Go.Proofs.YtlilncnoohfcdaaW.PrintMore Go.Proofs.Ytlilncnoohfcdaa.Da Go.Proofs.Ytlilncnoohfcdaa.Br
def rempty (w h:Int):Bool:=if w=0 then true else h==0
theorem rempty_no {w h:Int} (h1 : ¬ rempty w h=true):w≠0∧h≠0:=by
  unfold rempty at h1
  split at h1
  · exact absurd rfl h1
  · rename_i c;exact ⟨c,fun e=>h1 (by rw [e];rfl)⟩
def rjoin (a b:Int×Int×Int×Int):Int×Int×Int×Int:=
  if rempty a.2.2.1 a.2.2.2=true then (if rempty b.2.2.1 b.2.2.2=true then (0,0,0,0) else b)
  else if rempty b.2.2.1 b.2.2.2=true then a
  else (mn a.1 b.1,mn a.2.1 b.2.1,mx (a.1+a.2.2.1) (b.1+b.2.2.1) - mn a.1 b.1,mx (a.2.1+a.2.2.2) (b.2.1+b.2.2.2) - mn a.2.1 b.2.1)
def rvalid' (a:Int×Int×Int×Int):Bool:=rvalid a.1 a.2.1 a.2.2.1 a.2.2.2
theorem rvalid_zero:rvalid' (0,0,0,0)=true:=by decide
theorem rjoin_valid (a b:Int×Int×Int×Int) (ha:rvalid' a=true) (hb:rvalid' b=true):rvalid' (rjoin a b)=true:=by
  unfold rjoin
  split
  · split
    · exact rvalid_zero
    · exact hb
  · split
    · exact ha
    · have p:=of_decide_eq_true ha
      have q:=of_decide_eq_true hb
      unfold rvalid' rvalid mn mx
      apply decide_eq_true
      dsimp only
      (repeat' split) <;> omega
theorem rectJoin_f (k:Nat) (x y w h u v m n:Int) (ha:rvalid x y w h=true) (hb:rvalid u v m n=true):zbX.f (k+1) x y w h u v m n=some (rjoin (x,y,w,h) (u,v,m,n)):=by
  unfold zbX.f rjoin
  rw [rectEmpty_f x y w h ha,zay,rectEmpty_f u v m n hb,zay,zbX.j0.eq_2,zbX.j0.eq_2,rectEmpty_f x y w h ha,zay,rectEmpty_f u v m n hb,zay]
  dsimp only
  rw [show (if w=0 then true else h==0)=rempty w h from rfl,show (if m=0 then true else n==0)=rempty m n from rfl]
  by_cases c1:rempty w h=true
  · rw [if_pos c1,if_pos c1]
    by_cases c2:rempty m n=true
    · rw [if_pos c2,if_pos c1,if_pos c2]
    · rw [if_neg c2,if_pos c1,if_neg c2]
  · rw [if_neg c1,if_neg c1,if_neg (show ¬ (false=true) by decide),if_neg c1]
    by_cases c2:rempty m n=true
    · rw [if_pos c2,if_pos c2]
    · have p:=of_decide_eq_true ha
      have q:=of_decide_eq_true hb
      obtain ⟨e1,e2⟩:=rempty_no c1
      obtain ⟨e3,e4⟩:=rempty_no c2
      rw [if_neg c2,if_neg c2,w64 (n:=x+w) (by omega) (by omega),w64 (n:=u+m) (by omega) (by omega),w64 (n:=y+h) (by omega) (by omega),w64 (n:=v+n) (by omega) (by omega)]
      unfold zb2.f
      have m1:x<mx (x+w) (u+m)∧mx (x+w) (u+m)≤2097152:=by unfold mx;split <;> omega
      have m2:mn x u≤x∧-1048576≤mn x u:=by unfold mn;split <;> omega
      have m3:y<mx (y+h) (v+n)∧mx (y+h) (v+n)≤2097152:=by unfold mx;split <;> omega
      have m4:mn y v≤y∧-1048576≤mn y v:=by unfold mn;split <;> omega
      rw [if_neg (by omega),if_neg (by omega),zay,w64 (by omega) (by omega),w64 (by omega) (by omega)]
theorem refSpan_f (k:Nat) (x y w h:Int) (i:Int) (ha:rvalid x y w h=true) (he : ¬ rempty w h=true):zax.f (k+1) x y w h i=some (if i=0 then (x,x+w - 1) else (y,y+h - 1)):=by
  have p:=of_decide_eq_true ha
  obtain ⟨e1,e2⟩:=rempty_no he
  unfold zax.f
  rw [refRectValid_f,zay,if_pos ha,if_neg e1,zax.j0.eq_2,if_neg (by simpa using e2),w64 (n:=x+w) (by omega) (by omega),w64 (n:=x+w - 1) (by omega) (by omega),w64 (n:=y+h) (by omega) (by omega),w64 (n:=y+h - 1) (by omega) (by omega)]
  by_cases c:i=0
  · rw [if_pos c,if_pos c]
  · rw [if_neg c,if_neg c]
theorem refRectJoin_f (k:Nat) (x y w h u v m n:Int) (ha:rvalid x y w h=true) (hb:rvalid u v m n=true):za6.f (k+2) x y w h u v m n=some (rjoin (x,y,w,h) (u,v,m,n)):=by
  unfold za6.f rjoin
  rw [refRectEmpty_f x y w h ha,zay,refRectEmpty_f u v m n hb,zay,za6.j0.eq_2,za6.j0.eq_2,refRectEmpty_f x y w h ha,zay,refRectEmpty_f u v m n hb,zay]
  dsimp only
  rw [show (if w=0 then true else h==0)=rempty w h from rfl,show (if m=0 then true else n==0)=rempty m n from rfl]
  by_cases c1:rempty w h=true
  · rw [if_pos c1,if_pos c1]
    by_cases c2:rempty m n=true
    · rw [if_pos c2,if_pos c1,if_pos c2]
    · rw [if_neg c2,if_pos c1,if_neg c2]
  · rw [if_neg c1,if_neg c1,if_neg (show ¬ (false=true) by decide),if_neg c1]
    by_cases c2:rempty m n=true
    · rw [if_pos c2,if_pos c2]
    · have p:=of_decide_eq_true ha
      have q:=of_decide_eq_true hb
      obtain ⟨e1,e2⟩:=rempty_no c1
      obtain ⟨e3,e4⟩:=rempty_no c2
      rw [if_neg c2,if_neg c2,refSpan_f k x y w h 0 ha c1,zay,refSpan_f k x y w h 1 ha c1,zay,refSpan_f k u v m n 0 hb c2,zay,refSpan_f k u v m n 1 hb c2,zay,if_pos rfl,if_pos rfl,if_neg (by decide),if_neg (by decide)]
      dsimp only
      have m1:x<mx (x+w) (u+m)∧mx (x+w) (u+m)≤2097152∧mx (x+w - 1) (u+m - 1)=mx (x+w) (u+m) - 1:=by unfold mx;split <;> split <;> omega
      have m2:mn x u≤x∧-1048576≤mn x u:=by unfold mn;split <;> omega
      have m3:y<mx (y+h) (v+n)∧mx (y+h) (v+n)≤2097152∧mx (y+h - 1) (v+n - 1)=mx (y+h) (v+n) - 1:=by unfold mx;split <;> split <;> omega
      have m4:mn y v≤y∧-1048576≤mn y v:=by unfold mn;split <;> omega
      unfold zbi.f
      rw [m1.2.2,m3.2.2,if_neg (by omega),if_neg (by omega),zay,w64 (n:=mx (x+w) (u+m) - 1 - mn x u) (by omega) (by omega),w64 (n:=mx (y+h) (v+n) - 1 - mn y v) (by omega) (by omega),w64 (by omega) (by omega),w64 (by omega) (by omega),
        show mx (x+w) (u+m) - 1 - mn x u+1=mx (x+w) (u+m) - mn x u by omega,show mx (y+h) (v+n) - 1 - mn y v+1=mx (y+h) (v+n) - mn y v by omega]
theorem bbox_valid (x y s:Int):rvalid' (bbox x y s)=true:=by
  have a0:=clC_bd ((clP x - (clS s+1) / 2) / 16)
  have a1:=clC_bd ((clP y - (clS s+1) / 2) / 16)
  have a2:=clC_bd ((clP x+(clS s+1) / 2) / 16+1)
  have a3:=clC_bd ((clP y+(clS s+1) / 2) / 16+1)
  unfold bbox rvalid' rvalid
  dsimp only
  split
  · decide
  · split
    · decide
    · apply decide_eq_true
      unfold mn at *
      dsimp only
      (repeat' split at *) <;> omega
def bbl (l:List DB):Nat→Int→Int×Int×Int×Int→Int×Int×Int×Int
  | 0,_,r=>r
  | d+1,i,r=>bbl l d (i+1) (rjoin r (bbox (zag l i).f0 (zag l i).f1 (zag l i).f2))
def bboxes (l:List DB):Int×Int×Int×Int:=bbl l l.length 0 (0,0,0,0)
theorem brushBox_l (l:List DB) (hl:l.length≤9000000000000000000) (hw : ∀ j:Int,0≤j→j<l.length→-9223372036854775808≤(zag l j).f4∧(zag l j).f4<9223372036854775808) (d:Nat) :
    ∀ (k:Nat) (i:Int) (r:Int×Int×Int×Int),0≤i→i+d=l.length→d+2≤k→rvalid' r=true→zbF.l0 k l (l.length:Int) i r.1 r.2.1 r.2.2.1 r.2.2.2=some (bbl l d i r):=by
  induction d with
  | zero=>
    intro k i r h0 h1 hk hr
    obtain ⟨k,rfl⟩ : ∃ m,k=m+1:=⟨k - 1,by omega⟩
    rw [zbF.l0.eq_2,if_neg (by omega)];rfl
  | succ d ih=>
    intro k i r h0 h1 hk hr
    obtain ⟨k,rfl⟩ : ∃ m,k=m+2:=⟨k - 2,by omega⟩
    rw [zbF.l0.eq_2,if_pos (by omega),if_pos (by omega),if_pos (by omega),box_f _ _ _ _ _ (hw i h0 (by omega)),zay,rectJoin_f k _ _ _ _ _ _ _ _ hr (bbox_valid _ _ _),zay,w64 (n:=i+1) (by omega) (by omega)]
    exact ih (k+1) (i+1) _ (by omega) (by omega) (by omega) (rjoin_valid _ _ hr (bbox_valid _ _ _))
theorem brushBox_f (l:List DB) (hl:l.length≤9000000000000000000) (hw : ∀ j:Int,0≤j→j<l.length→-9223372036854775808≤(zag l j).f4∧(zag l j).f4<9223372036854775808) (k:Nat) (hk:l.length+2≤k):zbF.f k l=some (bboxes l):=
  brushBox_l l hl hw l.length k 0 (0,0,0,0) (by omega) (by omega) hk rvalid_zero
theorem refBrushBox_l (l:List DB) (hl:l.length≤9000000000000000000) (hw : ∀ j:Int,0≤j→j<l.length→-9223372036854775808≤(zag l j).f4∧(zag l j).f4<9223372036854775808) (d:Nat) :
    ∀ (k:Nat) (i:Int) (r:Int×Int×Int×Int),0≤i→i+d=l.length→d+3≤k→rvalid' r=true→zaN.l0 k l i r.1 r.2.1 r.2.2.1 r.2.2.2=some (bbl l d i r):=by
  induction d with
  | zero=>
    intro k i r h0 h1 hk hr
    obtain ⟨k,rfl⟩ : ∃ m,k=m+1:=⟨k - 1,by omega⟩
    rw [zaN.l0.eq_2,if_neg (by omega)];rfl
  | succ d ih=>
    intro k i r h0 h1 hk hr
    obtain ⟨k,rfl⟩ : ∃ m,k=m+3:=⟨k - 3,by omega⟩
    rw [zaN.l0.eq_2,if_pos (by omega),if_pos (by omega),refBox_f _ (by omega) _ _ _ _ _ (hw i h0 (by omega)),zay,refRectJoin_f k _ _ _ _ _ _ _ _ hr (bbox_valid _ _ _),zay,w64 (n:=i+1) (by omega) (by omega)]
    exact ih (k+2) (i+1) _ (by omega) (by omega) (by omega) (rjoin_valid _ _ hr (bbox_valid _ _ _))
theorem refBrushBox_f (l:List DB) (hl:l.length≤9000000000000000000) (hw : ∀ j:Int,0≤j→j<l.length→-9223372036854775808≤(zag l j).f4∧(zag l j).f4<9223372036854775808) (k:Nat) (hk:l.length+3≤k):zaN.f k l=some (bboxes l):=
  refBrushBox_l l hl hw l.length k 0 (0,0,0,0) (by omega) (by omega) hk rvalid_zero
end Go.Proofs.Ytlilncnoohfcdaa.Num
