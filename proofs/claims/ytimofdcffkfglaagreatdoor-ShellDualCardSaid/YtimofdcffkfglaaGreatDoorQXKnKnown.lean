/- Parts. -/
import Derived.Test.YtimofdcffkfglaaGreatDoorQL
import Derived.Test.YtimofdcffkfglaaGreatDoorQO
set_option linter.all false
namespace Go.Proofs.Kn
open Go Go.Ev
set_option maxRecDepth 100000
noncomputable def qEM (o:Option (Ex×St)) (rs:List ResultVar):Bool:=
 match o with
 |some (.ret,st)=>(match st.mks with
  |[]=>(match vI (E x0) st.tm st.h rs with
   |some [.val (.bool true)]=>true
   |_=>false)
  |_=>false)
 |_=>false
theorem qGE {o:Option (Ex×St)} {rs:List ResultVar} (h:qEM o rs=true): ∃st,o=some (.ret,st)/\st.mks=[]/\vI (E x0) st.tm st.h rs=some [.val (.bool true)]:=by
 unfold qEM at h;split at h
 ·rename_i st;split at h
  ·rename_i hm;split at h
   ·rename_i hr;exact ⟨st,rfl,hm,hr⟩
   ·cases h
  ·cases h
 ·cases h
theorem stepEnd:qEM ((ev (E x0) 100000 2000).code none cd6 kst6) [.tmp 0]=true:=by kernel_rfl
theorem isSeqs:(qBO cd0 && qBO cd1 && qBO cd2 && qBO cd3 && qBO cd4 && qBO cd5)=true:=by kernel_rfl
theorem body8:Tryz.f16.body=some cd0:=by kernel_rfl
theorem results8:Tryz.f16.results.toList=[.tmp 0]:=by kernel_rfl
theorem ft8:(E x0).ft.get 16=some Tryz.f16:=by kernel_rfl
theorem kst0_eq:kst0={tm:=argsTo [] 0 .e,nt:=([]:List AV).length+(Tryz.f16.ntmps - ([]:List AV).length),h:={t:= .e,n:=0},mks:=[]}:=by kernel_rfl
theorem known_ok (w:World):Calls Tryz.prog 16 #[] w fun e w'=>e= .returned (.bool true)/\RowKit.Below w.heap.size w w':=by
 obtain ⟨st,h1,h2,h3⟩:=qGE stepEnd;have hs:=isSeqs;simp only [Bool.and_eq_true] at hs;obtain ⟨⟨⟨⟨⟨q0,q1⟩,q2⟩,q3⟩,q4⟩,q5⟩:=hs;have hE:SemC (E x0) none cd6 kst6 .ret st:=SemC.of (xA x0 100000 2000).1 h1;have hall:SemC (E x0) none cd0 kst0 .ret st:=
  SemC.step q0 step0<|SemC.step q1 step1<|SemC.step q2 step2<|SemC.step q3 step3<|SemC.step q4 step4<|SemC.step q5 step5 hE
 rw [kst0_eq] at hall;obtain ⟨n1,hc⟩:=SemC.enter (ftok x0) qAp ft8 body8 hall (by rw [h2];rfl) (.inr rfl) (by rw [results8];exact h3);have:=hc st.h.n (Nat.le_refl _) noCtx w [] (good_none _ w) (fun _ _ h=>by cases h) RL.nil;refine callsIn_wide.1 (this.mono ?_);rintro e w' ⟨c',hst,y,rfl,hy⟩;refine ⟨?_,hst.belowOf⟩;simp only [zH,R] at hy;rw [hy]
end Go.Proofs.Kn
