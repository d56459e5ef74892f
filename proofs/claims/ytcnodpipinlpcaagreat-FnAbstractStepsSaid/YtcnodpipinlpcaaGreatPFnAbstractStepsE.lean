/- Texts merged into one: W6, W7, M24, M26, D3, D4. -/
import Derived.Test.YtcnodpipinlpcaaGreatPFnAbstractStepsD
set_option maxHeartbeats 4000000
set_option linter.unusedSimpArgs false
set_option linter.unusedVariables false
set_option maxRecDepth 20000
namespace Go.Proofs.YtcnodpipinlpcaaGreat
open Go Go.Rf
theorem a0q:a2L Tryz.prog 40 [.int .i64,.int .i64,.int .i64,.int .i64]=true:=by kernel_rfl
theorem G8 (yss:List (List CI)) (c:Int) (hn:yss.length≤1048576):Ctr Tryz.prog 158 [.agg [.v (.slice none 0 0),.v (.slice none 0 0),.v (.slice none 0 0),.nst none 4 yss],.v (.int .i64 c)] (.one (.v (.bool (u4 c 0 ((yss.length:Int) - 1))))):=by
 refine Ctr.of (n:=11) G Tryz.func158 rfl (by kernel_rfl) rfl rfl rfl (fun w0=>?_)
 refine r8 0 rfl (fun _=>rfl) (fun u0=>?_)
 refine b4 (fun K1 hK1=>?_)
 refine a6 ?_
 refine a1 rfl ?_
 refine y4 1 rfl rfl rfl rfl rfl rfl rfl ?_
 refine a1 rfl ?_
 refine a3 rfl rfl (a7 rfl rfl) ?_
 refine a4 ?_
 refine hK1 _ ?_
 clear hK1 K1
 refine b4 (fun K2 hK2=>?_)
 refine a6 ?_
 refine a1 rfl ?_
 refine a3 rfl rfl (a8 rfl rfl) ?_
 refine a1 rfl ?_
 refine a3 rfl rfl (b7 G rfl rfl rfl rfl) ?_
 refine a1 rfl ?_
 refine a3 rfl rfl (a1e (c4 G rfl rfl rfl rfl rfl rfl rfl)) ?_
 refine a1 rfl ?_
 first | refine a3 rfl rfl (r4 G rfl rfl rfl rfl (List.length_map _)) ?_ | refine a3 rfl rfl (t6 G rfl rfl rfl rfl) ?_
 refine a1 rfl ?_
 first | refine a3 rfl rfl (i8 rfl rfl rfl rfl (by omega) (by omega)) ?_ | refine a3 rfl rfl (k4 rfl rfl rfl rfl) ?_
 refine a1 rfl ?_
 refine a3 rfl rfl (k5 rfl (ArgsOK.of rfl) (B8 _ _ _) rfl) ?_
 refine a1 rfl ?_
 refine a3 rfl rfl (a7 rfl rfl) ?_
 refine a4 ?_
 refine hK2 _ ?_
 clear hK2 K2
 refine c8 ?_
 refine j4 rfl ?_
 refine g9 ?_
 all_goals ((first | rfl | (simp_all;done) | (simp_all;omega)))
theorem a3l (yss:List (List CI)) (s:MStep) (hn:yss.length≤1048576):Ctr Tryz.prog 106 [.agg [.v (.slice none 0 0),.v (.slice none 0 0),.v (.slice none 0 0),.nst none 4 yss],.v (a0g s)] (.one (.v (.bool (f8 yss.length s)))):=by
 refine Ctr.of (n:=75) G Tryz.func106 rfl (by kernel_rfl) rfl rfl rfl (fun w0=>?_)
 refine r8 0 rfl (fun _=>rfl) (fun u0=>?_)
 refine b4 (fun K1 hK1=>?_)
 refine a6 ?_
 refine a1 rfl ?_
 refine y4 1 rfl rfl rfl rfl rfl rfl rfl ?_
 refine a1 rfl ?_
 refine y4 2 rfl rfl rfl rfl rfl rfl rfl ?_
 refine a1 rfl ?_
 refine a3 rfl rfl (a7 rfl rfl) ?_
 refine a4 ?_
 refine hK1 _ ?_
 clear hK1 K1
 refine b4 (fun K2 hK2=>?_)
 refine b4 (fun K3 hK3=>?_)
 refine a6 ?_
 refine a1 rfl ?_
 refine a3 rfl rfl (b7 G rfl rfl rfl rfl) ?_
 refine a1 rfl ?_
 refine a3 rfl rfl (c4 G rfl rfl rfl rfl rfl rfl rfl) ?_
 refine a4 ?_
 refine hK3 _ ?_
 clear hK3 K3
 refine l8 ?_
 refine b4 (fun K4 hK4=>?_)
 refine a6 ?_
 refine a1 rfl ?_
 refine a3 rfl rfl (f9 rfl rfl rfl rfl) ?_
 refine a1 rfl ?_
 refine a3 rfl rfl (a7 rfl rfl) ?_
 refine a4 ?_
 refine hK4 _ ?_
 clear hK4 K4
 refine d1 rfl (fun h1=>?_) (fun h1=>?_)
 ·try rw [h1]
  try simp only [rfb] at h1
  refine b4 (fun K5 hK5=>?_)
  refine a6 ?_
  refine a1 rfl ?_
  refine a3 rfl rfl (b7 G rfl rfl rfl rfl) ?_
  refine a1 rfl ?_
  refine a3 rfl rfl (c4 G rfl rfl rfl rfl rfl rfl rfl) ?_
  refine a1 rfl ?_
  refine a3 rfl rfl (k5 rfl (ArgsOK.of rfl) (a0R _) rfl) ?_
  refine a1 rfl (a3 rfl rfl (a8 rfl rfl) (o8 rfl rfl rfl (fun h2=>?_) (fun h2=>?_)))
  ·try rw [h2]
   try simp only [rfb] at h2
   refine c6 rfl rfl rfl (a3 rfl rfl (b7 G rfl rfl rfl rfl) (c6 rfl rfl rfl (a3 rfl rfl (c4 G rfl rfl rfl rfl rfl rfl rfl) (c6 rfl rfl rfl (a3 rfl rfl (f9 rfl rfl rfl rfl) (a1 rfl (a3 rfl rfl (i5 rfl rfl rfl) (a1 rfl (a3 rfl rfl (a8 rfl rfl) (o8 rfl rfl rfl (fun h3=>?_) (fun h3=>?_)))))))))))
   ·try rw [h3]
    try simp only [rfb] at h3
    refine c6 rfl rfl rfl ?_
    refine a3 rfl rfl (b7 G rfl rfl rfl rfl) ?_
    refine c6 rfl rfl rfl ?_
    refine a3 rfl rfl (c4 G rfl rfl rfl rfl rfl rfl rfl) ?_
    refine c6 rfl rfl rfl ?_
    refine a3 rfl rfl (f9 rfl rfl rfl rfl) ?_
    refine a1 rfl ?_
    refine a3 rfl rfl (i5 rfl rfl rfl) ?_
    refine a1 rfl ?_
    refine a3 rfl rfl (a7 rfl rfl) ?_
    refine a4 ?_
    refine hK5 _ ?_
    clear hK5 K5
    refine c8 ?_
    refine j4 rfl ?_
    refine g9 ?_
    all_goals clear hK2 K2
    all_goals (first | rfl | (simp [f8, *];done) | (simp [f8, *];rfl) | (simp [f8, *,m6,r6];done))
   ·try rw [h3]
    try simp only [rfb] at h3
    refine b6 rfl rfl rfl rfl rfl rfl ?_
    refine b6 rfl rfl rfl rfl rfl rfl ?_
    refine b6 rfl rfl rfl rfl rfl rfl ?_
    refine a1 rfl ?_
    refine a3 rfl rfl (i7 rfl rfl rfl) ?_
    refine a1 rfl ?_
    refine a3 rfl rfl (a7 rfl rfl) ?_
    refine a4 ?_
    refine hK5 _ ?_
    clear hK5 K5
    refine c8 ?_
    refine j4 rfl ?_
    refine g9 ?_
    all_goals clear hK2 K2
    all_goals (first | rfl | (simp [f8, *];done) | (simp [f8, *];rfl) | (simp [f8, *,m6,r6];done))
  ·try rw [h2]
   try simp only [rfb] at h2
   refine b6 rfl rfl rfl rfl rfl rfl ?_
   refine b6 rfl rfl rfl rfl rfl rfl ?_
   refine b6 rfl rfl rfl rfl rfl rfl ?_
   refine a1 rfl ?_
   refine a3 rfl rfl (i7 rfl rfl rfl) ?_
   refine a1 rfl ?_
   refine a3 rfl rfl (a8 rfl rfl) ?_
   refine b6 rfl rfl rfl rfl rfl rfl ?_
   refine b6 rfl rfl rfl rfl rfl rfl ?_
   refine b6 rfl rfl rfl rfl rfl rfl ?_
   refine a1 rfl ?_
   refine a3 rfl rfl (i7 rfl rfl rfl) ?_
   refine a1 rfl ?_
   refine a3 rfl rfl (a7 rfl rfl) ?_
   refine a4 ?_
   refine hK5 _ ?_
   clear hK5 K5
   refine c8 ?_
   refine j4 rfl ?_
   refine g9 ?_
   all_goals clear hK2 K2
   all_goals (first | rfl | (simp [f8, *];done) | (simp [f8, *];rfl) | (simp [f8, *,m6,r6];done))
 ·try rw [h1]
  try simp only [rfb] at h1
  refine b4 (fun K6 hK6=>?_)
  refine a6 ?_
  refine a1 rfl ?_
  refine a3 rfl rfl (f9 rfl rfl rfl rfl) ?_
  refine a1 rfl ?_
  refine a3 rfl rfl (a7 rfl rfl) ?_
  refine a4 ?_
  refine hK6 _ ?_
  clear hK6 K6
  refine d1 rfl (fun h4=>?_) (fun h4=>?_)
  ·try rw [h4]
   try simp only [rfb] at h4
   refine b4 (fun K7 hK7=>?_)
   refine a6 ?_
   refine a1 rfl ?_
   refine a3 rfl rfl (b3 G rfl rfl rfl rfl rfl rfl) ?_
   refine a1 rfl ?_
   refine a3 rfl rfl (g0 G rfl rfl rfl rfl) ?_
   refine a1 rfl ?_
   refine a3 rfl rfl (b39 [.int .i64,.int .i64,.int .i64,.int .i64] rfl rfl rfl rfl rfl rfl rfl (.inl rfl) (.inl rfl) a0q ⟨_,_,rfl,⟨_,rfl⟩,_,_,rfl,⟨_,rfl⟩,_,_,rfl,⟨_,rfl⟩,_,_,rfl,⟨_,rfl⟩,rfl⟩ ⟨_,_,rfl,⟨_,rfl⟩,_,_,rfl,⟨_,rfl⟩,_,_,rfl,⟨_,rfl⟩,_,_,rfl,⟨_,rfl⟩,rfl⟩) ?_
   refine a1 rfl ?_
   refine a3 rfl rfl (a7 rfl rfl) ?_
   refine a4 ?_
   refine hK7 _ ?_
   clear hK7 K7
   refine c8 ?_
   refine j4 rfl ?_
   refine g9 ?_
   all_goals clear hK2 K2
   all_goals (first | rfl | (simp [f8, *];done) | (simp [f8, *];rfl) | (simp [f8, *,m6,r6];done))
  ·try rw [h4]
   try simp only [rfb] at h4
   refine b4 (fun K8 hK8=>?_)
   refine b4 (fun K9 hK9=>?_)
   refine a6 ?_
   refine a1 rfl ?_
   refine a3 rfl rfl (f9 rfl rfl rfl rfl) ?_
   refine a1 rfl ?_
   refine a3 rfl rfl (a7 rfl rfl) ?_
   refine a4 ?_
   refine hK9 _ ?_
   clear hK9 K9
   refine d1 rfl (fun h5=>?_) (fun h5=>?_)
   ·try rw [h5]
    try simp only [rfb] at h5
    refine e9 ?_
    refine hK8 _ ?_
    clear hK8 K8
    refine r7 rfl ?_
    refine b4 (fun K10 hK10=>?_)
    refine a6 (a1 rfl (a3 rfl rfl (b7 G rfl rfl rfl rfl) (a1 rfl (a3 rfl rfl (c4 G rfl rfl rfl rfl rfl rfl rfl) (a1 rfl (a3 rfl rfl (f9 rfl rfl rfl rfl) (a1 rfl (a3 rfl rfl (a8 rfl rfl) (o8 rfl rfl rfl (fun h6=>?_) (fun h6=>?_))))))))))
    ·try rw [h6]
     try simp only [rfb] at h6
     refine c6 rfl rfl rfl ?_
     refine a3 rfl rfl (b3 G rfl rfl rfl rfl rfl rfl) ?_
     refine c6 rfl rfl rfl ?_
     refine a3 rfl rfl (b7 G rfl rfl rfl rfl) ?_
     refine c6 rfl rfl rfl ?_
     refine a3 rfl rfl (c4 G rfl rfl rfl rfl rfl rfl rfl) ?_
     refine c6 rfl rfl rfl ?_
     refine a3 rfl rfl (k5 rfl (ArgsOK.of rfl) (G8 _ _ (by first | assumption | (simp;omega))) rfl) ?_
     refine a1 rfl (a3 rfl rfl (i5 rfl rfl rfl) (a1 rfl (a3 rfl rfl (a8 rfl rfl) (o8 rfl rfl rfl (fun h7=>?_) (fun h7=>?_)))))
     ·try rw [h7]
      try simp only [rfb] at h7
      refine c6 rfl rfl rfl ?_
      refine a3 rfl rfl (b7 G rfl rfl rfl rfl) ?_
      refine c6 rfl rfl rfl ?_
      refine a3 rfl rfl (c4 G rfl rfl rfl rfl rfl rfl rfl) ?_
      refine c6 rfl rfl rfl ?_
      refine a3 rfl rfl (f9 rfl rfl rfl rfl) ?_
      refine a1 rfl ?_
      refine a3 rfl rfl (i5 rfl rfl rfl) ?_
      refine a1 rfl ?_
      refine a3 rfl rfl (a7 rfl rfl) ?_
      refine a4 ?_
      refine hK10 _ ?_
      clear hK10 K10
      refine c8 ?_
      refine j4 rfl ?_
      refine g9 ?_
      all_goals clear hK2 K2
      all_goals (first | rfl | (simp [f8, *];done) | (simp [f8, *];rfl) | (simp [f8, *,m6,r6];done))
     ·try rw [h7]
      try simp only [rfb] at h7
      refine b6 rfl rfl rfl rfl rfl rfl ?_
      refine b6 rfl rfl rfl rfl rfl rfl ?_
      refine b6 rfl rfl rfl rfl rfl rfl ?_
      refine a1 rfl ?_
      refine a3 rfl rfl (i7 rfl rfl rfl) ?_
      refine a1 rfl ?_
      refine a3 rfl rfl (a7 rfl rfl) ?_
      refine a4 ?_
      refine hK10 _ ?_
      clear hK10 K10
      refine c8 ?_
      refine j4 rfl ?_
      refine g9 ?_
      all_goals clear hK2 K2
      all_goals (first | rfl | (simp [f8, *];done) | (simp [f8, *];rfl) | (simp [f8, *,m6,r6];done))
    ·try rw [h6]
     try simp only [rfb] at h6
     refine b6 rfl rfl rfl rfl rfl rfl ?_
     refine b6 rfl rfl rfl rfl rfl rfl ?_
     refine b6 rfl rfl rfl rfl rfl rfl ?_
     refine b6 rfl rfl rfl rfl rfl rfl ?_
     refine a1 rfl ?_
     refine a3 rfl rfl (i7 rfl rfl rfl) ?_
     refine a1 rfl ?_
     refine a3 rfl rfl (a8 rfl rfl) ?_
     refine b6 rfl rfl rfl rfl rfl rfl ?_
     refine b6 rfl rfl rfl rfl rfl rfl ?_
     refine b6 rfl rfl rfl rfl rfl rfl ?_
     refine a1 rfl ?_
     refine a3 rfl rfl (i7 rfl rfl rfl) ?_
     refine a1 rfl ?_
     refine a3 rfl rfl (a7 rfl rfl) ?_
     refine a4 ?_
     refine hK10 _ ?_
     clear hK10 K10
     refine c8 ?_
     refine j4 rfl ?_
     refine g9 ?_
     all_goals clear hK2 K2
     all_goals (first | rfl | (simp [f8, *];done) | (simp [f8, *];rfl) | (simp [f8, *,m6,r6];done))
   ·try rw [h5]
    try simp only [rfb] at h5
    refine a6 ?_
    refine a1 rfl ?_
    refine a3 rfl rfl (f9 rfl rfl rfl rfl) ?_
    refine a1 rfl ?_
    refine a3 rfl rfl (a7 rfl rfl) ?_
    refine a4 ?_
    refine hK8 _ ?_
    clear hK8 K8
    refine d1 rfl (fun h8=>?_) (fun h8=>?_)
    ·try rw [h8]
     try simp only [rfb] at h8
     refine b4 (fun K11 hK11=>?_)
     refine a6 (a1 rfl (a3 rfl rfl (b7 G rfl rfl rfl rfl) (a1 rfl (a3 rfl rfl (c4 G rfl rfl rfl rfl rfl rfl rfl) (a1 rfl (a3 rfl rfl (f9 rfl rfl rfl rfl) (a1 rfl (a3 rfl rfl (a8 rfl rfl) (o8 rfl rfl rfl (fun h9=>?_) (fun h9=>?_))))))))))
     ·try rw [h9]
      try simp only [rfb] at h9
      refine c6 rfl rfl rfl ?_
      refine a3 rfl rfl (b3 G rfl rfl rfl rfl rfl rfl) ?_
      refine c6 rfl rfl rfl ?_
      refine a3 rfl rfl (b7 G rfl rfl rfl rfl) ?_
      refine c6 rfl rfl rfl ?_
      refine a3 rfl rfl (c4 G rfl rfl rfl rfl rfl rfl rfl) ?_
      refine c6 rfl rfl rfl ?_
      refine a3 rfl rfl (k5 rfl (ArgsOK.of rfl) (G8 _ _ (by first | assumption | (simp;omega))) rfl) ?_
      refine a1 rfl (a3 rfl rfl (i5 rfl rfl rfl) (a1 rfl (a3 rfl rfl (a8 rfl rfl) (o8 rfl rfl rfl (fun h10=>?_) (fun h10=>?_)))))
      ·try rw [h10]
       try simp only [rfb] at h10
       refine c6 rfl rfl rfl ?_
       refine a3 rfl rfl (b7 G rfl rfl rfl rfl) ?_
       refine c6 rfl rfl rfl ?_
       refine a3 rfl rfl (c4 G rfl rfl rfl rfl rfl rfl rfl) ?_
       refine c6 rfl rfl rfl ?_
       refine a3 rfl rfl (f9 rfl rfl rfl rfl) ?_
       refine a1 rfl ?_
       refine a3 rfl rfl (i5 rfl rfl rfl) ?_
       refine a1 rfl ?_
       refine a3 rfl rfl (a7 rfl rfl) ?_
       refine a4 ?_
       refine hK11 _ ?_
       clear hK11 K11
       refine c8 ?_
       refine j4 rfl ?_
       refine g9 ?_
       all_goals clear hK2 K2
       all_goals (first | rfl | (simp [f8, *];done) | (simp [f8, *];rfl) | (simp [f8, *,m6,r6];done))
      ·try rw [h10]
       try simp only [rfb] at h10
       refine b6 rfl rfl rfl rfl rfl rfl ?_
       refine b6 rfl rfl rfl rfl rfl rfl ?_
       refine b6 rfl rfl rfl rfl rfl rfl ?_
       refine a1 rfl ?_
       refine a3 rfl rfl (i7 rfl rfl rfl) ?_
       refine a1 rfl ?_
       refine a3 rfl rfl (a7 rfl rfl) ?_
       refine a4 ?_
       refine hK11 _ ?_
       clear hK11 K11
       refine c8 ?_
       refine j4 rfl ?_
       refine g9 ?_
       all_goals clear hK2 K2
       all_goals (first | rfl | (simp [f8, *];done) | (simp [f8, *];rfl) | (simp [f8, *,m6,r6];done))
     ·try rw [h9]
      try simp only [rfb] at h9
      refine b6 rfl rfl rfl rfl rfl rfl ?_
      refine b6 rfl rfl rfl rfl rfl rfl ?_
      refine b6 rfl rfl rfl rfl rfl rfl ?_
      refine b6 rfl rfl rfl rfl rfl rfl ?_
      refine a1 rfl ?_
      refine a3 rfl rfl (i7 rfl rfl rfl) ?_
      refine a1 rfl ?_
      refine a3 rfl rfl (a8 rfl rfl) ?_
      refine b6 rfl rfl rfl rfl rfl rfl ?_
      refine b6 rfl rfl rfl rfl rfl rfl ?_
      refine b6 rfl rfl rfl rfl rfl rfl ?_
      refine a1 rfl ?_
      refine a3 rfl rfl (i7 rfl rfl rfl) ?_
      refine a1 rfl ?_
      refine a3 rfl rfl (a7 rfl rfl) ?_
      refine a4 ?_
      refine hK11 _ ?_
      clear hK11 K11
      refine c8 ?_
      refine j4 rfl ?_
      refine g9 ?_
      all_goals clear hK2 K2
      all_goals (first | rfl | (simp [f8, *];done) | (simp [f8, *];rfl) | (simp [f8, *,m6,r6];done))
    ·try rw [h8]
     try simp only [rfb] at h8
     refine b4 (fun K12 hK12=>?_)
     refine a6 ?_
     refine a1 rfl ?_
     refine a3 rfl rfl (f9 rfl rfl rfl rfl) ?_
     refine a1 rfl ?_
     refine a3 rfl rfl (a7 rfl rfl) ?_
     refine a4 ?_
     refine hK12 _ ?_
     clear hK12 K12
     refine d1 rfl (fun h11=>?_) (fun h11=>?_)
     ·try rw [h11]
      try simp only [rfb] at h11
      refine b4 (fun K13 hK13=>?_)
      refine a6 (a1 rfl (a3 rfl rfl (b7 G rfl rfl rfl rfl) (a1 rfl (a3 rfl rfl (c4 G rfl rfl rfl rfl rfl rfl rfl) (a1 rfl (a3 rfl rfl (f9 rfl rfl rfl rfl) (a1 rfl (a3 rfl rfl (a8 rfl rfl) (o8 rfl rfl rfl (fun h12=>?_) (fun h12=>?_))))))))))
      ·try rw [h12]
       try simp only [rfb] at h12
       refine c6 rfl rfl rfl ?_
       refine a3 rfl rfl (b3 G rfl rfl rfl rfl rfl rfl) ?_
       refine c6 rfl rfl rfl ?_
       refine a3 rfl rfl (b7 G rfl rfl rfl rfl) ?_
       refine c6 rfl rfl rfl ?_
       refine a3 rfl rfl (c4 G rfl rfl rfl rfl rfl rfl rfl) ?_
       refine c6 rfl rfl rfl ?_
       refine a3 rfl rfl (k5 rfl (ArgsOK.of rfl) (G8 _ _ (by first | assumption | (simp;omega))) rfl) ?_
       refine a1 rfl (a3 rfl rfl (i5 rfl rfl rfl) (a1 rfl (a3 rfl rfl (a8 rfl rfl) (o8 rfl rfl rfl (fun h13=>?_) (fun h13=>?_)))))
       ·try rw [h13]
        try simp only [rfb] at h13
        refine c6 rfl rfl rfl ?_
        refine a3 rfl rfl (b7 G rfl rfl rfl rfl) ?_
        refine c6 rfl rfl rfl ?_
        refine a3 rfl rfl (c4 G rfl rfl rfl rfl rfl rfl rfl) ?_
        refine c6 rfl rfl rfl ?_
        refine a3 rfl rfl (k5 rfl (ArgsOK.of rfl) (a11 _) rfl) ?_
        refine a1 rfl ?_
        refine a3 rfl rfl (i5 rfl rfl rfl) ?_
        refine a1 rfl ?_
        refine a3 rfl rfl (a7 rfl rfl) ?_
        refine a4 ?_
        refine hK13 _ ?_
        clear hK13 K13
        refine c8 ?_
        refine j4 rfl ?_
        refine g9 ?_
        all_goals clear hK2 K2
        all_goals (first | rfl | (simp [f8, *];done) | (simp [f8, *];rfl) | (simp [f8, *,m6,r6];done))
       ·try rw [h13]
        try simp only [rfb] at h13
        refine b6 rfl rfl rfl rfl rfl rfl ?_
        refine b6 rfl rfl rfl rfl rfl rfl ?_
        refine b6 rfl rfl rfl rfl rfl rfl ?_
        refine a1 rfl ?_
        refine a3 rfl rfl (i7 rfl rfl rfl) ?_
        refine a1 rfl ?_
        refine a3 rfl rfl (a7 rfl rfl) ?_
        refine a4 ?_
        refine hK13 _ ?_
        clear hK13 K13
        refine c8 ?_
        refine j4 rfl ?_
        refine g9 ?_
        all_goals clear hK2 K2
        all_goals (first | rfl | (simp [f8, *];done) | (simp [f8, *];rfl) | (simp [f8, *,m6,r6];done))
      ·try rw [h12]
       try simp only [rfb] at h12
       refine b6 rfl rfl rfl rfl rfl rfl ?_
       refine b6 rfl rfl rfl rfl rfl rfl ?_
       refine b6 rfl rfl rfl rfl rfl rfl ?_
       refine b6 rfl rfl rfl rfl rfl rfl ?_
       refine a1 rfl ?_
       refine a3 rfl rfl (i7 rfl rfl rfl) ?_
       refine a1 rfl ?_
       refine a3 rfl rfl (a8 rfl rfl) ?_
       refine b6 rfl rfl rfl rfl rfl rfl ?_
       refine b6 rfl rfl rfl rfl rfl rfl ?_
       refine b6 rfl rfl rfl rfl rfl rfl ?_
       refine a1 rfl ?_
       refine a3 rfl rfl (i7 rfl rfl rfl) ?_
       refine a1 rfl ?_
       refine a3 rfl rfl (a7 rfl rfl) ?_
       refine a4 ?_
       refine hK13 _ ?_
       clear hK13 K13
       refine c8 ?_
       refine j4 rfl ?_
       refine g9 ?_
       all_goals clear hK2 K2
       all_goals (first | rfl | (simp [f8, *];done) | (simp [f8, *];rfl) | (simp [f8, *,m6,r6];done))
     ·try rw [h11]
      try simp only [rfb] at h11
      refine b4 (fun K14 hK14=>?_)
      refine a6 ?_
      refine a1 rfl ?_
      refine a3 rfl rfl (f9 rfl rfl rfl rfl) ?_
      refine a1 rfl ?_
      refine a3 rfl rfl (a7 rfl rfl) ?_
      refine a4 ?_
      refine hK14 _ ?_
      clear hK14 K14
      refine d1 rfl (fun h14=>?_) (fun h14=>?_)
      ·try rw [h14]
       try simp only [rfb] at h14
       refine b4 (fun K15 hK15=>?_)
       refine a6 ?_
       refine a1 rfl ?_
       refine a3 rfl rfl (b7 G rfl rfl rfl rfl) ?_
       refine a1 rfl ?_
       refine a3 rfl rfl (c4 G rfl rfl rfl rfl rfl rfl rfl) ?_
       refine a1 rfl ?_
       refine a3 rfl rfl (k5 rfl (ArgsOK.of rfl) (a0R _) rfl) ?_
       refine a1 rfl (a3 rfl rfl (a8 rfl rfl) (o8 rfl rfl rfl (fun h15=>?_) (fun h15=>?_)))
       ·try rw [h15]
        try simp only [rfb] at h15
        refine c6 rfl rfl rfl (a3 rfl rfl (b7 G rfl rfl rfl rfl) (c6 rfl rfl rfl (a3 rfl rfl (c4 G rfl rfl rfl rfl rfl rfl rfl) (c6 rfl rfl rfl (a3 rfl rfl (f9 rfl rfl rfl rfl) (a1 rfl (a3 rfl rfl (i5 rfl rfl rfl) (a1 rfl (a3 rfl rfl (a8 rfl rfl) (o8 rfl rfl rfl (fun h16=>?_) (fun h16=>?_)))))))))))
        ·try rw [h16]
         try simp only [rfb] at h16
         refine c6 rfl rfl rfl ?_
         refine a3 rfl rfl (b7 G rfl rfl rfl rfl) ?_
         refine c6 rfl rfl rfl ?_
         refine a3 rfl rfl (c4 G rfl rfl rfl rfl rfl rfl rfl) ?_
         refine c6 rfl rfl rfl ?_
         refine a3 rfl rfl (k5 rfl (ArgsOK.of rfl) (B8 _ _ _) rfl) ?_
         refine a1 rfl ?_
         refine a3 rfl rfl (i5 rfl rfl rfl) ?_
         refine a1 rfl ?_
         refine a3 rfl rfl (a7 rfl rfl) ?_
         refine a4 ?_
         refine hK15 _ ?_
         clear hK15 K15
         refine c8 ?_
         refine j4 rfl ?_
         refine g9 ?_
         all_goals clear hK2 K2
         all_goals (first | rfl | (simp [f8, *];done) | (simp [f8, *];rfl) | (simp [f8, *,m6,r6];done))
        ·try rw [h16]
         try simp only [rfb] at h16
         refine b6 rfl rfl rfl rfl rfl rfl ?_
         refine b6 rfl rfl rfl rfl rfl rfl ?_
         refine b6 rfl rfl rfl rfl rfl rfl ?_
         refine a1 rfl ?_
         refine a3 rfl rfl (i7 rfl rfl rfl) ?_
         refine a1 rfl ?_
         refine a3 rfl rfl (a7 rfl rfl) ?_
         refine a4 ?_
         refine hK15 _ ?_
         clear hK15 K15
         refine c8 ?_
         refine j4 rfl ?_
         refine g9 ?_
         all_goals clear hK2 K2
         all_goals (first | rfl | (simp [f8, *];done) | (simp [f8, *];rfl) | (simp [f8, *,m6,r6];done))
       ·try rw [h15]
        try simp only [rfb] at h15
        refine b6 rfl rfl rfl rfl rfl rfl ?_
        refine b6 rfl rfl rfl rfl rfl rfl ?_
        refine b6 rfl rfl rfl rfl rfl rfl ?_
        refine a1 rfl ?_
        refine a3 rfl rfl (i7 rfl rfl rfl) ?_
        refine a1 rfl ?_
        refine a3 rfl rfl (a8 rfl rfl) ?_
        refine b6 rfl rfl rfl rfl rfl rfl ?_
        refine b6 rfl rfl rfl rfl rfl rfl ?_
        refine b6 rfl rfl rfl rfl rfl rfl ?_
        refine a1 rfl ?_
        refine a3 rfl rfl (i7 rfl rfl rfl) ?_
        refine a1 rfl ?_
        refine a3 rfl rfl (a7 rfl rfl) ?_
        refine a4 ?_
        refine hK15 _ ?_
        clear hK15 K15
        refine c8 ?_
        refine j4 rfl ?_
        refine g9 ?_
        all_goals clear hK2 K2
        all_goals (first | rfl | (simp [f8, *];done) | (simp [f8, *];rfl) | (simp [f8, *,m6,r6];done))
      ·try rw [h14]
       try simp only [rfb] at h14
       refine e9 ?_
       refine hK2 _ ?_
       clear hK2 K2
       refine b4 (fun K16 hK16=>?_)
       refine a6 ?_
       refine a1 rfl ?_
       refine a3 rfl rfl (a7 rfl rfl) ?_
       refine a4 ?_
       refine hK16 _ ?_
       clear hK16 K16
       refine c8 ?_
       refine j4 rfl ?_
       refine g9 ?_
       all_goals (first | rfl | (simp [f8, *];done) | (simp [f8, *];rfl) | (simp [f8, *,m6,r6];done))
theorem a5w (yss:List (List CI)) (s:MStep) (hn:yss.length≤1048576):Ctr Tryz.prog 134 [.agg [.v (.slice none 0 0),.v (.slice none 0 0),.v (.slice none 0 0),.nst none 4 yss],.v (a0g s)] (.one (.v (.bool (f8 yss.length s)))):=by
 refine Ctr.of (n:=90) G Tryz.func134 rfl b5 rfl rfl rfl (fun w0=>?_)
 refine r8 0 rfl (fun _=>rfl) (fun u0=>?_)
 refine zgo ?_
 refine vm6 ?_
 refine y6 ?_
 refine y4 2 rfl rfl rfl rfl rfl rfl rfl ?_
 refine a7O ?_
 refine zcd (fun h1=>?_) (fun h1=>?_)
 ·refine zcl (F9 _) ?_
  refine zcd (fun h2=>?_) (fun h2=>?_)
  ·refine zcd (fun h3=>?_) (fun h3=>?_)
   ·refine zf1 ?_
    all_goals exact a0P
   refine zf1 ?_
   all_goals exact a0P
  refine zf1 ?_
  all_goals exact a0P
 refine zcd (fun h4=>?_) (fun h4=>?_)
 ·refine zcd (fun h5=>?_) (fun h5=>?_)
  ·refine zcd (fun h6=>?_) (fun h6=>?_)
   ·refine zf1 ?_
    all_goals exact a0P
   refine zf1 ?_
   all_goals exact a0P
  refine zf1 ?_
  all_goals exact a0P
 refine zcd (fun h7=>?_) (fun h7=>?_)
 ·refine zwt ?_
  refine zcd (fun h8=>?_) (fun h8=>?_)
  ·refine zcd (fun h9=>?_) (fun h9=>?_)
   ·refine zf1 ?_
    all_goals exact a0P
   refine zf1 ?_
   all_goals exact a0P
  refine zf1 ?_
  all_goals exact a0P
 refine zcd (fun h10=>?_) (fun h10=>?_)
 ·refine zcd (fun h11=>?_) (fun h11=>?_)
  ·refine zcd (fun h12=>?_) (fun h12=>?_)
   ·refine zf1 ?_
    all_goals exact a0P
   refine zf1 ?_
   all_goals exact a0P
  refine zf1 ?_
  all_goals exact a0P
 refine zcd (fun h13=>?_) (fun h13=>?_)
 ·refine zcd (fun h14=>?_) (fun h14=>?_)
  ·refine zcd (fun h15=>?_) (fun h15=>?_)
   ·refine a7O ?_
    refine zf1 ?_
    all_goals exact a0P
   refine zf1 ?_
   all_goals exact a0P
  refine zf1 ?_
  all_goals exact a0P
 refine zcd (fun h16=>?_) (fun h16=>?_)
 ·refine zcl (F9 _) ?_
  refine zcd (fun h17=>?_) (fun h17=>?_)
  ·refine zcd (fun h18=>?_) (fun h18=>?_)
   ·refine a7O ?_
    refine zf1 ?_
    all_goals exact a0P
   refine zf1 ?_
   all_goals exact a0P
  refine zf1 ?_
  all_goals exact a0P
 refine zf1 ?_
 all_goals exact a0P
theorem P0 (a:Abs) (s:MStep) (hs:SmallA a):Ctr Tryz.prog 55 [.agg [.lst 1 (a.en.map l0),.lst 1 (a.ra.map l0),.lst 1 (a.po.map l0),.lst 1 (a.ma.map Rf.r5),.nst none 1 (a.st.map s1)],.v (a0g s)] (.one (.v (.bool (f8 a.ma.length s)))):=by
 have hma:=hs.ma
 refine Ctr.of (n:=12) G Tryz.func55 rfl (by kernel_rfl) rfl rfl rfl (fun w0=>?_)
 refine r8 0 rfl (fun _=>rfl) (fun u0=>?_)
 refine b4 (fun K1 hK1=>?_)
 refine a6 ?_
 refine a1 rfl ?_
 refine y4 1 rfl rfl rfl rfl rfl rfl rfl ?_
 refine a1 rfl ?_
 refine y4 2 rfl rfl rfl rfl rfl rfl rfl ?_
 refine a1 rfl ?_
 refine a3 rfl rfl (a7 rfl rfl) ?_
 refine a4 ?_
 refine hK1 _ ?_
 clear hK1 K1
 refine b4 (fun K2 hK2=>?_)
 refine j9 8 [0,1] m5 (by kernel_rfl) rfl rfl (fun r0=>?_) (fun _ h=>h)
 refine b9 0 rfl (by kernel_rfl) (by kernel_rfl) rfl rfl rfl rfl (b7 G rfl rfl rfl rfl) ?_
 refine b9 1 rfl (by kernel_rfl) (by kernel_rfl) rfl rfl rfl rfl (E0 (c4 G rfl rfl rfl rfl rfl rfl rfl)) ?_
 first | refine b9 2 rfl (by kernel_rfl) (by kernel_rfl) rfl rfl rfl rfl (r4 G rfl rfl rfl rfl (List.length_map _)) ?_ | refine b9 2 rfl (by kernel_rfl) (by kernel_rfl) rfl rfl rfl rfl (t6 G rfl rfl rfl rfl) ?_
 refine b9 5 rfl (by kernel_rfl) (by kernel_rfl) rfl rfl rfl rfl (b3 G rfl rfl rfl rfl rfl rfl) ?_
 refine a9 (rs:=[3]) (by kernel_rfl) rfl (AllB.cons ?_ AllB.nil)
 refine c7 [0,1] rfl rfl (a4v (n:=a.ma.length) G 3 rfl rfl rfl rfl rfl rfl rfl (by first | rfl | simp) (by first | rfl | simp) (by omega) (by omega)<|m7 (Gh.nest (id:=2) (yss:=List.replicate (a.ma.length) [.v (.int .i64 0),.l 3 1 [],.l 154 3 [],.l 183 2 []]) rfl (by simp) (L3 (.v (.s (.s (.s .nil)))))) (a4 ⟨rfl,?_⟩))
 refine a9 (rs:=[4]) (by kernel_rfl) rfl (AllB.cons ?_ AllB.nil)
 refine c7 [0,1] rfl rfl (a3 rfl rfl (g0 G rfl rfl rfl rfl) (a4 ⟨rfl,?_⟩))
 refine a9 (rs:=[6]) (by kernel_rfl) rfl (AllB.cons ?_ AllB.nil)
 refine c7 [0,1] rfl rfl (a3 rfl rfl (k5 rfl (ArgsOK.of rfl) (a3l _ _ (by first | assumption | (simp;omega))) rfl) (a4 ⟨rfl,?_⟩))
 refine b9 7 rfl (by kernel_rfl) (by kernel_rfl) rfl rfl rfl rfl (a7 rfl rfl) ?_
 refine l9 (by kernel_rfl) ?_
 refine hK2 _ ?_
 clear hK2 K2
 refine c8 ?_
 refine j4 rfl ?_
 refine g9 ?_
 all_goals (simp)
theorem a1x (n:Nat) (s:MStep) (hn:n≤1048576):Ctr Tryz.prog 64 [.v (.int .i64 (n:Int)),.v (a0g s)] (.one (.v (.bool (f8 n s)))):=by
 refine Ctr.of (n:=10) G Tryz.func64 rfl b5 rfl rfl rfl (fun w0=>?_)
 refine zgo ?_
 refine vm6 ?_
 refine zgn ?_
 refine G3 (j9 6 [0] m5 b5 rfl rfl (fun r0=>?_) (fun _ h=>h))
 refine zsa 0 ?_
 refine zsa 3 ?_
 refine a9 (rs:=[1]) b5 rfl (AllB.cons ?_ AllB.nil)
 refine c7 [0] rfl rfl (a4v (n:=n) G 2 rfl rfl rfl rfl rfl rfl rfl (by first | rfl | simp) (by first | rfl | simp) (by omega) (by omega)<|m7 (Gh.nest (id:=1) (yss:=List.replicate (n) [.v (.int .i64 0),.l 3 1 [],.l 154 3 [],.l 183 2 []]) rfl (by simp) (L3 (.v (.s (.s (.s .nil)))))) (a4 ⟨rfl,?_⟩))
 refine a9 (rs:=[2]) b5 rfl (AllB.cons ?_ AllB.nil)
 refine a6S ?_
 refine a9 (rs:=[4]) b5 rfl (AllB.cons ?_ AllB.nil)
 refine m3 [0] rfl rfl (a3 rfl rfl (k5 rfl (ArgsOK.of rfl) (a5w _ _ (by first | assumption | (simp;omega))) rfl) (a4 ⟨rfl,?_⟩))
 refine zsa 5 ?_
 refine T5 ?_
 refine zf1 ?_
 all_goals (simp)
end Go.Proofs.YtcnodpipinlpcaaGreat
set_option maxRecDepth 20000
namespace Go.Proofs.YtcnodpipinlpcaaGreat
open Go Go.Rf
theorem a0T (l:List Int) (v:Int) (hn:l.length≤1048576):Ctr Tryz.prog 177 [.lst 1 (l.map Rf.r5),.v (.int .i64 v)] (.one (.v (.int .i64 (S4 (fun j=>decide (v=l.getD j default)) l.length)))):=by
 refine Ctr.of (n:=19) G Tryz.func177 rfl b5 rfl rfl rfl (fun w0=>?_)
 refine zgo ?_
 refine m4 [0,1,7] [] (fun (i:Nat)=>[(8,.v (.int .i64 (i:Int)))]) (fun (i:Nat)=>[]) (fun (i:Nat)=>i≤l.length∧∀ j,j < i→decide (v=l.getD j default)=false) (fun (i:Nat)=>l.length - i) 0 rfl rfl ?_ ?_ ?_ ?_
 ·exact ⟨Nat.zero_le _,fun j hj=>by omega⟩
 ·exact ⟨⟨_,rfl,by (first | rfl | (simp;done) | (simp;omega))⟩,rfl,trivial⟩
 ·exact trivial
 intro i hinv
 simp only [List.cons_append,List.nil_append]
 refine zcd (fun h1=>?_) (fun h1=>?_)
 ·refine zcd (fun h2=>?_) (fun h2=>?_)
  ·refine zf1 ?_
   all_goals exact b4S
  refine zgo ?_
  refine ⟨(i+1),?_,?_,⟨⟨_,rfl,by rfl⟩,rfl,trivial⟩,trivial,rfl,rfl,rfl⟩
  ·exact ⟨by omega,p7 hinv.2 b2b⟩
  omega
 refine zf1 ?_
 all_goals exact b4S
theorem X1 (l:List Int) (v:Int) (hn:l.length≤1048576):Ctr Tryz.prog 129 [.lst 1 (l.map Rf.r5),.v (.int .i64 v)] (.one (.v (.bool (a2U l v)))):=by
 refine Ctr.of (n:=9) G Tryz.func129 rfl b5 rfl rfl rfl (fun w0=>?_)
 refine zcl (a0T _ _ (by first | assumption | omega)) ?_
 refine zf1 ?_
 all_goals (simp only [a2U];rw [a2J])
theorem T6 (l:List Int) (v:Int) (hn:l.length≤1048576):Ctr Tryz.prog 180 [.lst 1 (l.map Rf.r5),.v (.int .i64 v)] (.one (.v (.bool (a2U l v)))):=by
 refine Ctr.of (n:=18) G Tryz.func180 rfl b5 rfl rfl rfl (fun w0=>?_)
 refine zgo ?_
 refine m4 [0,1] [] (fun (i:Nat)=>[(5,.v (.int .i64 (i:Int)))]) (fun (i:Nat)=>[]) (fun (i:Nat)=>i≤l.length∧∀ j,j < i→decide (v=l.getD j default)=false) (fun (i:Nat)=>l.length - i) 0 rfl rfl ?_ ?_ ?_ ?_
 ·exact ⟨Nat.zero_le _,fun j hj=>by omega⟩
 ·exact ⟨⟨_,rfl,by (first | rfl | (simp;done) | (simp;omega))⟩,rfl,trivial⟩
 ·exact trivial
 intro i hinv
 simp only [List.cons_append,List.nil_append]
 refine zcd (fun h1=>?_) (fun h1=>?_)
 ·refine zcd (fun h2=>?_) (fun h2=>?_)
  ·refine zf1 ?_
   all_goals exact b4T
  refine zgo ?_
  refine ⟨(i+1),?_,?_,⟨⟨_,rfl,by rfl⟩,rfl,trivial⟩,trivial,rfl,rfl,rfl⟩
  ·exact ⟨by omega,p7 hinv.2 b2b⟩
  omega
 refine zf1 ?_
 all_goals exact b4T
theorem a5x (rs:List Route) (a:Abs) (hF:AbsF rs a):Ctr Tryz.prog 133 [.lst 2 (rs.map u7),.agg [.lst 1 (a.en.map l0),.lst 1 (a.ra.map l0),.lst 1 (a.po.map l0),.lst 1 (a.ma.map Rf.r5),.nst none 1 (a.st.map s1)]] (.shp true [some 5] [.fr 4 1 ((a4d rs a).en.map l0),.fr 4 1 ((a4d rs a).ra.map l0),.fr 4 1 ((a4d rs a).po.map l0),.fr 3 1 ((a4d rs a).ma.map Rf.r5),.ne 26 1 ((a4d rs a).st.map s1)]):=by
 have f0:=hF.n
 have f1:=hF.rn
 have f2:=hF.st
 have f3:=hF.en
 have f4:=hF.ra
 have f5:=hF.po
 have fm:=hF.rt
 have fs:=hF.small
 refine Ctr.of (n:=48) G Tryz.func133 rfl b5 rfl rfl rfl (fun w0=>?_)
 refine r8 1 rfl (fun _=>rfl) (fun u1=>?_)
 refine a3i ?_
 refine vm6 ?_
 refine vm9 ?_
 refine zgn ?_
 refine a3i ?_
 refine zst ?_
 refine y6 ?_
 refine g8 7 rfl rfl rfl (ArgsOK.of rfl) (Z5 a fs) rfl rfl ?_
 refine y6 ?_
 refine d7 G 8 rfl rfl rfl rfl rfl ?_
 refine zgn ?_
 refine zgn ?_
 refine l8 (m4 [0,3,4,5] [0,1,2,5,6,7] (fun (i:Nat)=>[(6,.v (.int .i64 (i:Int)))]) (fun (i:Nat)=>[(3,some (.row 4 1 ((a0i rs a i).map l0))),(4,some (.row 4 1 ((Y1 rs a i).map l0)))]) (fun (i:Nat)=>i≤8) (fun (i:Nat)=>8 - i) 0 rfl rfl ?_ ?_ ?_ ?_)
 ·exact Nat.zero_le _
 ·exact ⟨⟨_,rfl,by (first | rfl | (simp;done) | (simp;omega))⟩,rfl,trivial⟩
 ·exact ⟨⟨_,rfl,by rfl⟩,rfl,rfl,⟨⟨_,rfl,by rfl⟩,rfl,rfl,trivial⟩⟩
 intro i hinv
 have e1:=@U1 rs a i
 have e2:=@N2 rs a i
 have fq:=fun h=>hF.rt i h
 simp only [List.cons_append,List.nil_append]
 refine zgn ?_
 refine d1 rfl (fun h1=>?_) (fun h1=>?_)
 ·try rw [h1]
  try simp only [rfb] at h1
  refine zgn ?_
  refine G3 (l8 ?_)
  refine b1n ?_
  iterate 6 refine zst ?_
  refine L0 rfl rfl rfl (fun h2=>?_) (fun h2=>?_)
  ·try rw [h2]
   try simp only [rfb] at h2
   iterate 7 refine zst ?_
   refine L0 rfl rfl rfl (fun h3=>?_) (fun h3=>?_)
   ·try rw [h3]
    try simp only [rfb] at h3
    iterate 8 refine zst ?_
    refine a5u ?_
    refine b2f ?_
    refine zst ?_
    refine a5u ?_
    refine j5 rfl rfl (k5 rfl (ArgsOK.of rfl) (T6 _ _ (Nat.le_trans (hF.len _ (by have:=hF.rt i (by omega);omega)) (by decide))) rfl) ?_
    refine zgn ?_
    refine d1 rfl (fun h4=>?_) (fun h4=>?_)
    ·try rw [h4]
     try simp only [rfb] at h4
     refine G3 ?_
     refine b5i ?_
     refine a5t ?_
     refine vm4 ?_
     first | refine i6 G rfl rfl rfl rfl rfl (C3 (by omega) a7M) rfl rfl rfl rfl rfl (Nat.le_of_ble_eq_true rfl) rfl ?_ | refine i6 G rfl rfl rfl rfl rfl (C3 (by omega) a7N) rfl rfl rfl rfl rfl (Nat.le_of_ble_eq_true rfl) rfl ?_
     refine a8A ?_
     refine ⟨(i+1),?_,?_,⟨⟨_,rfl,by rfl⟩,rfl,trivial⟩,⟨⟨_,rfl,by (first | rfl | (rw [E4 (B7 d8 d8 d8),List.map_set];rfl) | (rw [E6 (B7 d8 d8 d8),List.map_set];rfl) | (rw [E5 J8];done) | (rw [E7 J8];done))⟩,rfl,rfl,⟨⟨_,rfl,by (first | rfl | (rw [E4 (B7 d8 d8 d8),List.map_set];rfl) | (rw [E6 (B7 d8 d8 d8),List.map_set];rfl) | (rw [E5 J8];done) | (rw [E7 J8];done))⟩,rfl,rfl,trivial⟩⟩,rfl,rfl,rfl⟩
     ·omega
     omega
    try rw [h4]
    try simp only [rfb] at h4
    refine a8A ?_
    refine ⟨(i+1),?_,?_,⟨⟨_,rfl,by rfl⟩,rfl,trivial⟩,⟨⟨_,rfl,by (first | rfl | (rw [E4 (B7 d8 d8 d8),List.map_set];rfl) | (rw [E6 (B7 d8 d8 d8),List.map_set];rfl) | (rw [E5 J8];done) | (rw [E7 J8];done))⟩,rfl,rfl,⟨⟨_,rfl,by (first | rfl | (rw [E4 (B7 d8 d8 d8),List.map_set];rfl) | (rw [E6 (B7 d8 d8 d8),List.map_set];rfl) | (rw [E5 J8];done) | (rw [E7 J8];done))⟩,rfl,rfl,trivial⟩⟩,rfl,rfl,rfl⟩
    ·omega
    omega
   try rw [h3]
   try simp only [rfb] at h3
   refine zgn ?_
   refine B1 rfl ?_
   refine a8A ?_
   refine ⟨(i+1),?_,?_,⟨⟨_,rfl,by rfl⟩,rfl,trivial⟩,⟨⟨_,rfl,by (first | rfl | (rw [E4 (B7 d8 d8 d8),List.map_set];rfl) | (rw [E6 (B7 d8 d8 d8),List.map_set];rfl) | (rw [E5 J8];done) | (rw [E7 J8];done))⟩,rfl,rfl,⟨⟨_,rfl,by (first | rfl | (rw [E4 (B7 d8 d8 d8),List.map_set];rfl) | (rw [E6 (B7 d8 d8 d8),List.map_set];rfl) | (rw [E5 J8];done) | (rw [E7 J8];done))⟩,rfl,rfl,trivial⟩⟩,rfl,rfl,rfl⟩
   ·omega
   omega
  try rw [h2]
  try simp only [rfb] at h2
  refine zgn ?_
  refine B1 rfl ?_
  refine a8A ?_
  refine ⟨(i+1),?_,?_,⟨⟨_,rfl,by rfl⟩,rfl,trivial⟩,⟨⟨_,rfl,by (first | rfl | (rw [E4 (B7 d8 d8 d8),List.map_set];rfl) | (rw [E6 (B7 d8 d8 d8),List.map_set];rfl) | (rw [E5 J8];done) | (rw [E7 J8];done))⟩,rfl,rfl,⟨⟨_,rfl,by (first | rfl | (rw [E4 (B7 d8 d8 d8),List.map_set];rfl) | (rw [E6 (B7 d8 d8 d8),List.map_set];rfl) | (rw [E5 J8];done) | (rw [E7 J8];done))⟩,rfl,rfl,trivial⟩⟩,rfl,rfl,rfl⟩
  ·omega
  omega
 try rw [h1]
 try simp only [rfb] at h1
 refine zgn ?_
 refine zgn ?_
 refine c8 (l6 rfl rfl rfl rfl (a5 (b8 rfl ?_) (a5 (b8 rfl ?_) (a5 (b8 rfl ?_) (a5 (b8 rfl ?_) (a5 (u2 rfl ?_) d4))))))
 all_goals (first | rfl | (have e8:i=8:=(by omega);subst e8;rfl))
end Go.Proofs.YtcnodpipinlpcaaGreat
set_option maxRecDepth 20000
namespace Go.Proofs.YtcnodpipinlpcaaGreat
open Go Go.Rf
theorem a5y (m:Mach) (hM:MaG m):Ctr Tryz.prog 155 [.agg [.lst 2 (m.rs.map u7),.lst 1 (m.en.map l0),.lst 1 (m.ra.map l0),.nst none 4 (m.cp.map (H7 154 183))]] (.shp true [some 4] [.fr 118 2 ((a5n m).rs.map u7),.fr 4 1 ((a5n m).en.map l0),.fr 4 1 ((a5n m).ra.map l0),.ne 113 4 ((a5n m).cp.map (H7 154 183))]):=by
 have f1:=hM.n
 have f2:=hM.en
 have f3:=hM.ra
 have f4:=hM.rn
 refine Ctr.of (n:=63) G Tryz.func155 rfl b5 rfl rfl rfl (fun w0=>?_)
 refine r8 0 rfl (fun _=>rfl) (fun u0=>?_)
 refine a2p ?_
 refine F6 ?_
 refine g8 6 rfl rfl rfl (ArgsOK.of rfl) (a10 m hM) rfl rfl ?_
 refine y6 ?_
 refine d7 G 7 rfl rfl rfl rfl rfl ?_
 refine zgo ?_
 refine m4 [1,2,3] [0,1,2,3,6] (fun (i:Nat)=>[(4,.v (.int .i64 (i:Int)))]) (fun (i:Nat)=>[(4,some (.row 4 1 ((a3L m i).map l0))),(5,some (.nest 113 4 ((J6 m i).map (H7 154 183)) []))]) (fun (i:Nat)=>i≤8) (fun (i:Nat)=>8 - i) 0 rfl rfl ?_ ?_ ?_ ?_
 ·exact Nat.zero_le _
 ·exact ⟨⟨_,rfl,by rfl⟩,rfl,trivial⟩
 ·exact ⟨⟨_,rfl,by rfl⟩,rfl,rfl,⟨⟨_,rfl,by rfl⟩,rfl,rfl,trivial⟩⟩
 intro i hi
 have hrl:=@a3b m i
 have hcl:=@G2 m i
 have htg:=fun h=>hM.tg (i:=i) h
 simp only [List.cons_append,List.nil_append]
 refine zcd (fun h1=>?_) (fun h1=>?_)
 ·obtain ⟨hta,htb,htc⟩:=htg (by omega)
  obtain ⟨hst,hIG⟩:=a4K hM (i:=i) (k:=tgM m i) (by omega) htb
  have htd:tgM m i < m.cp.length:=htb
  refine zcd (fun h2=>?_) (fun h2=>?_)
  ·refine zcd (fun h3=>?_) (fun h3=>?_)
   ·refine zgo ?_
    refine c6 rfl rfl rfl (a3 rfl rfl (N8 G rfl rfl rfl rfl) (c6 rfl rfl rfl ?_))
    refine a8z ?_
    refine zcl (T6 (m.cp.getD (tgM m i) default).st _ (by have:=(hM.ok _ htd).f.sn;omega)) ?_
    refine zcd (fun h4=>?_) (fun h4=>?_)
    ·have hcn:=b3t (m:=m) (i:=i) h2 h3 h4
     refine zgo ?_
     refine vm4 ?_
     first | refine i6 G rfl rfl rfl rfl rfl (C4 (by omega)) rfl rfl rfl rfl rfl (Nat.le_of_ble_eq_true rfl) rfl ?_ | refine i6 G rfl rfl rfl rfl rfl (C3 (by omega) (by omega)) rfl rfl rfl rfl rfl (Nat.le_of_ble_eq_true rfl) rfl ?_
     refine zgn ?_
     refine a2f (Gh.open (id:=5) (i:=(tgM m i)) (k:=1) 8 rfl rfl (b4q (by omega)) rfl rfl) (a2f (Gh.open (id:=5) (i:=(tgM m i)) (k:=2) 9 rfl rfl (B3 a3N rfl) rfl rfl) (a2f (Gh.open (id:=5) (i:=(tgM m i)) (k:=3) 10 rfl rfl (B3 a3N rfl) rfl rfl) (j9 18 [0,1,2,3,4,6,7,8,9] m5 b5 rfl rfl (fun r0=>?_) (fun _ h=>h))))
     refine a3O ?_
     refine zsa 4 ?_
     refine zsa 5 ?_
     refine zsa 8 ?_
     refine zsa 9 ?_
     refine zsa 10 ?_
     refine zsa 11 ?_
     refine zsa 12 ?_
     refine zsa 13 ?_
     refine zsa 14 ?_
     refine a9 (rs:=[6]) b5 rfl (AllB.cons ?_ AllB.nil)
     first | refine c7 [0,1,2,3,4,6,7,8,9] rfl rfl (a3 rfl rfl (d5 G rfl rfl rfl rfl rfl (by omega) a6g) (a4 ⟨rfl,?_⟩)) | refine c7 [0,1,2,3,4,6,7,8,9] rfl rfl (a3 rfl rfl (d5 G rfl rfl rfl rfl rfl (by omega) a3N) (a4 ⟨rfl,?_⟩))
     refine a9 (rs:=[7]) b5 rfl (AllB.cons ?_ AllB.nil)
     refine m3 [0,1,2,3,4,6,7,8,9] rfl rfl (a3 rfl rfl (U4 G rfl rfl rfl rfl (B3 a3N rfl) rfl (.v (.own a9V (.own a9V (.own a9V .nil))))) (a4 ⟨rfl,?_⟩))
     refine a9 (rs:=[15]) b5 rfl (AllB.cons ?_ AllB.nil)
     refine m3 [0,1,2,3,4,6,7,8,9] rfl rfl (g8 13 rfl rfl rfl (ArgsOK.of rfl) (L5 ((J6 m i).getD (tgM m i) default) _ _ hIG.f (by omega) htc) rfl rfl (a4 ⟨rfl,?_⟩))
     refine a5Z (Gh.detach (id:=5) rfl) (a5Z (Gh.detach (id:=5) rfl) (a5Z (Gh.detach (id:=5) rfl) (a9 (rs:=[16]) b5 rfl (AllB.cons ?_ AllB.nil))))
     first | refine c7 [0,1,2,3,4,6,7,8,9] rfl rfl (a3 rfl rfl (d5 G rfl rfl rfl rfl rfl (by omega) a6g) (a4 ⟨rfl,?_⟩)) | refine c7 [0,1,2,3,4,6,7,8,9] rfl rfl (a3 rfl rfl (d5 G rfl rfl rfl rfl rfl (by omega) a3N) (a4 ⟨rfl,?_⟩))
     refine a9 (rs:=[17]) b5 rfl (AllB.cons ?_ AllB.nil)
     refine m3 [0,1,2,3,4,6,7,8,9] rfl rfl (i9 G rfl rfl rfl rfl rfl (B3 a3N rfl) rfl rfl (.v rfl (.own rfl (.own rfl (.own rfl .nil)))) rfl rfl rfl (Nat.le_of_ble_eq_true rfl) (fun q h=>by cases h) rfl (a4 ⟨rfl,?_⟩))
     refine T5 ?_
     refine zgo ?_
     refine ⟨(i+1),?_,?_,⟨⟨_,rfl,by rfl⟩,rfl,trivial⟩,⟨⟨_,rfl,by (first | (rw [a0M hcn];done) | (rw [a0O hcn];done) | (rw [a0L hcn,List.map_set];rfl) | (rw [a0N hcn];exact congrArg (fun z=>Row.nest _ _ z []) a7K))⟩,rfl,rfl,⟨⟨_,rfl,by (first | (rw [a0M hcn];done) | (rw [a0O hcn];done) | (rw [a0L hcn,List.map_set];rfl) | (rw [a0N hcn];exact congrArg (fun z=>Row.nest _ _ z []) a7K))⟩,rfl,rfl,trivial⟩⟩,rfl,rfl,rfl⟩
     ·omega
     omega
    have hcn:=b3w (m:=m) (i:=i) h4
    refine zgo ?_
    refine ⟨(i+1),?_,?_,⟨⟨_,rfl,by rfl⟩,rfl,trivial⟩,⟨⟨_,rfl,by (first | (rw [a0M hcn];done) | (rw [a0O hcn];done) | (rw [a0L hcn,List.map_set];rfl) | (rw [a0N hcn];exact congrArg (fun z=>Row.nest _ _ z []) a7K))⟩,rfl,rfl,⟨⟨_,rfl,by (first | (rw [a0M hcn];done) | (rw [a0O hcn];done) | (rw [a0L hcn,List.map_set];rfl) | (rw [a0N hcn];exact congrArg (fun z=>Row.nest _ _ z []) a7K))⟩,rfl,rfl,trivial⟩⟩,rfl,rfl,rfl⟩
    ·omega
    omega
   have hcn:=b3v (m:=m) (i:=i) h3
   refine zwf ?_
   refine zgo ?_
   refine ⟨(i+1),?_,?_,⟨⟨_,rfl,by rfl⟩,rfl,trivial⟩,⟨⟨_,rfl,by (first | (rw [a0M hcn];done) | (rw [a0O hcn];done) | (rw [a0L hcn,List.map_set];rfl) | (rw [a0N hcn];exact congrArg (fun z=>Row.nest _ _ z []) a7K))⟩,rfl,rfl,⟨⟨_,rfl,by (first | (rw [a0M hcn];done) | (rw [a0O hcn];done) | (rw [a0L hcn,List.map_set];rfl) | (rw [a0N hcn];exact congrArg (fun z=>Row.nest _ _ z []) a7K))⟩,rfl,rfl,trivial⟩⟩,rfl,rfl,rfl⟩
   ·omega
   omega
  have hcn:=b3u (m:=m) (i:=i) h2
  refine zwf ?_
  refine zgo ?_
  refine ⟨(i+1),?_,?_,⟨⟨_,rfl,by rfl⟩,rfl,trivial⟩,⟨⟨_,rfl,by (first | (rw [a0M hcn];done) | (rw [a0O hcn];done) | (rw [a0L hcn,List.map_set];rfl) | (rw [a0N hcn];exact congrArg (fun z=>Row.nest _ _ z []) a7K))⟩,rfl,rfl,⟨⟨_,rfl,by (first | (rw [a0M hcn];done) | (rw [a0O hcn];done) | (rw [a0L hcn,List.map_set];rfl) | (rw [a0N hcn];exact congrArg (fun z=>Row.nest _ _ z []) a7K))⟩,rfl,rfl,trivial⟩⟩,rfl,rfl,rfl⟩
  ·omega
  omega
 obtain rfl:i=8:=(by omega)
 refine zgo ?_
 refine c8 (l6 rfl rfl rfl rfl (a5 (b8 rfl ?_) (a5 (b8 rfl ?_) (a5 (b8 rfl ?_) (a5 (u2 rfl ?_) d4)))))
 all_goals (rfl)
end Go.Proofs.YtcnodpipinlpcaaGreat
set_option maxRecDepth 20000
namespace Go.Proofs.YtcnodpipinlpcaaGreat
open Go Go.Rf
theorem a4n (z:Value) (sl:List Slot) (lim:Int) (hF:SlF sl) (hk:a01 sl lim=false):Ctr Tryz.prog 181 [.pin z 3 (sl.map p4),.v (.int .i64 lim)] (.many [.v z,.v (.int .i64 (-1))]):=by
 have hl4:=hF.len
 have hb:=@a1O sl true
 have hf:=@a2k sl
 have hkk:=a4B.mp hk
 refine Ctr.of (n:=33) G Tryz.func181 rfl b5 rfl rfl rfl (fun w0=>?_)
 refine zcl (R6 sl (by omega)) ?_
 refine zcd (fun h1=>?_) (fun h1=>?_)
 ·refine zwt ?_
  refine zgo ?_
  refine c8 (v6 rfl rfl rfl rfl (a5 (P7 ?_) (a5 (g9 ?_) d4)))
  all_goals (rfl)
 refine zgo ?_
 refine c6 rfl rfl rfl ?_
 first | refine a3 rfl rfl (X8 G rfl rfl rfl rfl (by omega) (C4 (by omega))) ?_ | refine a3 rfl rfl (X8 G rfl rfl rfl rfl (by omega) (t8 (by omega) (by omega))) ?_ | refine a3 rfl rfl (X8 G rfl rfl rfl rfl (by omega) (C3 (by omega) (by omega))) ?_
 refine zcd (fun h2=>?_) (fun h2=>?_)
 ·refine zgo ?_
  refine c8 (v6 rfl rfl rfl rfl (a5 (P7 ?_) (a5 (g9 ?_) d4)))
  all_goals (rfl)
 exfalso;omega
theorem a0r (q:Que) (lim:Int) (hF:QF q) (hk:a01 q.sl lim=false):Ctr Tryz.prog 135 [.agg [.lst 3 (q.sl.map p4),.lst 2 (q.wa.map s6)],.v (.int .i64 lim)] (.shp false [some 2,none] [.fr 154 3 (q.sl.map p4),.fr 183 2 (q.wa.map s6),.v (.int .i64 (-1))]):=by
 have hl4:=hF.sl.len
 have hwn:=hF.wn
 refine Ctr.of (n:=24) G Tryz.func135 rfl b5 rfl rfl rfl (fun w0=>?_)
 refine r8 0 rfl (fun _=>rfl) (fun u0=>?_)
 refine a2p ?_
 refine zgo ?_
 refine b1Z (t:=10) rfl (fun z10=>?_)
 refine y6 ?_
 refine a3 rfl rfl (k5 rfl (ArgsOK.pin1 rfl (ArgsOK.of rfl)) (a4n _ q.sl lim hF.sl hk) rfl) ?_
 refine zgn ?_
 refine G3 (a2f (Gh.asPin (d:=6) (t:=10) rfl rfl) (j9 11 [0] m5 b5 rfl rfl (fun r0=>?_) (fun _ h=>h)))
 refine zsa 1 ?_
 refine zsa 4 ?_
 refine zsa 5 ?_
 refine zsa 8 ?_
 refine z8 (N:=4) rfl (s2 (fuel:=5) [⟨0,15,2,false,.row 154 3 []⟩,⟨3,18,3,false,.row 183 2 []⟩] (AllVOK.cons (VOK.lit G rfl rfl rfl rfl rfl) (AllVOK.cons (VOK.lit G rfl rfl rfl rfl rfl) (AllVOK.nil))) (fun hok=>?_))
 refine n6 [(2,[0])] b5 b5 (fun e he=>hok e he) b5 (AllVS.cons ?_ AllVS.nil)
 refine VStep.mk1 [0] 15 (.own 2) 2 (.row 154 3 []) [⟨3,18,3,false,.row 183 2 []⟩] rfl rfl rfl rfl rfl (fun b1 _ hbn=>f7 G a0Q rfl rfl rfl rfl rfl rfl rfl rfl rfl u5 rfl rfl (a4 rfl)) b5 b5 b5 b5 (n6 [(6,[3])] b5 b5 (fun e he=>hok e (vin (is:=[0]) rfl he)) b5 (AllVS.cons ?_ AllVS.nil))
 refine VStep.mk1 [0] 18 (.own 3) 3 (.row 183 2 []) [] rfl rfl rfl rfl rfl (fun b1 _ hbn=>f7 G a0Q rfl rfl rfl rfl rfl rfl rfl rfl rfl u5 rfl rfl (a4 rfl)) b5 b5 b5 b5 (F8 ?_)
 clear hok
 refine a9 (rs:=[7]) b5 rfl (AllB.cons ?_ AllB.nil)
 refine a6S ?_
 refine a9 (rs:=[9]) b5 rfl (AllB.cons ?_ AllB.nil)
 refine a6S ?_
 refine zsa 10 ?_
 refine T5 ?_
 refine c8 (l6 rfl rfl rfl rfl (a5 (b8 rfl ?_) (a5 (b8 rfl ?_) (a5 (g9 ?_) d4))))
 all_goals (first | rfl | simp)
theorem Y8 (x:Ifc) (hF:IfF x) (hk:okT x=false):Ctr Tryz.prog 73 [.agg [.v (.int .i64 x.ma),.lst 1 (x.st.map Rf.r5),.lst 3 (x.qu.sl.map p4),.lst 2 (x.qu.wa.map s6)]] (.shp false [some 4,none] [.v (.int .i64 x.ma),.fr 3 1 (x.st.map Rf.r5),.fr 154 3 (x.qu.sl.map p4),.fr 183 2 (x.qu.wa.map s6),.v (.int .i64 (-1))]):=by
 have hl4:=hF.qu.sl.len
 have hwn:=hF.qu.wn
 have hsn:=hF.sn
 refine Ctr.of (n:=35) G Tryz.func73 rfl b5 rfl rfl rfl (fun w0=>?_)
 refine r8 0 rfl (fun _=>rfl) (fun u0=>?_)
 refine a2p ?_
 refine zgn ?_
 refine G3 (j9 14 [0,1] m5 b5 rfl rfl (fun r0=>?_) (fun _ h=>h))
 refine a3O ?_
 refine zsa 4 ?_
 refine z8 (N:=3) rfl (s2 (fuel:=8) [⟨11,4,2,true,.box (avR [.slice none 0 0,.slice none 0 0] [])⟩] (AllVOK.cons (VOK.boxS G rfl rfl rfl rfl rfl) (AllVOK.nil)) (fun hok=>?_))
 refine n6 [(5,[])] b5 b5 (fun e he=>hok e he) b5 (AllVS.cons ?_ AllVS.nil)
 refine VStep.mk0 [0,1] rfl rfl (fun b1 _ hbn=>a3 rfl rfl (k5 rfl (ArgsOK.of rfl) (Y7 x hF) rfl) (a4 rfl)) b5 b5 b5 b5 (n6 [(6,[])] b5 b5 (fun e he=>hok e he) b5 (AllVS.cons ?_ AllVS.nil))
 refine VStep.mk0 [0,1] rfl rfl (fun b1 _ hbn=>a3 rfl rfl (k5 rfl (ArgsOK.of rfl) (a1v _ _) rfl) (a4 rfl)) b5 b5 b5 b5 (n6 [(7,[])] b5 b5 (fun e he=>hok e he) b5 (AllVS.cons ?_ AllVS.nil))
 refine VStep.mk0 [0,1] rfl rfl (fun b1 _ hbn=>g8 5 rfl rfl rfl (ArgsOK.of rfl) (a0r x.qu (b0M x) hF.qu hk) rfl rfl (a4 rfl)) b5 b5 b5 b5 (w9 8 rfl b5 rfl rfl rfl rfl (a8 rfl rfl) b5 b5 b5 (w9 9 rfl b5 rfl rfl rfl rfl (c9 rfl rfl rfl) b5 b5 b5 (w9 10 rfl b5 rfl rfl rfl rfl (c9 rfl rfl rfl) b5 b5 b5 (n6 [(12,[11])] b5 b5 (fun e he=>hok e he) b5 (AllVS.cons ?_ AllVS.nil)))))
 refine b40 ?_
 clear hok
 refine zsa 13 ?_
 refine T5 ?_
 refine G3 (j9 9 [0,1,2,3,4] m5 b5 rfl rfl (fun r0=>?_) (fun _ h=>h))
 refine a3O ?_
 refine zsa 5 ?_
 refine z8 (N:=6) rfl (s2 (fuel:=3) [⟨7,6,5,true,.box (avR [.int .i64 0,.slice none 0 0,.slice none 0 0,.slice none 0 0] [])⟩] (AllVOK.cons (VOK.boxS G rfl rfl rfl rfl rfl) (AllVOK.nil)) (fun hok=>?_))
 refine n6 [(4,[])] b5 b5 (fun e he=>hok e he) b5 (AllVS.cons ?_ AllVS.nil)
 refine VStep.mk0 [0,1,2,3,4] rfl rfl (fun b1 _ hbn=>g8 7 rfl rfl rfl (ArgsOK.of rfl) (y9 x.st (by omega)) rfl rfl (a4 rfl)) b5 b5 b5 b5 (n6 [(6,[])] b5 b5 (fun e he=>hok e he) b5 (AllVS.cons ?_ AllVS.nil))
 refine VStep.mk0 [0,1,2,3,4] rfl rfl (fun b1 _ hbn=>a3 rfl rfl (g0 G rfl rfl rfl rfl) (a4 rfl)) b5 b5 b5 b5 (n6 [(8,[7])] b5 b5 (fun e he=>hok e he) b5 (AllVS.cons ?_ AllVS.nil))
 refine b4Y ?_
 clear hok
 refine T5 ?_
 refine zcd (fun h1=>?_) (fun h1=>?_)
 ·exfalso;omega
 refine zgo ?_
 refine c8 (l6 rfl rfl rfl rfl (a5 (g9 ?_) (a5 (b8 rfl ?_) (a5 (b8 rfl ?_) (a5 (b8 rfl ?_) (a5 (g9 ?_) d4))))))
 all_goals (rfl)
theorem a2s (x:Ifc) (hn:x.st.length=0):CtrE (α:=Nat→Option Addr×Nat×Nat) Tryz.prog 156 [.agg [.v (.int .i64 x.ma),.lst 1 (x.st.map Rf.r5),.lst 3 (x.qu.sl.map p4),.lst 2 (x.qu.wa.map s6)]] (fun y=>(.shp false [some 4,none] [.v (.int .i64 x.ma),.v (.slice (y 1).1 (y 1).2.1 (y 1).2.2),.v (.slice (y 2).1 (y 2).2.1 (y 2).2.2),.v (.slice (y 3).1 (y 3).2.1 (y 3).2.2),.v (.int .i64 (-1))])):=by
 refine CtrE.of (n:=41) G Tryz.func156 rfl b5 rfl rfl rfl (fun w0=>?_)
 refine b3x 0 rfl (fun _=>rfl) (fun u0=>?_)
 refine a2p ?_
 refine zcd (fun h1=>?_) (fun h1=>?_)
 ·refine zgo ?_
  refine c8 (b2O (u0) (l6 rfl rfl rfl rfl (a5 (g9 ?_) (a5 (P7 ?_) (a5 (P7 ?_) (a5 (P7 ?_) (a5 (g9 ?_) d4)))))))
  all_goals (rfl)
 exfalso;omega
theorem a5z (m:Mach) (sk sq sc sv:Int) (hM:MaG m) (hv:f8 m.cp.length ⟨sk,sq,sc,sv⟩=true) (ho:¬ a7A m ⟨sk,sq,sc,sv⟩):Ctr Tryz.prog 102 [.agg [.lst 2 (m.rs.map u7),.lst 1 (m.en.map l0),.lst 1 (m.ra.map l0),.nst none 4 (m.cp.map (H7 154 183))],.v (.agg ⟨[.int .i64 sk,.int .i64 sq,.int .i64 sc,.int .i64 sv]⟩)] (.shp false [some 4,none,none] [.fr 118 2 ((stM m ⟨sk,sq,sc,sv⟩).1.rs.map u7),.fr 4 1 ((stM m ⟨sk,sq,sc,sv⟩).1.en.map l0),.fr 4 1 ((stM m ⟨sk,sq,sc,sv⟩).1.ra.map l0),.ne 113 4 ((stM m ⟨sk,sq,sc,sv⟩).1.cp.map (H7 154 183)),.v (.int .i64 (stM m ⟨sk,sq,sc,sv⟩).2.1),.v (.bool (stM m ⟨sk,sq,sc,sv⟩).2.2)]):=by
 have f1:=hM.n
 have f2:=hM.en
 have f3:=hM.ra
 have f4:=hM.rn
 refine Ctr.of (n:=107) G Tryz.func102 rfl b5 rfl rfl rfl (fun w0=>?_)
 refine r8 0 rfl (fun _=>rfl) (fun u0=>?_)
 refine b46 ?_
 refine zcd (fun h1=>?_) (fun h1=>?_)
 ·have hq:=a75 hv (by omega)
  obtain ⟨q,rfl⟩:∃ q:Nat,sq=q:=⟨sq.toNat,by omega⟩
  have hS:=sm1 (m:=m) (sc:=sc) (sv:=sv) (q:=q) h1
  refine b4V ?_
  refine zgn ?_
  refine G3 (j9 11 [0,1,3,4,5,6,7] m5 b5 rfl rfl (fun r0=>?_) (fun _ h=>h))
  refine a91 ?_
  refine a9 (rs:=[8]) b5 rfl (AllB.cons ?_ AllB.nil)
  refine m3 [0,1,3,4,5,6,7] rfl rfl ?_
  refine a1U ?_
  refine zsa 9 ?_
  refine zsa 10 ?_
  refine T5 ?_
  refine c8 (l6 rfl rfl rfl rfl (a5 (b8 rfl ?_) (a5 (b8 rfl ?_) (a5 (b8 rfl ?_) (a5 (u2 rfl ?_) (a5 (g9 ?_) (a5 (g9 ?_) d4)))))))
  all_goals exact a9Q
 refine zcd (fun h2=>?_) (fun h2=>?_)
 ·have hS:=sm2 (m:=m) (sq:=sq) (sc:=sc) (sv:=sv) h2
  refine F6 ?_
  refine g8 12 rfl rfl rfl (ArgsOK.of rfl) (a5y m hM) rfl rfl ?_
  refine zgo ?_
  refine c8 (l6 rfl rfl rfl rfl (a5 (b8 rfl ?_) (a5 (b8 rfl ?_) (a5 (b8 rfl ?_) (a5 (u2 rfl ?_) (a5 (g9 ?_) (a5 (g9 ?_) d4)))))))
  all_goals exact a9Q
 refine zcd (fun h3=>?_) (fun h3=>?_)
 ·have hc:=a2i hv (by omega)
  obtain ⟨c,rfl⟩:∃ c:Nat,sc=c:=⟨sc.toNat,by omega⟩
  obtain ⟨g1,g2,g3⟩:=hM.lens (k:=c) (by omega)
  have hIG:=hM.ok c (by omega)
  have hk:=b5f ho h3
  have hS:=sm3 (m:=m) (sq:=sq) (sv:=sv) (c:=c) h3 hk
  have hbd:=a9b hIG hk
  refine F6 ?_
  refine g8 11 rfl rfl rfl (ArgsOK.of rfl) (a1w (m.cp.getD c default) hIG.f hk) rfl rfl ?_
  refine F6 ?_
  refine d7 G 12 rfl rfl rfl rfl rfl ?_
  refine vm3 ?_
  refine zgo ?_
  refine c8 (l6 rfl rfl rfl rfl (a5 (b8 rfl ?_) (a5 (b8 rfl ?_) (a5 (b8 rfl ?_) (a5 (u2 rfl ?_) (a5 (g9 ?_) (a5 (g9 ?_) d4)))))))
  all_goals exact a9Q
 refine zcd (fun h4=>?_) (fun h4=>?_)
 ·have hc:=a2i hv (by omega)
  obtain ⟨c,rfl⟩:∃ c:Nat,sc=c:=⟨sc.toNat,by omega⟩
  obtain ⟨g1,g2,g3⟩:=hM.lens (k:=c) (by omega)
  have hIG:=hM.ok c (by omega)
  have hk:=b5g ho h4
  have hS:=sm4 (m:=m) (sq:=sq) (sv:=sv) (c:=c) h4 hk
  have hbd:=b04 hIG hk
  refine F6 ?_
  refine g8 11 rfl rfl rfl (ArgsOK.of rfl) (a4m (m.cp.getD c default) hIG hk) rfl rfl ?_
  refine F6 ?_
  refine d7 G 12 rfl rfl rfl rfl rfl ?_
  refine vm3 ?_
  refine zgo ?_
  refine c8 (l6 rfl rfl rfl rfl (a5 (b8 rfl ?_) (a5 (b8 rfl ?_) (a5 (b8 rfl ?_) (a5 (u2 rfl ?_) (a5 (g9 ?_) (a5 (g9 ?_) d4)))))))
  all_goals exact a9Q
 refine zcd (fun h5=>?_) (fun h5=>?_)
 ·have hc:=a2i hv (by omega)
  obtain ⟨c,rfl⟩:∃ c:Nat,sc=c:=⟨sc.toNat,by omega⟩
  obtain ⟨g1,g2,g3⟩:=hM.lens (k:=c) (by omega)
  have hIG:=hM.ok c (by omega)
  have hS:=sm5 (m:=m) (sq:=sq) (sv:=sv) (c:=c) h5
  refine G3 (a2f (Gh.open (id:=6) (i:=c) (k:=1) 9 rfl rfl (b4q (by omega)) rfl rfl) (a2f (Gh.open (id:=6) (i:=c) (k:=2) 10 rfl rfl (B3 a3N rfl) rfl rfl) (a2f (Gh.open (id:=6) (i:=c) (k:=3) 11 rfl rfl (B3 a3N rfl) rfl rfl) ?_)))
  refine b4W ?_
  refine a3 rfl rfl (U4 G rfl rfl rfl rfl (B3 a3N rfl) rfl (.v (.own a9V (.own a9V (.own a9V .nil))))) ?_
  refine y6 ?_
  refine d7 G 12 rfl rfl rfl rfl rfl ?_
  refine zgn ?_
  refine zgn ?_
  refine G3 (a2f (Gh.detach (id:=6) rfl) (a2f (Gh.detach (id:=6) rfl) (a2f (Gh.detach (id:=6) rfl) ?_)))
  refine vm3 ?_
  refine zgo ?_
  refine c8 (l6 rfl rfl rfl rfl (a5 (b8 rfl ?_) (a5 (b8 rfl ?_) (a5 (b8 rfl ?_) (a5 (u2 rfl ?_) (a5 (g9 ?_) (a5 (g9 ?_) d4)))))))
  all_goals exact a9Q
 have hk:=b1C hv
 have hq:=a75 hv (by omega)
 obtain ⟨q,rfl⟩:∃ q:Nat,sq=q:=⟨sq.toNat,by omega⟩
 have hS:=sm6 (m:=m) (sk:=sk) (sc:=sc) (sv:=sv) (q:=q) (by omega)
 refine b4V ?_
 refine zgo ?_
 refine c8 (l6 rfl rfl rfl rfl (a5 (b8 rfl ?_) (a5 (b8 rfl ?_) (a5 (b8 rfl ?_) (a5 (u2 rfl ?_) (a5 (g9 ?_) (a5 (g9 ?_) d4)))))))
 all_goals exact a9Q
theorem a3m (m:Mach) (sk sq sc sv:Int) (hM:MaG m) (hv:f8 m.cp.length ⟨sk,sq,sc,sv⟩=true) (ho:a7A m ⟨sk,sq,sc,sv⟩):Ctr Tryz.prog 102 [.agg [.lst 2 (m.rs.map u7),.lst 1 (m.en.map l0),.lst 1 (m.ra.map l0),.nst none 4 (m.cp.map (H7 154 183))],.v (.agg ⟨[.int .i64 sk,.int .i64 sq,.int .i64 sc,.int .i64 sv]⟩)] (.shp false [some 4,none,none] [.fr 118 2 (m.rs.map u7),.fr 4 1 (m.en.map l0),.fr 4 1 (m.ra.map l0),.ne 113 4 (m.cp.map a2o),.v (.int .i64 (-1)),.v (.bool false)]):=by
 have f1:=hM.n
 have f2:=hM.en
 have f3:=hM.ra
 have f4:=hM.rn
 refine Ctr.of (n:=107) G Tryz.func102 rfl b5 rfl rfl rfl (fun w0=>?_)
 refine r8 0 rfl (fun _=>rfl) (fun u0=>?_)
 refine b46 ?_
 refine zcd (fun h1=>?_) (fun h1=>?_)
 ·exact absurd (a8o ho) (by omega)
 refine zcd (fun h2=>?_) (fun h2=>?_)
 ·exact absurd (a8o ho) (by omega)
 refine zcd (fun h3=>?_) (fun h3=>?_)
 ·have hc:=a2i hv (by omega)
  obtain ⟨c,rfl⟩:∃ c:Nat,sc=c:=⟨sc.toNat,by omega⟩
  obtain ⟨g1,g2,g3⟩:=hM.lens (k:=c) (by omega)
  have hIG:=hM.ok c (by omega)
  have hk:=b3r ho h3
  refine F6 ?_
  refine g8 11 rfl rfl rfl (ArgsOK.of rfl) (Y8 (m.cp.getD c default) hIG.f hk) rfl rfl ?_
  refine F6 ?_
  refine d7 G 12 rfl rfl rfl rfl rfl ?_
  refine vm3 ?_
  refine zgn ?_
  refine G3 (a2f (Gh.nestX (id:=6) m.cp rfl (by simp only [List.length_set,List.length_map])) ?_)
  refine zgo ?_
  refine c8 (l6 rfl rfl rfl rfl (a5 (b8 rfl ?_) (a5 (b8 rfl ?_) (a5 (b8 rfl ?_) (a5 (u2 rfl ?_) (a5 (g9 ?_) (a5 (g9 ?_) d4)))))))
  all_goals (rfl)
 refine zcd (fun h4=>?_) (fun h4=>?_)
 ·have hc:=a2i hv (by omega)
  obtain ⟨c,rfl⟩:∃ c:Nat,sc=c:=⟨sc.toNat,by omega⟩
  obtain ⟨g1,g2,g3⟩:=hM.lens (k:=c) (by omega)
  have hIG:=hM.ok c (by omega)
  have hk:=b3s ho h4
  refine zgo ?_
  refine a1 rfl (a46 8 rfl rfl rfl (ArgsOK.of rfl) (a2s (m.cp.getD c default) hk) (fun _=>rfl) rfl (fun y1=>?_))
  refine F6 ?_
  refine d7 G 9 rfl rfl rfl rfl rfl ?_
  refine b4W ?_
  first | refine i9 G rfl rfl rfl rfl rfl (C3 (by omega) (by omega)) rfl rfl (.v rfl (.v rfl (.v rfl (.v rfl .nil)))) rfl rfl rfl (Nat.le_of_ble_eq_true rfl) (fun q h=>by cases h) rfl ?_ | refine i9 G rfl rfl rfl rfl rfl (t8 (by omega) (by omega)) rfl rfl (.v rfl (.v rfl (.v rfl (.v rfl .nil)))) rfl rfl rfl (Nat.le_of_ble_eq_true rfl) (fun q h=>by cases h) rfl ?_ | refine i9 G rfl rfl rfl rfl rfl (B3 a3N rfl) rfl rfl (.v rfl (.v rfl (.v rfl (.v rfl .nil)))) rfl rfl rfl (Nat.le_of_ble_eq_true rfl) (fun q h=>by cases h) rfl ?_
  refine zgn ?_
  refine G3 (a2f (Gh.nestX (id:=6) m.cp rfl (by simp only [List.length_set,List.length_map])) ?_)
  refine zgo ?_
  refine c8 (l6 rfl rfl rfl rfl (a5 (b8 rfl ?_) (a5 (b8 rfl ?_) (a5 (b8 rfl ?_) (a5 (u2 rfl ?_) (a5 (g9 ?_) (a5 (g9 ?_) d4)))))))
  all_goals (rfl)
 exact absurd (a8o ho) (by omega)
end Go.Proofs.YtcnodpipinlpcaaGreat
set_option maxRecDepth 20000
namespace Go.Proofs.YtcnodpipinlpcaaGreat
open Go Go.Rf
theorem a15 (a b:Int):Ctr Tryz.prog 125 [.v (.int .i64 a),.v (.int .i64 b)] (.one (.v (.int .i64 (max a b)))):=by
 refine Ctr.of (n:=10) G Tryz.func125 rfl (by kernel_rfl) rfl rfl rfl (fun w0=>?_)
 refine b4 (fun K1 hK1=>?_)
 refine a6 ?_
 refine a1 rfl ?_
 refine a3 rfl rfl (a7 rfl rfl) ?_
 refine a4 ?_
 refine hK1 _ ?_
 clear hK1 K1
 refine b4 (fun K2 hK2=>?_)
 refine b4 (fun K3 hK3=>?_)
 refine a6 ?_
 refine a1 rfl ?_
 refine a3 rfl rfl (a8 rfl rfl) ?_
 refine a1 rfl ?_
 refine a3 rfl rfl (a8 rfl rfl) ?_
 refine a1 rfl ?_
 refine a3 rfl rfl (f9 rfl rfl rfl rfl) ?_
 refine a4 ?_
 refine hK3 _ ?_
 clear hK3 K3
 refine d1 rfl (fun h1=>?_) (fun h1=>?_)
 ·try rw [h1]
  try simp only [rfb] at h1
  refine b4 (fun K4 hK4=>?_)
  refine a6 ?_
  refine a1 rfl ?_
  refine a3 rfl rfl (a8 rfl rfl) ?_
  refine a1 rfl ?_
  refine a3 rfl rfl (a7 rfl rfl) ?_
  refine a4 ?_
  refine hK4 _ ?_
  clear hK4 K4
  refine c8 ?_
  refine j4 rfl ?_
  refine g9 ?_
  all_goals clear hK2 K2
  all_goals (simp_all;omega)
 ·try rw [h1]
  try simp only [rfb] at h1
  refine e9 ?_
  refine hK2 _ ?_
  clear hK2 K2
  refine b4 (fun K5 hK5=>?_)
  refine a6 ?_
  refine a1 rfl ?_
  refine a3 rfl rfl (a8 rfl rfl) ?_
  refine a1 rfl ?_
  refine a3 rfl rfl (a7 rfl rfl) ?_
  refine a4 ?_
  refine hK5 _ ?_
  clear hK5 K5
  refine c8 ?_
  refine j4 rfl ?_
  refine g9 ?_
  all_goals (simp_all;omega)
theorem a1y (sl:List Slot) (irq p:Int) (hl:sl.length≤1048576):Ctr Tryz.prog 184 [.lst 3 (sl.map p4),.v (.int .i64 irq),.v (.int .i64 p)] (.many [.fr 154 3 ((ptG sl irq p).1.map p4),.v (.bool (ptG sl irq p).2)]):=by
 have hf:=@a2k sl irq
 have hg:=@b0t sl
 refine Ctr.of (n:=39) G Tryz.func184 rfl (by kernel_rfl) rfl rfl rfl (fun w0=>?_)
 refine b4 (fun K1 hK1=>?_)
 refine a6 ?_
 refine a1 rfl ?_
 refine a3 rfl rfl (a7 rfl rfl) ?_
 refine a1 rfl ?_
 refine a3 rfl rfl (a7 rfl rfl) ?_
 refine a4 ?_
 refine hK1 _ ?_
 clear hK1 K1
 refine b4 (fun K2 hK2=>?_)
 refine b4 (fun K3 hK3=>?_)
 refine a6 ?_
 refine a1 rfl ?_
 refine a3 rfl rfl (a8 rfl rfl) ?_
 refine a1 rfl ?_
 refine a3 rfl rfl (a8 rfl rfl) ?_
 refine a1 rfl ?_
 refine a3 rfl rfl (k5 rfl (ArgsOK.of rfl) (A9 sl irq hl) rfl) ?_
 refine a1 rfl ?_
 refine a3 rfl rfl (a7 rfl rfl) ?_
 refine a4 ?_
 refine hK3 _ ?_
 clear hK3 K3
 refine b4 (fun K4 hK4=>?_)
 refine a6 ?_
 refine a1 rfl ?_
 refine a3 rfl rfl (a8 rfl rfl) ?_
 refine a1 rfl ?_
 refine a3 rfl rfl (f9 rfl rfl rfl rfl) ?_
 refine a4 ?_
 refine hK4 _ ?_
 clear hK4 K4
 refine d1 rfl (fun h1=>?_) (fun h1=>?_)
 ·try rw [h1]
  try simp only [rfb] at h1
  have hG:=b4s (p:=p) h1
  refine b4 (fun K5 hK5=>?_)
  refine a6 ?_
  refine a1 rfl ?_
  refine a3 rfl rfl (a8 rfl rfl) ?_
  refine a1 rfl ?_
  refine a3 rfl rfl (a8 rfl rfl) ?_
  refine a1 rfl ?_
  first | refine a3 rfl rfl (f6 G rfl rfl rfl rfl (by omega) (C4 (by omega))) ?_ | refine a3 rfl rfl (f6 G rfl rfl rfl rfl (by omega) (t8 (by omega) (by omega))) ?_ | refine a3 rfl rfl (f6 G rfl rfl rfl rfl (by omega) (C3 (by omega) (by omega))) ?_
  refine a1 rfl ?_
  refine a3 rfl rfl (B2 G rfl rfl rfl rfl) ?_
  refine a1 rfl ?_
  refine d7 G 1 rfl rfl rfl rfl rfl ?_
  refine a1 rfl ?_
  refine c5 G rfl rfl rfl rfl rfl rfl rfl rfl rfl rfl rfl ?_
  refine a4 ?_
  refine hK5 _ ?_
  clear hK5 K5
  refine b4 (fun K6 hK6=>?_)
  refine b4 (fun K7 hK7=>?_)
  refine a6 ?_
  refine a1 rfl ?_
  refine a3 rfl rfl (b7 G rfl rfl rfl rfl) ?_
  refine a1 rfl ?_
  refine a3 rfl rfl (c4 G rfl rfl rfl rfl rfl rfl rfl) ?_
  refine a1 rfl ?_
  refine a3 rfl rfl (f9 rfl rfl rfl rfl) ?_
  refine a4 ?_
  refine hK7 _ ?_
  clear hK7 K7
  refine d1 rfl (fun h2=>?_) (fun h2=>?_)
  ·try rw [h2]
   try simp only [rfb] at h2
   refine a6 ?_
   refine a1 rfl ?_
   refine a3 rfl rfl (b7 G rfl rfl rfl rfl) ?_
   refine a1 rfl ?_
   refine c5 G rfl rfl rfl rfl rfl rfl rfl rfl rfl rfl rfl ?_
   refine a4 ?_
   refine hK6 _ ?_
   clear hK6 K6
   refine b4 (fun K8 hK8=>?_)
   refine a6 ?_
   refine a1 rfl ?_
   refine a3 rfl rfl (a8 rfl rfl) ?_
   refine a1 rfl ?_
   refine a3 rfl rfl (a8 rfl rfl) ?_
   refine a1 rfl ?_
   refine a3 rfl rfl (b3 G rfl rfl rfl rfl rfl rfl) ?_
   refine a1 rfl ?_
   refine g8 2 rfl rfl rfl (ArgsOK.of rfl) (w5 sl _ ⟨_,_,_⟩ (by omega) (by omega)) rfl rfl ?_
   refine a1 rfl ?_
   refine a3 rfl rfl (a7 rfl rfl) ?_
   refine a1 rfl ?_
   refine a3 rfl rfl (a7 rfl rfl) ?_
   refine a4 ?_
   refine hK8 _ ?_
   clear hK8 K8
   refine c8 (v6 rfl rfl rfl rfl (a5 (b8 rfl ?_) (a5 (g9 ?_) d4)))
   all_goals clear hK2 K2
   all_goals (first | (rw [hG];done) | (rw [hG];rfl) | (rw [hG,a1Z (by assumption)];done) | (rw [hG,a1Z (by assumption)];rfl) | (rw [hG,a1n (by assumption)];done) | (rw [hG,a1n (by assumption)];rfl))
  ·try rw [h2]
   try simp only [rfb] at h2
   refine e9 ?_
   refine hK6 _ ?_
   clear hK6 K6
   refine b4 (fun K9 hK9=>?_)
   refine a6 ?_
   refine a1 rfl ?_
   refine a3 rfl rfl (a8 rfl rfl) ?_
   refine a1 rfl ?_
   refine a3 rfl rfl (a8 rfl rfl) ?_
   refine a1 rfl ?_
   refine a3 rfl rfl (b3 G rfl rfl rfl rfl rfl rfl) ?_
   refine a1 rfl ?_
   refine g8 2 rfl rfl rfl (ArgsOK.of rfl) (w5 sl _ ⟨_,_,_⟩ (by omega) (by omega)) rfl rfl ?_
   refine a1 rfl ?_
   refine a3 rfl rfl (a7 rfl rfl) ?_
   refine a1 rfl ?_
   refine a3 rfl rfl (a7 rfl rfl) ?_
   refine a4 ?_
   refine hK9 _ ?_
   clear hK9 K9
   refine c8 (v6 rfl rfl rfl rfl (a5 (b8 rfl ?_) (a5 (g9 ?_) d4)))
   all_goals clear hK2 K2
   all_goals (first | (rw [hG];done) | (rw [hG];rfl) | (rw [hG,a1Z (by assumption)];done) | (rw [hG,a1Z (by assumption)];rfl) | (rw [hG,a1n (by assumption)];done) | (rw [hG,a1n (by assumption)];rfl))
 ·try rw [h1]
  try simp only [rfb] at h1
  refine e9 ?_
  refine hK2 _ ?_
  clear hK2 K2
  refine b4 (fun K10 hK10=>?_)
  refine a6 ?_
  refine a1 rfl ?_
  refine a3 rfl rfl (a8 rfl rfl) ?_
  refine a1 rfl ?_
  refine a3 rfl rfl (k5 rfl (ArgsOK.of rfl) (Z6 sl hl) rfl) ?_
  refine a1 rfl ?_
  refine a3 rfl rfl (a7 rfl rfl) ?_
  refine a4 ?_
  refine hK10 _ ?_
  clear hK10 K10
  refine b4 (fun K11 hK11=>?_)
  refine b4 (fun K12 hK12=>?_)
  refine a6 ?_
  refine a1 rfl ?_
  refine a3 rfl rfl (a8 rfl rfl) ?_
  refine a1 rfl ?_
  refine a3 rfl rfl (f9 rfl rfl rfl rfl) ?_
  refine a4 ?_
  refine hK12 _ ?_
  clear hK12 K12
  refine d1 rfl (fun h3=>?_) (fun h3=>?_)
  ·try rw [h3]
   try simp only [rfb] at h3
   have hG:=b4u (p:=p) (by omega) h3
   refine b4 (fun K13 hK13=>?_)
   refine a6 ?_
   refine a1 rfl ?_
   refine k6 G 1 rfl rfl rfl rfl rfl rfl rfl rfl ?_
   refine a1 rfl ?_
   refine a3 rfl rfl (a7 rfl rfl) ?_
   refine a1 rfl ?_
   refine a3 rfl rfl (a7 rfl rfl) ?_
   refine a4 ?_
   refine hK13 _ ?_
   clear hK13 K13
   refine c8 (v6 rfl rfl rfl rfl (a5 (b8 rfl ?_) (a5 (g9 ?_) d4)))
   all_goals clear hK11 K11
   all_goals (first | (rw [hG];done) | (rw [hG];rfl) | (rw [hG,a1Z (by assumption)];done) | (rw [hG,a1Z (by assumption)];rfl) | (rw [hG,a1n (by assumption)];done) | (rw [hG,a1n (by assumption)];rfl))
  ·try rw [h3]
   try simp only [rfb] at h3
   have hG:=b4t (p:=p) (show o9 sl irq < 0 by omega) (show 0≤freS sl by omega)
   refine e9 ?_
   refine hK11 _ ?_
   clear hK11 K11
   refine b4 (fun K14 hK14=>?_)
   refine a6 ?_
   refine a1 rfl ?_
   refine a3 rfl rfl (a8 rfl rfl) ?_
   refine a1 rfl ?_
   refine a3 rfl rfl (a8 rfl rfl) ?_
   refine a1 rfl ?_
   refine a3 rfl rfl (a8 rfl rfl) ?_
   refine a1 rfl ?_
   refine a3 rfl rfl (a8 rfl rfl) ?_
   refine a1 rfl ?_
   refine a3 rfl rfl (g0 G rfl rfl rfl rfl) ?_
   refine a1 rfl ?_
   refine g8 1 rfl rfl rfl (ArgsOK.of rfl) (w5 sl _ ⟨_,_,_⟩ (by omega) (by omega)) rfl rfl ?_
   refine a1 rfl ?_
   refine a3 rfl rfl (a7 rfl rfl) ?_
   refine a1 rfl ?_
   refine a3 rfl rfl (a7 rfl rfl) ?_
   refine a4 ?_
   refine hK14 _ ?_
   clear hK14 K14
   refine c8 (v6 rfl rfl rfl rfl (a5 (b8 rfl ?_) (a5 (g9 ?_) d4)))
   all_goals (first | (rw [hG];done) | (rw [hG];rfl) | (rw [hG,a1Z (by assumption)];done) | (rw [hG,a1Z (by assumption)];rfl) | (rw [hG,a1n (by assumption)];done) | (rw [hG,a1n (by assumption)];rfl))
theorem a1z (sl:List Slot) (irq:Int) (hl:sl.length≤1048576):Ctr Tryz.prog 239 [.lst 3 (sl.map p4),.v (.int .i64 irq)] (.many [.fr 154 3 ((edG sl irq).1.map p4),.v (.bool (edG sl irq).2)]):=by
 have hf:=@a2k sl irq
 refine Ctr.of (n:=41) G Tryz.func239 rfl (by kernel_rfl) rfl rfl rfl (fun w0=>?_)
 refine b4 (fun K1 hK1=>?_)
 refine a6 ?_
 refine a1 rfl ?_
 refine a3 rfl rfl (a7 rfl rfl) ?_
 refine a1 rfl ?_
 refine a3 rfl rfl (a7 rfl rfl) ?_
 refine a4 ?_
 refine hK1 _ ?_
 clear hK1 K1
 refine b4 (fun K2 hK2=>?_)
 refine a6 ?_
 refine a1 rfl ?_
 refine a3 rfl rfl (a8 rfl rfl) ?_
 refine a1 rfl ?_
 refine a3 rfl rfl (a8 rfl rfl) ?_
 refine a1 rfl ?_
 refine a3 rfl rfl (k5 rfl (ArgsOK.of rfl) (A9 sl irq hl) rfl) ?_
 refine a1 rfl ?_
 refine a3 rfl rfl (a7 rfl rfl) ?_
 refine a4 ?_
 refine hK2 _ ?_
 clear hK2 K2
 refine b4 (fun K3 hK3=>?_)
 refine b4 (fun K4 hK4=>?_)
 refine a6 (a1 rfl (a3 rfl rfl (a8 rfl rfl) (a1 rfl (a3 rfl rfl (f9 rfl rfl rfl rfl) (a1 rfl (a3 rfl rfl (a8 rfl rfl) (o8 rfl rfl rfl (fun h1=>?_) (fun h1=>?_))))))))
 ·try rw [h1]
  try simp only [rfb] at h1
  have hG:=b05 (sl:=sl) (irq:=irq) (.inl h1)
  refine b6 rfl rfl rfl rfl rfl rfl ?_
  refine b6 rfl rfl rfl rfl rfl rfl ?_
  refine b6 rfl rfl rfl rfl rfl rfl ?_
  refine b6 rfl rfl rfl rfl rfl rfl ?_
  refine b6 rfl rfl rfl rfl rfl rfl ?_
  refine b6 rfl rfl rfl rfl rfl rfl ?_
  refine a1 rfl ?_
  refine a3 rfl rfl (i5 rfl rfl rfl) ?_
  refine a4 ?_
  refine hK4 _ ?_
  clear hK4 K4
  refine r7 rfl ?_
  refine b4 (fun K5 hK5=>?_)
  refine a6 ?_
  refine a1 rfl ?_
  refine k6 G 1 rfl rfl rfl rfl rfl rfl rfl rfl ?_
  refine a1 rfl ?_
  refine a3 rfl rfl (a7 rfl rfl) ?_
  refine a1 rfl ?_
  refine a3 rfl rfl (a7 rfl rfl) ?_
  refine a4 ?_
  refine hK5 _ ?_
  clear hK5 K5
  refine c8 (v6 rfl rfl rfl rfl (a5 (b8 rfl ?_) (a5 (g9 ?_) d4)))
  all_goals clear hK3 K3
  all_goals (first | (rw [hG];done) | (rw [hG];rfl))
 ·try rw [h1]
  try simp only [rfb] at h1
  refine c6 rfl rfl rfl ?_
  refine a3 rfl rfl (a8 rfl rfl) ?_
  refine c6 rfl rfl rfl ?_
  refine a3 rfl rfl (a8 rfl rfl) ?_
  refine c6 rfl rfl rfl ?_
  first | refine a3 rfl rfl (f6 G rfl rfl rfl rfl (by omega) (C4 (by omega))) ?_ | refine a3 rfl rfl (f6 G rfl rfl rfl rfl (by omega) (t8 (by omega) (by omega))) ?_ | refine a3 rfl rfl (f6 G rfl rfl rfl rfl (by omega) (C3 (by omega) (by omega))) ?_
  refine c6 rfl rfl rfl ?_
  refine a3 rfl rfl (B5 G rfl rfl rfl rfl) ?_
  refine c6 rfl rfl rfl ?_
  refine a3 rfl rfl (p9 G rfl rfl rfl rfl rfl) ?_
  refine c6 rfl rfl rfl ?_
  refine a3 rfl rfl (f9 rfl rfl rfl rfl) ?_
  refine a1 rfl ?_
  refine a3 rfl rfl (i7 rfl rfl rfl) ?_
  refine a4 ?_
  refine hK4 _ ?_
  clear hK4 K4
  refine d1 rfl (fun h2=>?_) (fun h2=>?_)
  ·try rw [h2]
   try simp only [rfb] at h2
   have hG:=b05 (sl:=sl) (irq:=irq) (.inr h2)
   refine b4 (fun K6 hK6=>?_)
   refine a6 ?_
   refine a1 rfl ?_
   refine k6 G 1 rfl rfl rfl rfl rfl rfl rfl rfl ?_
   refine a1 rfl ?_
   refine a3 rfl rfl (a7 rfl rfl) ?_
   refine a1 rfl ?_
   refine a3 rfl rfl (a7 rfl rfl) ?_
   refine a4 ?_
   refine hK6 _ ?_
   clear hK6 K6
   refine c8 (v6 rfl rfl rfl rfl (a5 (b8 rfl ?_) (a5 (g9 ?_) d4)))
   all_goals clear hK3 K3
   all_goals (first | (rw [hG];done) | (rw [hG];rfl))
  ·try rw [h2]
   try simp only [rfb] at h2
   refine e9 ?_
   refine hK3 _ ?_
   clear hK3 K3
   refine b4 (fun K7 hK7=>?_)
   refine b4 (fun K8 hK8=>?_)
   refine a6 ?_
   refine a1 rfl ?_
   refine a3 rfl rfl (a8 rfl rfl) ?_
   refine a1 rfl ?_
   refine a3 rfl rfl (a8 rfl rfl) ?_
   refine a1 rfl ?_
   first | refine a3 rfl rfl (f6 G rfl rfl rfl rfl (by omega) (C4 (by omega))) ?_ | refine a3 rfl rfl (f6 G rfl rfl rfl rfl (by omega) (t8 (by omega) (by omega))) ?_ | refine a3 rfl rfl (f6 G rfl rfl rfl rfl (by omega) (C3 (by omega) (by omega))) ?_
   refine a1 rfl ?_
   refine a3 rfl rfl (B5 G rfl rfl rfl rfl) ?_
   refine a1 rfl ?_
   refine a3 rfl rfl (p9 G rfl rfl rfl rfl rfl) ?_
   refine a1 rfl ?_
   refine a3 rfl rfl (f9 rfl rfl rfl rfl) ?_
   refine a4 ?_
   refine hK8 _ ?_
   clear hK8 K8
   refine d1 rfl (fun h3=>?_) (fun h3=>?_)
   ·try rw [h3]
    try simp only [rfb] at h3
    have hG:=b4v (sl:=sl) (irq:=irq) (by omega) h3
    refine b4 (fun K9 hK9=>?_)
    refine a6 ?_
    refine a1 rfl ?_
    refine a3 rfl rfl (a8 rfl rfl) ?_
    refine a1 rfl ?_
    refine a3 rfl rfl (a8 rfl rfl) ?_
    refine a1 rfl ?_
    refine a3 rfl rfl (g0 G rfl rfl rfl rfl) ?_
    refine a1 rfl ?_
    refine g8 1 rfl rfl rfl (ArgsOK.of rfl) (w5 sl _ ⟨_,_,_⟩ (by omega) (by omega)) rfl rfl ?_
    refine a1 rfl ?_
    refine a3 rfl rfl (a7 rfl rfl) ?_
    refine a1 rfl ?_
    refine a3 rfl rfl (a7 rfl rfl) ?_
    refine a4 ?_
    refine hK9 _ ?_
    clear hK9 K9
    refine c8 (v6 rfl rfl rfl rfl (a5 (b8 rfl ?_) (a5 (g9 ?_) d4)))
    all_goals clear hK7 K7
    all_goals (first | (rw [hG];done) | (rw [hG];rfl))
   ·try rw [h3]
    try simp only [rfb] at h3
    have hG:=b4w (sl:=sl) (irq:=irq) (by omega) h2 h3
    refine e9 ?_
    refine hK7 _ ?_
    clear hK7 K7
    refine b4 (fun K10 hK10=>?_)
    refine a6 ?_
    refine a1 rfl ?_
    refine a3 rfl rfl (a8 rfl rfl) ?_
    refine a1 rfl ?_
    refine a3 rfl rfl (a8 rfl rfl) ?_
    refine a1 rfl ?_
    first | refine a3 rfl rfl (f6 G rfl rfl rfl rfl (by omega) (C4 (by omega))) ?_ | refine a3 rfl rfl (f6 G rfl rfl rfl rfl (by omega) (t8 (by omega) (by omega))) ?_ | refine a3 rfl rfl (f6 G rfl rfl rfl rfl (by omega) (C3 (by omega) (by omega))) ?_
    refine a1 rfl ?_
    refine a3 rfl rfl (B2 G rfl rfl rfl rfl) ?_
    refine a1 rfl ?_
    refine d7 G 1 rfl rfl rfl rfl rfl ?_
    refine a1 rfl ?_
    refine c5 G rfl rfl rfl rfl rfl rfl rfl rfl rfl rfl rfl ?_
    refine a4 ?_
    refine hK10 _ ?_
    clear hK10 K10
    refine b4 (fun K11 hK11=>?_)
    refine a6 ?_
    refine a1 rfl ?_
    refine a3 rfl rfl (b7 G rfl rfl rfl rfl) ?_
    refine a1 rfl ?_
    refine c5 G rfl rfl rfl rfl rfl rfl rfl rfl rfl rfl rfl ?_
    refine a4 ?_
    refine hK11 _ ?_
    clear hK11 K11
    refine b4 (fun K12 hK12=>?_)
    refine a6 ?_
    refine a1 rfl ?_
    refine a3 rfl rfl (a8 rfl rfl) ?_
    refine a1 rfl ?_
    refine a3 rfl rfl (a8 rfl rfl) ?_
    refine a1 rfl ?_
    refine a3 rfl rfl (b3 G rfl rfl rfl rfl rfl rfl) ?_
    refine a1 rfl ?_
    refine g8 2 rfl rfl rfl (ArgsOK.of rfl) (w5 sl _ ⟨_,_,_⟩ (by omega) (by omega)) rfl rfl ?_
    refine a1 rfl ?_
    refine a3 rfl rfl (a7 rfl rfl) ?_
    refine a1 rfl ?_
    refine a3 rfl rfl (a7 rfl rfl) ?_
    refine a4 ?_
    refine hK12 _ ?_
    clear hK12 K12
    refine c8 (v6 rfl rfl rfl rfl (a5 (b8 rfl ?_) (a5 (g9 ?_) d4)))
    all_goals (first | (rw [hG];done) | (rw [hG];rfl))
theorem a4o (sl:List Slot) (lim:Int) (hl:sl.length≤1048576):CtrM Tryz.prog 181 [.own 0,.v (.int .i64 lim)] [.row 154 3 (sl.map p4)] (.many [.fr 154 3 ((tkA sl lim).1.map p4),.v (.int .i64 (tkA sl lim).2)]) [none]:=by
 have hb:=@a1O sl true
 refine CtrM.of (n:=33) (k:=1) G Tryz.func181 rfl (by kernel_rfl) rfl rfl rfl rfl rfl rfl rfl (fun w0 _ hpin=>?_)
 refine b4 (fun K1 hK1=>?_)
 refine a6 ?_
 refine a1 rfl ?_
 refine a3 rfl rfl (a7 rfl rfl) ?_
 refine a1 rfl ?_
 refine a3 rfl rfl (a7 rfl rfl) ?_
 refine a4 ?_
 refine hK1 _ ?_
 clear hK1 K1
 refine b4 (fun K2 hK2=>?_)
 refine a6 ?_
 refine a1 rfl ?_
 refine a3 rfl rfl (a8 rfl rfl) ?_
 refine a1 rfl ?_
 refine a3 rfl rfl (k5 rfl (ArgsOK.of rfl) (R6 sl hl) rfl) ?_
 refine a1 rfl ?_
 refine a3 rfl rfl (a7 rfl rfl) ?_
 refine a4 ?_
 refine hK2 _ ?_
 clear hK2 K2
 refine b4 (fun K3 hK3=>?_)
 refine b4 (fun K4 hK4=>?_)
 refine a6 (a1 rfl (a3 rfl rfl (a8 rfl rfl) (a1 rfl (a3 rfl rfl (f9 rfl rfl rfl rfl) (a1 rfl (a3 rfl rfl (a8 rfl rfl) (o8 rfl rfl rfl (fun h1=>?_) (fun h1=>?_))))))))
 ·try rw [h1]
  try simp only [rfb] at h1
  have hG:=b06 (sl:=sl) (lim:=lim) (a4B.mpr (by omega))
  refine b6 rfl rfl rfl rfl rfl rfl ?_
  refine b6 rfl rfl rfl rfl rfl rfl ?_
  refine b6 rfl rfl rfl rfl rfl rfl ?_
  refine b6 rfl rfl rfl rfl rfl rfl ?_
  refine b6 rfl rfl rfl rfl rfl rfl ?_
  refine b6 rfl rfl rfl rfl rfl rfl ?_
  refine b6 rfl rfl rfl rfl rfl rfl ?_
  refine a1 rfl ?_
  refine a3 rfl rfl (i5 rfl rfl rfl) ?_
  refine a4 ?_
  refine hK4 _ ?_
  clear hK4 K4
  refine r7 rfl ?_
  refine b4 (fun K5 hK5=>?_)
  refine a6 ?_
  refine a1 rfl ?_
  refine a3 rfl rfl (a8 rfl rfl) ?_
  refine a1 rfl ?_
  refine a3 rfl rfl (a7 rfl rfl) ?_
  refine a1 rfl ?_
  refine a3 rfl rfl (a7 rfl rfl) ?_
  refine a4 ?_
  refine hK5 _ ?_
  clear hK5 K5
  refine c8 (a3z rfl rfl rfl rfl (a5 (b8 rfl ?_) (a5 (g9 ?_) d4)) rfl (AftOK.gone AftOK.nil))
  all_goals clear hK3 K3
  all_goals (first | (rw [hG];done) | (rw [hG];rfl))
 ·try rw [h1]
  try simp only [rfb] at h1
  refine c6 rfl rfl rfl ?_
  refine a3 rfl rfl (a8 rfl rfl) ?_
  refine c6 rfl rfl rfl ?_
  refine a3 rfl rfl (a8 rfl rfl) ?_
  refine c6 rfl rfl rfl ?_
  refine a3 rfl rfl (k8 G rfl rfl rfl rfl rfl (by omega) (by rw [List.length_map];omega)) ?_
  refine c6 rfl rfl rfl ?_
  refine a3 rfl rfl (Q7 G rfl rfl rfl rfl) ?_
  refine c6 rfl rfl rfl ?_
  refine a3 rfl rfl (u3 G rfl rfl rfl rfl rfl (t8 (by omega) (by omega)) rfl) ?_
  refine c6 rfl rfl rfl ?_
  refine a3 rfl rfl (a8 rfl rfl) ?_
  refine c6 rfl rfl rfl ?_
  refine a3 rfl rfl (f9 rfl rfl rfl rfl) ?_
  refine a1 rfl ?_
  refine a3 rfl rfl (i7 rfl rfl rfl) ?_
  refine a4 ?_
  refine hK4 _ ?_
  clear hK4 K4
  refine d1 rfl (fun h2=>?_) (fun h2=>?_)
  ·try rw [h2]
   try simp only [rfb] at h2
   have hG:=b06 (sl:=sl) (lim:=lim) (a4B.mpr (by omega))
   refine b4 (fun K6 hK6=>?_)
   refine a6 ?_
   refine a1 rfl ?_
   refine a3 rfl rfl (a8 rfl rfl) ?_
   refine a1 rfl ?_
   refine a3 rfl rfl (a7 rfl rfl) ?_
   refine a1 rfl ?_
   refine a3 rfl rfl (a7 rfl rfl) ?_
   refine a4 ?_
   refine hK6 _ ?_
   clear hK6 K6
   refine c8 (a3z rfl rfl rfl rfl (a5 (b8 rfl ?_) (a5 (g9 ?_) d4)) rfl (AftOK.gone AftOK.nil))
   all_goals clear hK3 K3
   all_goals (first | (rw [hG];done) | (rw [hG];rfl))
  ·try rw [h2]
   try simp only [rfb] at h2
   have hG:=b2p (sl:=sl) (lim:=lim) (H5.mpr (by omega))
   refine e9 ?_
   refine hK3 _ ?_
   clear hK3 K3
   refine b4 (fun K7 hK7=>?_)
   refine a6 ?_
   refine a1 rfl ?_
   refine a3 rfl rfl (a8 rfl rfl) ?_
   refine a1 rfl ?_
   refine a3 rfl rfl (a8 rfl rfl) ?_
   refine a1 rfl ?_
   refine a3 rfl rfl (k8 G rfl rfl rfl rfl rfl (by omega) (by rw [List.length_map];omega)) ?_
   refine a1 rfl ?_
   refine a3 rfl rfl (y7 G rfl rfl rfl rfl (t8 (by omega) (by omega)) rfl) ?_
   refine a1 rfl ?_
   refine d7 G 2 rfl rfl rfl rfl rfl ?_
   refine a1 rfl ?_
   refine c5 G rfl rfl rfl rfl rfl rfl rfl rfl rfl rfl rfl ?_
   refine a4 ?_
   refine hK7 _ ?_
   clear hK7 K7
   refine b4 (fun K8 hK8=>?_)
   refine a6 ?_
   refine a1 rfl ?_
   refine a3 rfl rfl (b7 G rfl rfl rfl rfl) ?_
   refine a1 rfl ?_
   refine c5 G rfl rfl rfl rfl rfl rfl rfl rfl rfl rfl rfl ?_
   refine a4 ?_
   refine hK8 _ ?_
   clear hK8 K8
   refine b4 (fun K9 hK9=>?_)
   refine j9 8 [0,1] m5 (by kernel_rfl) rfl rfl (fun r0=>?_) (fun _ h=>h)
   refine b9 0 rfl (by kernel_rfl) (by kernel_rfl) rfl rfl rfl rfl (a8 rfl rfl) ?_
   refine b9 1 rfl (by kernel_rfl) (by kernel_rfl) rfl rfl rfl rfl (a8 rfl rfl) ?_
   refine b9 2 rfl (by kernel_rfl) (by kernel_rfl) rfl rfl rfl rfl (b3 G rfl rfl rfl rfl rfl rfl) ?_
   refine b9 4 rfl (by kernel_rfl) (by kernel_rfl) rfl rfl rfl rfl (b7 G rfl rfl rfl rfl) ?_
   refine b9 5 rfl (by kernel_rfl) (by kernel_rfl) rfl rfl rfl rfl (c4 G rfl rfl rfl rfl rfl rfl rfl) ?_
   refine a9 (rs:=[3]) (by kernel_rfl) rfl (AllB.cons ?_ AllB.nil)
   refine c7 [0,1] rfl rfl (g8 3 rfl rfl rfl (ArgsOK.of rfl) (w5 sl _ ⟨_,_,_⟩ hl (by omega)) rfl rfl (a4 ⟨rfl,?_⟩))
   refine b9 6 rfl (by kernel_rfl) (by kernel_rfl) rfl rfl rfl rfl (a7 rfl rfl) ?_
   refine b9 7 rfl (by kernel_rfl) (by kernel_rfl) rfl rfl rfl rfl (a7 rfl rfl) ?_
   refine l9 (by kernel_rfl) ?_
   refine hK9 _ ?_
   clear hK9 K9
   refine c8 (a3z rfl rfl rfl rfl (a5 (b8 rfl ?_) (a5 (g9 ?_) d4)) rfl (AftOK.gone AftOK.nil))
   all_goals (first | (rw [hG];done) | (rw [hG];rfl))
theorem a4p (q:Que) (irq:Int) (hF:QF q) (hn:¬ (0≤o9 q.sl irq∧H6 (q.sl.getD (o9 q.sl irq).toNat default)=true)):Ctr Tryz.prog 203 [.agg [.lst 3 (q.sl.map p4),.lst 2 (q.wa.map s6)],.v (.int .i64 irq)] (.shp false [some 2,none] [.fr 154 3 ((⟨[],[]⟩:Que).sl.map p4),.fr 183 2 ((⟨[],[]⟩:Que).wa.map s6),.v (.bool false)]):=by
 have hl4:=hF.sl.len
 refine Ctr.of (n:=23) G Tryz.func203 rfl (by kernel_rfl) rfl rfl rfl (fun w0=>?_)
 refine r8 0 rfl (fun _=>rfl) (fun u0=>?_)
 refine b4 (fun K1 hK1=>?_)
 refine a6 ?_
 refine a1 rfl ?_
 refine y4 1 rfl rfl rfl rfl rfl rfl rfl ?_
 refine a1 rfl ?_
 refine d7 G 2 rfl rfl rfl rfl rfl ?_
 refine a1 rfl ?_
 refine a3 rfl rfl (a7 rfl rfl) ?_
 refine a4 ?_
 refine hK1 _ ?_
 clear hK1 K1
 refine b4 (fun K2 hK2=>?_)
 refine a6 ?_
 refine a1 rfl ?_
 refine a3 rfl rfl (b7 G rfl rfl rfl rfl) ?_
 refine a1 rfl ?_
 refine a3 rfl rfl (E0 (c4 G rfl rfl rfl rfl rfl rfl rfl)) ?_
 refine a1 rfl ?_
 refine a3 rfl rfl (a8 rfl rfl) ?_
 refine a1 rfl ?_
 refine g8 3 rfl rfl rfl (ArgsOK.of rfl) (Ctr.eq (a1z q.sl irq (by omega)) (b07 hF hn)) rfl rfl ?_
 refine a1 rfl ?_
 refine a3 rfl rfl (a8 rfl rfl) ?_
 refine a1 rfl ?_
 refine a3 rfl rfl (c9 rfl rfl rfl) ?_
 refine a1 rfl ?_
 refine a3 rfl rfl (c9 rfl rfl rfl) ?_
 refine a1 rfl ?_
 refine a3 rfl rfl (a7 rfl rfl) ?_
 refine a1 rfl ?_
 refine a3 rfl rfl (a7 rfl rfl) ?_
 refine a4 ?_
 refine hK2 _ ?_
 clear hK2 K2
 refine b4 (fun K3 hK3=>?_)
 refine b4 (fun K4 hK4=>?_)
 refine a6 ?_
 refine a1 rfl ?_
 refine a3 rfl rfl (a8 rfl rfl) ?_
 refine a1 rfl ?_
 refine a3 rfl rfl (a4t rfl rfl) ?_
 refine a4 ?_
 refine hK4 _ ?_
 clear hK4 K4
 refine r7 rfl ?_
 refine b4 (fun K5 hK5=>?_)
 refine a6 ?_
 refine a1 rfl ?_
 refine a3 rfl rfl (g0 G rfl rfl rfl rfl) ?_
 refine a1 rfl ?_
 refine c5 G rfl rfl rfl rfl rfl rfl rfl rfl rfl rfl rfl ?_
 refine a1 rfl ?_
 refine a3 rfl rfl (a7 rfl rfl) ?_
 refine a4 ?_
 refine hK5 _ ?_
 clear hK5 K5
 refine c8 (l6 rfl rfl rfl rfl (a5 (o7 ?_) (a5 (o7 ?_) (a5 (g9 ?_) d4))))
 all_goals clear hK3 K3
 all_goals (rfl)
theorem Q1 (q:Que) (irq:Int) (hF:QF q):Ctr Tryz.prog 203 [.agg [.lst 3 (q.sl.map p4),.lst 2 (q.wa.map s6)],.v (.int .i64 irq)] (.shp false [some 2,none] [.fr 154 3 ((enG q irq).1.sl.map p4),.fr 183 2 ((enG q irq).1.wa.map s6),.v (.bool (enG q irq).2)]):=by
 by_cases h:0≤o9 q.sl irq∧H6 (q.sl.getD (o9 q.sl irq).toNat default)=true
 ·rw [b2s h.1 h.2];exact a0S q irq hF h.1 h.2
 ·rw [b2t h];exact a4p q irq hF h
theorem a3n (q:Que) (lim:Int) (hF:QF q):Ctr Tryz.prog 135 [.agg [.lst 3 (q.sl.map p4),.lst 2 (q.wa.map s6)],.v (.int .i64 lim)] (.shp false [some 2,none] [.fr 154 3 ((tkQ q lim).1.sl.map p4),.fr 183 2 ((tkQ q lim).1.wa.map s6),.v (.int .i64 (tkQ q lim).2)]):=by
 cases h:a01 q.sl lim
 ·rw [b2r h];exact a0r q lim hF h
 ·rw [b2q h];exact a13 q lim hF h
theorem V9 (x:Ifc) (hF:IfF x):Ctr Tryz.prog 73 [.agg [.v (.int .i64 x.ma),.lst 1 (x.st.map Rf.r5),.lst 3 (x.qu.sl.map p4),.lst 2 (x.qu.wa.map s6)]] (.shp false [some 4,none] [.v (.int .i64 (tkX x).1.ma),.fr 3 1 ((tkX x).1.st.map Rf.r5),.fr 154 3 ((tkX x).1.qu.sl.map p4),.fr 183 2 ((tkX x).1.qu.wa.map s6),.v (.int .i64 (tkX x).2)]):=by
 cases h:okT x
 ·rw [b2v h];exact Y8 x hF h
 ·rw [b2u h];exact a1w x hF h
theorem a3o (x:Ifc) (hG:IfG x):CtrM Tryz.prog 156 [.agg [.v (.int .i64 x.ma),.own 0,.own 1,.own 2]] [.row 3 1 (x.st.map Rf.r5),.row 154 3 (x.qu.sl.map p4),.row 183 2 (x.qu.wa.map s6)] (.shp false [some 4,none] [.v (.int .i64 (lvX x).1.ma),.fr 3 1 ((lvX x).1.st.map Rf.r5),.fr 154 3 ((lvX x).1.qu.sl.map p4),.fr 183 2 ((lvX x).1.qu.wa.map s6),.v (.int .i64 (lvX x).2)]) [none,none,none]:=by
 have hl4:=hG.f.qu.sl.len
 have hwn:=hG.f.qu.wn
 have hsn:=hG.f.sn
 refine CtrM.of (n:=41) (k:=3) G Tryz.func156 rfl (by kernel_rfl) rfl rfl rfl rfl rfl rfl rfl (fun w0 _ hpin=>?_)
 refine b4 (fun K1 hK1=>?_)
 refine a6 ?_
 refine a1 rfl ?_
 refine y4 4 rfl rfl rfl rfl rfl rfl rfl ?_
 refine a1 rfl ?_
 refine d7 G 5 rfl rfl rfl rfl rfl ?_
 refine a1 rfl ?_
 refine a3 rfl rfl (a7 rfl rfl) ?_
 refine a4 ?_
 refine hK1 _ ?_
 clear hK1 K1
 refine b4 (fun K2 hK2=>?_)
 refine a6 ?_
 refine a1 rfl ?_
 refine a3 rfl rfl (b7 G rfl rfl rfl rfl) ?_
 refine a1 rfl ?_
 refine a3 rfl rfl (c4 G rfl rfl rfl rfl rfl rfl rfl) ?_
 refine a1 rfl ?_
 first | refine a3 rfl rfl (r4 G rfl rfl rfl rfl (List.length_map _)) ?_ | refine a3 rfl rfl (t6 G rfl rfl rfl rfl) ?_
 refine a1 rfl ?_
 refine a3 rfl rfl (a7 rfl rfl) ?_
 refine a4 ?_
 refine hK2 _ ?_
 clear hK2 K2
 refine b4 (fun K3 hK3=>?_)
 refine b4 (fun K4 hK4=>?_)
 refine a6 ?_
 refine a1 rfl ?_
 refine a3 rfl rfl (a8 rfl rfl) ?_
 refine a1 rfl ?_
 refine a3 rfl rfl (f9 rfl rfl rfl rfl) ?_
 refine a4 ?_
 refine hK4 _ ?_
 clear hK4 K4
 refine d1 rfl (fun h1=>?_) (fun h1=>?_)
 ·try rw [h1]
  try simp only [rfb] at h1
  have hG0:=b2x (x:=x) (by omega)
  refine b4 (fun K5 hK5=>?_)
  refine a6 ?_
  refine a1 rfl ?_
  refine a3 rfl rfl (b3 G rfl rfl rfl rfl rfl rfl) ?_
  refine a1 rfl ?_
  refine c5 G rfl rfl rfl rfl rfl rfl rfl rfl rfl rfl rfl ?_
  refine a1 rfl ?_
  refine a3 rfl rfl (a7 rfl rfl) ?_
  refine a4 ?_
  refine hK5 _ ?_
  clear hK5 K5
  refine c8 (q9 rfl rfl rfl rfl (a5 (g9 ?_) (a5 (b8 rfl ?_) (a5 (b8 rfl ?_) (a5 (b8 rfl ?_) (a5 (g9 ?_) d4))))) rfl (AftOK.gone (AftOK.gone (AftOK.gone AftOK.nil))))
  all_goals clear hK3 K3
  all_goals (first | (rw [hG0];done) | (rw [hG0];rfl) | (rw [hG0,hls];done) | (rw [hG0,hls];rfl))
 ·try rw [h1]
  try simp only [rfb] at h1
  have hn0:¬ x.st.length=0:=(by omega)
  have hG0:=b2w hn0
  obtain ⟨hla,hlb⟩:=b03 hG hn0
  have hls:=a6b hn0
  refine e9 ?_
  refine hK3 _ ?_
  clear hK3 K3
  refine b4 (fun K6 hK6=>?_)
  refine j9 15 [0,1,2,3,4] m5 (by kernel_rfl) rfl rfl (fun r0=>?_) (fun _ h=>h)
  refine b9 0 rfl (by kernel_rfl) (by kernel_rfl) rfl rfl rfl rfl (b7 G rfl rfl rfl rfl) ?_
  refine b9 1 rfl (by kernel_rfl) (by kernel_rfl) rfl rfl rfl rfl (b3 G rfl rfl rfl rfl rfl rfl) ?_
  refine b9 2 rfl (by kernel_rfl) (by kernel_rfl) rfl rfl rfl rfl (b7 G rfl rfl rfl rfl) ?_
  refine b9 3 rfl (by kernel_rfl) (by kernel_rfl) rfl rfl rfl rfl (c4 G rfl rfl rfl rfl rfl rfl rfl) ?_
  refine b9 4 rfl (by kernel_rfl) (by kernel_rfl) rfl rfl rfl rfl (a8 rfl rfl) ?_
  first | refine b9 5 rfl (by kernel_rfl) (by kernel_rfl) rfl rfl rfl rfl (i8 rfl rfl rfl rfl (by omega) (by omega)) ?_ | refine b9 5 rfl (by kernel_rfl) (by kernel_rfl) rfl rfl rfl rfl (k4 rfl rfl rfl rfl) ?_
  refine b9 6 rfl (by kernel_rfl) (by kernel_rfl) rfl rfl rfl rfl (k8 G rfl rfl rfl rfl rfl (by omega) (by rw [List.length_map];omega)) ?_
  refine b9 7 rfl (by kernel_rfl) (by kernel_rfl) rfl rfl rfl rfl (u3 G rfl rfl rfl rfl rfl (t8 (by omega) (by omega)) rfl) ?_
  refine z8 (N:=6) rfl (s2 (fuel:=6) [⟨12,5,5,true,.box (avR [.slice none 0 0,.slice none 0 0] [])⟩] (AllVOK.cons (VOK.boxS G rfl rfl rfl rfl rfl) (AllVOK.nil)) (fun hok=>?_))
  refine n6 [(8,[])] (by kernel_rfl) (by kernel_rfl) (fun e he=>hok e he) (by kernel_rfl) (AllVS.cons ?_ AllVS.nil)
  refine VStep.mk0 [0,1,2,3,4] rfl rfl (fun b1 _ hbn=>g8 8 rfl rfl rfl (ArgsOK.of rfl) (a0S x.qu _ hG.f.qu (by rw [hls];exact hla) (by rw [hls];exact hlb)) rfl rfl (a4 rfl)) (by kernel_rfl) (by kernel_rfl) (by kernel_rfl) (by kernel_rfl) ?_
  refine w9 9 rfl (by kernel_rfl) rfl rfl rfl rfl (a8 rfl rfl) (by kernel_rfl) (by kernel_rfl) (by kernel_rfl) ?_
  refine w9 10 rfl (by kernel_rfl) rfl rfl rfl rfl (c9 rfl rfl rfl) (by kernel_rfl) (by kernel_rfl) (by kernel_rfl) ?_
  refine w9 11 rfl (by kernel_rfl) rfl rfl rfl rfl (c9 rfl rfl rfl) (by kernel_rfl) (by kernel_rfl) (by kernel_rfl) ?_
  refine n6 [(13,[12])] (by kernel_rfl) (by kernel_rfl) (fun e he=>hok e he) (by kernel_rfl) (AllVS.cons ?_ AllVS.nil)
  refine VStep.mk1 [0,1,2,3,4] 5 (.ptr 5 0) 5 (.box (avR [.slice none 0 0,.slice none 0 0] [])) [] rfl rfl rfl rfl rfl (fun b1 _ hbn=>c5 G rfl rfl rfl rfl rfl rfl rfl rfl rfl rfl rfl (a4 rfl)) (by kernel_rfl) (by kernel_rfl) (by kernel_rfl) (by kernel_rfl) ?_
  refine F8 ?_
  clear hok
  refine b9 14 rfl (by kernel_rfl) (by kernel_rfl) rfl rfl rfl rfl (a7 rfl rfl) ?_
  refine l9 (by kernel_rfl) ?_
  refine hK6 _ ?_
  clear hK6 K6
  refine b4 (fun K7 hK7=>?_)
  refine j9 18 [0,1,2,3,5,6,7] m5 (by kernel_rfl) rfl rfl (fun r0=>?_) (fun _ h=>h)
  refine b9 0 rfl (by kernel_rfl) (by kernel_rfl) rfl rfl rfl rfl (b7 G rfl rfl rfl rfl) ?_
  refine b9 1 rfl (by kernel_rfl) (by kernel_rfl) rfl rfl rfl rfl (c4 G rfl rfl rfl rfl rfl rfl rfl) ?_
  refine b9 2 rfl (by kernel_rfl) (by kernel_rfl) rfl rfl rfl rfl (b7 G rfl rfl rfl rfl) ?_
  refine b9 3 rfl (by kernel_rfl) (by kernel_rfl) rfl rfl rfl rfl (c4 G rfl rfl rfl rfl rfl rfl rfl) ?_
  refine b9 4 rfl (by kernel_rfl) (by kernel_rfl) rfl rfl rfl rfl (a8 rfl rfl) ?_
  first | refine b9 5 rfl (by kernel_rfl) (by kernel_rfl) rfl rfl rfl rfl (i8 rfl rfl rfl rfl (by omega) (by omega)) ?_ | refine b9 5 rfl (by kernel_rfl) (by kernel_rfl) rfl rfl rfl rfl (k4 rfl rfl rfl rfl) ?_
  refine b9 6 rfl (by kernel_rfl) (by kernel_rfl) rfl rfl rfl rfl (a1H G rfl rfl rfl rfl rfl rfl (by omega) (by first | omega | (simp;done) | (simp;omega)) (by first | omega | (simp;done) | (simp;omega))) ?_
  refine b9 8 rfl (by kernel_rfl) (by kernel_rfl) rfl rfl rfl rfl (b3 G rfl rfl rfl rfl rfl rfl) ?_
  refine b9 10 rfl (by kernel_rfl) (by kernel_rfl) rfl rfl rfl rfl (b7 G rfl rfl rfl rfl) ?_
  refine b9 11 rfl (by kernel_rfl) (by kernel_rfl) rfl rfl rfl rfl (c4 G rfl rfl rfl rfl rfl rfl rfl) ?_
  refine b9 12 rfl (by kernel_rfl) (by kernel_rfl) rfl rfl rfl rfl (a8 rfl rfl) ?_
  first | refine b9 13 rfl (by kernel_rfl) (by kernel_rfl) rfl rfl rfl rfl (i8 rfl rfl rfl rfl (by omega) (by omega)) ?_ | refine b9 13 rfl (by kernel_rfl) (by kernel_rfl) rfl rfl rfl rfl (k4 rfl rfl rfl rfl) ?_
  refine b9 14 rfl (by kernel_rfl) (by kernel_rfl) rfl rfl rfl rfl (k8 G rfl rfl rfl rfl rfl (by omega) (by rw [List.length_map];omega)) ?_
  refine b9 15 rfl (by kernel_rfl) (by kernel_rfl) rfl rfl rfl rfl (u3 G rfl rfl rfl rfl rfl (t8 (by omega) (by omega)) rfl) ?_
  refine a9 (rs:=[7]) (by kernel_rfl) rfl (AllB.cons ?_ AllB.nil)
  refine c7 [0,1,2,3,5,6,7] rfl rfl (g8 9 rfl rfl rfl (ArgsOK.sub1 rfl rfl (by rw [List.length_map];omega) a7C) (y9 (x.st.take (x.st.length - 1)) (by rw [List.length_take];omega)) rfl rfl (a4 ⟨rfl,?_⟩))
  refine a9 (rs:=[9]) (by kernel_rfl) rfl (AllB.cons ?_ AllB.nil)
  refine c7 [0,1,2,3,5,6,7] rfl rfl (a3 rfl rfl (g0 G rfl rfl rfl rfl) (a4 ⟨rfl,?_⟩))
  refine a9 (rs:=[16]) (by kernel_rfl) rfl (AllB.cons ?_ AllB.nil)
  refine c7 [0,1,2,3,5,6,7] rfl rfl (c5 G rfl rfl rfl rfl rfl rfl rfl rfl rfl rfl rfl (a4 ⟨rfl,?_⟩))
  refine b9 17 rfl (by kernel_rfl) (by kernel_rfl) rfl rfl rfl rfl (a7 rfl rfl) ?_
  refine l9 (by kernel_rfl) ?_
  refine hK7 _ ?_
  clear hK7 K7
  refine c8 (q9 rfl rfl rfl rfl (a5 (g9 ?_) (a5 (b8 rfl ?_) (a5 (b8 rfl ?_) (a5 (b8 rfl ?_) (a5 (g9 ?_) d4))))) rfl (AftOK.gone (AftOK.gone (AftOK.gone AftOK.nil))))
  all_goals (first | (rw [hG0];done) | (rw [hG0];rfl) | (rw [hG0,hls];done) | (rw [hG0,hls];rfl))
end Go.Proofs.YtcnodpipinlpcaaGreat
set_option maxRecDepth 20000
namespace Go.Proofs.YtcnodpipinlpcaaGreat
open Go Go.Rf
theorem a3U {x:Cur} {n:Int} (h:okC n x) (hn:n≤900000000000):CtrX (α:=Int×Cur) Tryz.prog 254 [.ptr 0 0] [.box [.lst 1 (x.c.map C5),.v (.int .i64 x.a),.v (.int .u64 x.s)]] (fun y=>(True)∧okC (n+4) y.2) (fun y=>.one (.v (.int .i64 y.1))) (fun y=>[some (.box [.lst 1 (y.2.c.map C5),.v (.int .i64 y.2.a),.v (.int .u64 y.2.s)])]):=by
 refine CtrX.of (n:=10) (k:=1) G Tryz.func254 rfl (by kernel_rfl) rfl rfl rfl rfl (fun _=>rfl) rfl rfl (fun w0 _ hpin=>?_)
 refine b4 (fun K1 hK1=>?_)
 refine a6 ?_
 refine a1 rfl ?_
 refine a3 rfl rfl (a7 rfl rfl) ?_
 refine a4 ?_
 refine hK1 _ ?_
 clear hK1 K1
 refine b4 (fun K2 hK2=>?_)
 refine b4 (fun K3 hK3=>?_)
 refine a6 ?_
 refine a1 rfl ?_
 refine a3 rfl rfl (a8 rfl rfl) ?_
 refine a1 rfl ?_
 refine d3 1 [0] rfl rfl rfl (a5v h (by omega) (20)) rfl (RowsIn.cons rfl RowsIn.nil) rfl (fun _=>rfl) rfl (fun x1 ⟨hv1,hc1⟩=>?_)
 refine a4 ?_
 refine hK3 _ ?_
 clear hK3 K3
 refine d1 rfl (fun h1=>?_) (fun h1=>?_)
 ·try rw [h1]
  try simp only [rfb] at h1
  refine b4 (fun K4 hK4=>?_)
  refine a6 ?_
  refine a1 rfl ?_
  refine a3 rfl rfl (a8 rfl rfl) ?_
  refine a1 rfl ?_
  refine k6 G 2 rfl rfl rfl rfl rfl rfl rfl rfl ?_
  refine a1 rfl ?_
  refine d3 2 [0,1] rfl rfl rfl (y8 hc1 (by omega) [-1,8] (-1) (8) (by decide) (by decide)) rfl (RowsIn.cons rfl (RowsIn.cons rfl RowsIn.nil)) rfl (fun _=>rfl) rfl (fun x2 ⟨hv2,hc2⟩=>?_)
  refine a1 rfl ?_
  refine a3 rfl rfl (a7 rfl rfl) ?_
  refine a4 ?_
  refine hK4 _ ?_
  clear hK4 K4
  refine c8 (v7 ((_,⟨_,_,_⟩)) (n7 rfl (g9 rfl) rfl (AftOK.stays rfl rfl rfl AftOK.nil)) (⟨?_,?_⟩))
  all_goals clear hK2 K2
  all_goals (try rcases x1 with ⟨_,_⟩)
  all_goals (try rcases x2 with ⟨_,_⟩)
  all_goals (try dsimp only at *)
  all_goals (first | trivial | exact hc2.mono (by omega) | omega)
 ·try rw [h1]
  try simp only [rfb] at h1
  refine e9 ?_
  refine hK2 _ ?_
  clear hK2 K2
  refine b4 (fun K5 hK5=>?_)
  refine a6 ?_
  refine a1 rfl ?_
  refine a3 rfl rfl (a8 rfl rfl) ?_
  refine a1 rfl ?_
  refine d3 1 [0] rfl rfl rfl (n8 hc1 (by omega) (8)) rfl (RowsIn.cons rfl RowsIn.nil) rfl (fun _=>rfl) rfl (fun x3 ⟨hv3,hc3⟩=>?_)
  refine a1 rfl ?_
  refine a3 rfl rfl (a7 rfl rfl) ?_
  refine a4 ?_
  refine hK5 _ ?_
  clear hK5 K5
  refine c8 (v7 ((_,⟨_,_,_⟩)) (n7 rfl (g9 rfl) rfl (AftOK.stays rfl rfl rfl AftOK.nil)) (⟨?_,?_⟩))
  all_goals (try rcases x1 with ⟨_,_⟩)
  all_goals (try rcases x2 with ⟨_,_⟩)
  all_goals (try rcases x3 with ⟨_,_⟩)
  all_goals (try dsimp only at *)
  all_goals (first | trivial | exact hc3.mono (by omega) | omega)
theorem a3p {x:Cur} {n:Int} (h:okC n x) (hn:n≤900000000000):CtrX (α:=Int×Cur) Tryz.prog 255 [.ptr 0 0] [.box [.lst 1 (x.c.map C5),.v (.int .i64 x.a),.v (.int .u64 x.s)]] (fun y=>(True)∧okC (n+2) y.2) (fun y=>.one (.v (.int .i64 y.1))) (fun y=>[some (.box [.lst 1 (y.2.c.map C5),.v (.int .i64 y.2.a),.v (.int .u64 y.2.s)])]):=by
 refine CtrX.of (n:=6) (k:=1) G Tryz.func255 rfl (by kernel_rfl) rfl rfl rfl rfl (fun _=>rfl) rfl rfl (fun w0 _ hpin=>?_)
 refine b4 (fun K1 hK1=>?_)
 refine a6 ?_
 refine a1 rfl ?_
 refine a3 rfl rfl (a7 rfl rfl) ?_
 refine a4 ?_
 refine hK1 _ ?_
 clear hK1 K1
 refine b4 (fun K2 hK2=>?_)
 refine a6 ?_
 refine a1 rfl ?_
 refine a3 rfl rfl (a8 rfl rfl) ?_
 refine a1 rfl ?_
 refine k6 G 2 rfl rfl rfl rfl rfl rfl rfl rfl ?_
 refine a1 rfl ?_
 refine d3 2 [0,1] rfl rfl rfl (y8 h (by omega) [0,1,2,3,5,8,15,4,4,7,12,16,-1,6] (-1) (16) (by decide) (by decide)) rfl (RowsIn.cons rfl (RowsIn.cons rfl RowsIn.nil)) rfl (fun _=>rfl) rfl (fun x1 ⟨hv1,hc1⟩=>?_)
 refine a1 rfl ?_
 refine a3 rfl rfl (a7 rfl rfl) ?_
 refine a4 ?_
 refine hK2 _ ?_
 clear hK2 K2
 refine c8 (v7 ((_,⟨_,_,_⟩)) (n7 rfl (g9 rfl) rfl (AftOK.stays rfl rfl rfl AftOK.nil)) (⟨?_,?_⟩))
 all_goals (try rcases x1 with ⟨_,_⟩)
 all_goals (try dsimp only at *)
 all_goals (first | trivial | exact hc1.mono (by omega) | omega)
theorem a2t {x:Cur} {n:Int} (h:okC n x) (hn:n≤900000000000):CtrX (α:=List Slot×Cur) Tryz.prog 253 [.ptr 0 0] [.box [.lst 1 (x.c.map C5),.v (.int .i64 x.a),.v (.int .u64 x.s)]] (fun y=>(y.1.length≤5)∧okC (n+100) y.2) (fun y=>.one (.fr 154 3 (y.1.map p4))) (fun y=>[some (.box [.lst 1 (y.2.c.map C5),.v (.int .i64 y.2.a),.v (.int .u64 y.2.s)])]):=by
 refine CtrX.of (n:=88) (k:=1) G Tryz.func253 rfl (by kernel_rfl) rfl rfl rfl rfl (fun _=>rfl) rfl rfl (fun w0 _ hpin=>?_)
 refine b4 (fun K1 hK1=>?_)
 refine a6 ?_
 refine a1 rfl ?_
 refine a3 rfl rfl (a7 rfl rfl) ?_
 refine a4 ?_
 refine hK1 _ ?_
 clear hK1 K1
 refine b4 (fun K2 hK2=>?_)
 refine a6 ?_
 refine a1 rfl ?_
 refine a3 rfl rfl (g0 G rfl rfl rfl rfl) ?_
 refine a1 rfl ?_
 refine a3 rfl rfl (g0 G rfl rfl rfl rfl) ?_
 refine a1 rfl ?_
 refine a3 rfl rfl (g0 G rfl rfl rfl rfl) ?_
 refine a1 rfl ?_
 refine a3 rfl rfl (g0 G rfl rfl rfl rfl) ?_
 refine a1 rfl ?_
 refine k6 G 2 rfl rfl rfl rfl rfl rfl rfl rfl ?_
 refine a1 rfl ?_
 refine a3 rfl rfl (a7 rfl rfl) ?_
 refine a4 ?_
 refine hK2 _ ?_
 clear hK2 K2
 refine b4 (fun K3 hK3=>?_)
 refine b4 (fun K4 hK4=>?_)
 refine a6 ?_
 refine a1 rfl ?_
 refine a3 rfl rfl (a8 rfl rfl) ?_
 refine a1 rfl ?_
 refine d3 2 [0] rfl rfl rfl (n8 h (by omega) (9)) rfl (RowsIn.cons rfl RowsIn.nil) rfl (fun _=>rfl) rfl (fun x1 ⟨hv1,hc1⟩=>?_)
 refine a1 rfl ?_
 refine a3 rfl rfl (a7 rfl rfl) ?_
 refine a4 ?_
 refine hK4 _ ?_
 clear hK4 K4
 refine l8 ?_
 refine m4 [0] [] (fun (z:Nat×Cur×List Slot)=>[(3,.own 1),(4,.v (.int .i64 (x1.1 - z.1)))]) (fun (z:Nat×Cur×List Slot)=>[(0,some (.box [.lst 1 (z.2.1.c.map C5),.v (.int .i64 z.2.1.a),.v (.int .u64 z.2.1.s)])),(1,some (.row 154 3 (z.2.2.map p4)))]) (fun (z:Nat×Cur×List Slot)=>(z.1:Int)≤x1.1∧(z.2.2.length=4)∧okC (n+2+8 * z.1) z.2.1) (fun (z:Nat×Cur×List Slot)=>x1.1.toNat - z.1) (0,x1.2,[zSl,zSl,zSl,zSl]) rfl rfl ?_ ?_ ?_ ?_
 ·exact ⟨hv1.1,rfl,hc1.mono (by simp)⟩
 ·exact ⟨⟨_,rfl,by (first | rfl | simp)⟩,rfl,⟨⟨_,rfl,by (first | rfl | simp)⟩,rfl,trivial⟩⟩
 ·exact ⟨⟨_,rfl,by rfl⟩,rfl,rfl,⟨⟨_,rfl,by rfl⟩,rfl,rfl,trivial⟩⟩
 ·intro z hinv
  obtain ⟨hz1,hz2,hz⟩:=hinv
  simp only [List.cons_append,List.nil_append]
  refine b4 (fun K5 hK5=>?_)
  refine b4 (fun K6 hK6=>?_)
  refine a6 ?_
  refine a1 rfl ?_
  refine a3 rfl rfl (a8 rfl rfl) ?_
  refine a1 rfl ?_
  refine a3 rfl rfl (f9 rfl rfl rfl rfl) ?_
  refine a4 ?_
  refine hK6 _ ?_
  clear hK6 K6
  refine d1 rfl (fun h1=>?_) (fun h1=>?_)
  ·try rw [h1]
   try simp only [rfb] at h1
   refine e9 ?_
   refine hK5 _ ?_
   clear hK5 K5
   refine b4 (fun K7 hK7=>?_)
   refine l8 ?_
   refine b4 (fun K8 hK8=>?_)
   refine a6 ?_
   refine a1 rfl ?_
   refine a3 rfl rfl (a8 rfl rfl) ?_
   refine a1 rfl ?_
   refine d3 2 [0] rfl rfl rfl (n8 hz (by omega) (4)) rfl (RowsIn.cons rfl RowsIn.nil) rfl (fun _=>rfl) rfl (fun x2 ⟨hv2,hc2⟩=>?_)
   refine a4 ?_
   refine hK8 _ ?_
   clear hK8 K8
   refine l8 ?_
   refine b4 (fun K9 hK9=>?_)
   refine b4 (fun K10 hK10=>?_)
   refine a6 ?_
   refine a1 rfl ?_
   refine a3 rfl rfl (f9 rfl rfl rfl rfl) ?_
   refine a1 rfl ?_
   refine a3 rfl rfl (a7 rfl rfl) ?_
   refine a4 ?_
   refine hK10 _ ?_
   clear hK10 K10
   refine d1 rfl (fun h2=>?_) (fun h2=>?_)
   ·try rw [h2]
    try simp only [rfb] at h2
    refine e9 ?_
    refine hK9 _ ?_
    clear hK9 K9
    refine r7 rfl ?_
    refine b4 (fun K11 hK11=>?_)
    refine a6 ?_
    refine a1 rfl ?_
    refine a3 rfl rfl (a8 rfl rfl) ?_
    refine a1 rfl ?_
    refine a3 rfl rfl (a8 rfl rfl) ?_
    refine a1 rfl ?_
    refine d3 2 [0] rfl rfl rfl (n8 hc2 (by omega) (8)) rfl (RowsIn.cons rfl RowsIn.nil) rfl (fun _=>rfl) rfl (fun x3 ⟨hv3,hc3⟩=>?_)
    refine a1 rfl ?_
    refine a3 rfl rfl (a8 rfl rfl) ?_
    refine a1 rfl ?_
    refine d3 2 [0] rfl rfl rfl (n8 hc3 (by omega) (8)) rfl (RowsIn.cons rfl RowsIn.nil) rfl (fun _=>rfl) rfl (fun x4 ⟨hv4,hc4⟩=>?_)
    refine a1 rfl ?_
    refine g8 3 rfl rfl rfl (ArgsOK.of rfl) (a1y z.2.2 _ _ (by omega)) rfl rfl ?_
    refine a1 rfl ?_
    refine a3 rfl rfl (a8 rfl rfl) ?_
    refine a1 rfl ?_
    refine a3 rfl rfl (c9 rfl rfl rfl) ?_
    refine a1 rfl ?_
    refine a3 rfl rfl (c9 rfl rfl rfl) ?_
    refine a1 rfl ?_
    refine a3 rfl rfl (a7 rfl rfl) ?_
    refine a1 rfl ?_
    refine a3 rfl rfl (a7 rfl rfl) ?_
    refine a4 ?_
    refine hK11 _ ?_
    clear hK11 K11
    refine b4 (fun K12 hK12=>?_)
    refine a6 ?_
    refine a1 rfl ?_
    refine a3 rfl rfl (a8 rfl rfl) ?_
    refine a4 ?_
    refine hK12 _ ?_
    clear hK12 K12
    refine d1 rfl (fun h3=>?_) (fun h3=>?_)
    ·try rw [h3]
     try simp only [rfb] at h3
     refine a6 ?_
     refine a1 rfl ?_
     refine a3 rfl rfl (a8 rfl rfl) ?_
     refine a1 rfl ?_
     refine a3 rfl rfl (a7 rfl rfl) ?_
     refine a4 ?_
     refine hK7 _ ?_
     clear hK7 K7
     refine a6 ?_
     refine a1 rfl ?_
     refine a3 rfl rfl (a8 rfl rfl) ?_
     refine a1 rfl ?_
     first | refine a3 rfl rfl (i8 rfl rfl rfl rfl (by omega) (by omega)) ?_ | refine a3 rfl rfl (k4 rfl rfl rfl rfl) ?_
     refine a1 rfl ?_
     refine a3 rfl rfl (a7 rfl rfl) ?_
     refine m7 (Gh.sub 2 1 (by rw [hpin];decide) rfl rfl rfl) ?_
     refine a4 ⟨(z.1+1,x4.2,(ptG z.2.2 x3.1 x4.1).1),?_,?_,⟨⟨_,rfl,by (first | rfl | exact congrArg (fun v=>AV.v (.int .i64 v)) (by show x1.1 - (z.1:Int) - 1=x1.1 - ((z.1+1:Nat):Int);omega))⟩,rfl,⟨⟨_,rfl,by (first | rfl | exact congrArg (fun v=>AV.v (.int .i64 v)) (by show x1.1 - (z.1:Int) - 1=x1.1 - ((z.1+1:Nat):Int);omega))⟩,rfl,trivial⟩⟩,⟨⟨_,rfl,by rfl⟩,rfl,rfl,⟨⟨_,rfl,by rfl⟩,rfl,rfl,trivial⟩⟩,rfl,rfl,rfl⟩
     ·first | exact ⟨by show ((z.1+1:Nat):Int)≤x1.1;omega,hz2,hc4.mono (by simp;omega)⟩ | exact ⟨by show ((z.1+1:Nat):Int)≤x1.1;omega,(T2 (by assumption)).trans hz2,hc4.mono (by simp;omega)⟩ | exact ⟨by show ((z.1+1:Nat):Int)≤x1.1;omega,T4.trans hz2,hc4.mono (by simp;omega)⟩ | exact ⟨by show ((z.1+1:Nat):Int)≤x1.1;omega,(T3 (by assumption)).trans hz2,hc4.mono (by simp;omega)⟩
     ·(show x1.1.toNat - (z.1+1) < x1.1.toNat - z.1;omega)
    ·try rw [h3]
     try simp only [rfb] at h3
     refine e9 ?_
     refine hK7 _ ?_
     clear hK7 K7
     refine a6 ?_
     refine a1 rfl ?_
     refine a3 rfl rfl (a8 rfl rfl) ?_
     refine a1 rfl ?_
     first | refine a3 rfl rfl (i8 rfl rfl rfl rfl (by omega) (by omega)) ?_ | refine a3 rfl rfl (k4 rfl rfl rfl rfl) ?_
     refine a1 rfl ?_
     refine a3 rfl rfl (a7 rfl rfl) ?_
     refine a4 ⟨(z.1+1,x4.2,z.2.2),?_,?_,⟨⟨_,rfl,by (first | rfl | exact congrArg (fun v=>AV.v (.int .i64 v)) (by show x1.1 - (z.1:Int) - 1=x1.1 - ((z.1+1:Nat):Int);omega))⟩,rfl,⟨⟨_,rfl,by (first | rfl | exact congrArg (fun v=>AV.v (.int .i64 v)) (by show x1.1 - (z.1:Int) - 1=x1.1 - ((z.1+1:Nat):Int);omega))⟩,rfl,trivial⟩⟩,⟨⟨_,rfl,by rfl⟩,rfl,rfl,⟨⟨_,rfl,by rfl⟩,rfl,rfl,trivial⟩⟩,rfl,rfl,rfl⟩
     ·first | exact ⟨by show ((z.1+1:Nat):Int)≤x1.1;omega,hz2,hc4.mono (by simp;omega)⟩ | exact ⟨by show ((z.1+1:Nat):Int)≤x1.1;omega,(T2 (by assumption)).trans hz2,hc4.mono (by simp;omega)⟩ | exact ⟨by show ((z.1+1:Nat):Int)≤x1.1;omega,T4.trans hz2,hc4.mono (by simp;omega)⟩ | exact ⟨by show ((z.1+1:Nat):Int)≤x1.1;omega,(T3 (by assumption)).trans hz2,hc4.mono (by simp;omega)⟩
     ·(show x1.1.toNat - (z.1+1) < x1.1.toNat - z.1;omega)
   ·try rw [h2]
    try simp only [rfb] at h2
    refine a6 ?_
    refine a1 rfl ?_
    refine a3 rfl rfl (f9 rfl rfl rfl rfl) ?_
    refine a1 rfl ?_
    refine a3 rfl rfl (a7 rfl rfl) ?_
    refine a4 ?_
    refine hK9 _ ?_
    clear hK9 K9
    refine d1 rfl (fun h4=>?_) (fun h4=>?_)
    ·try rw [h4]
     try simp only [rfb] at h4
     refine b4 (fun K13 hK13=>?_)
     refine a6 ?_
     refine a1 rfl ?_
     refine a3 rfl rfl (a8 rfl rfl) ?_
     refine a1 rfl ?_
     refine a3 rfl rfl (a8 rfl rfl) ?_
     refine a1 rfl ?_
     refine d3 2 [0] rfl rfl rfl (n8 hc2 (by omega) (8)) rfl (RowsIn.cons rfl RowsIn.nil) rfl (fun _=>rfl) rfl (fun x5 ⟨hv5,hc5⟩=>?_)
     refine a1 rfl ?_
     refine a3 rfl rfl (a8 rfl rfl) ?_
     refine a1 rfl ?_
     refine d3 2 [0] rfl rfl rfl (n8 hc5 (by omega) (8)) rfl (RowsIn.cons rfl RowsIn.nil) rfl (fun _=>rfl) rfl (fun x6 ⟨hv6,hc6⟩=>?_)
     refine a1 rfl ?_
     refine g8 3 rfl rfl rfl (ArgsOK.of rfl) (a1y z.2.2 _ _ (by omega)) rfl rfl ?_
     refine a1 rfl ?_
     refine a3 rfl rfl (a8 rfl rfl) ?_
     refine a1 rfl ?_
     refine a3 rfl rfl (c9 rfl rfl rfl) ?_
     refine a1 rfl ?_
     refine a3 rfl rfl (c9 rfl rfl rfl) ?_
     refine a1 rfl ?_
     refine a3 rfl rfl (a7 rfl rfl) ?_
     refine a1 rfl ?_
     refine a3 rfl rfl (a7 rfl rfl) ?_
     refine a4 ?_
     refine hK13 _ ?_
     clear hK13 K13
     refine b4 (fun K14 hK14=>?_)
     refine a6 ?_
     refine a1 rfl ?_
     refine a3 rfl rfl (a8 rfl rfl) ?_
     refine a4 ?_
     refine hK14 _ ?_
     clear hK14 K14
     refine d1 rfl (fun h5=>?_) (fun h5=>?_)
     ·try rw [h5]
      try simp only [rfb] at h5
      refine a6 ?_
      refine a1 rfl ?_
      refine a3 rfl rfl (a8 rfl rfl) ?_
      refine a1 rfl ?_
      refine a3 rfl rfl (a7 rfl rfl) ?_
      refine a4 ?_
      refine hK7 _ ?_
      clear hK7 K7
      refine a6 ?_
      refine a1 rfl ?_
      refine a3 rfl rfl (a8 rfl rfl) ?_
      refine a1 rfl ?_
      first | refine a3 rfl rfl (i8 rfl rfl rfl rfl (by omega) (by omega)) ?_ | refine a3 rfl rfl (k4 rfl rfl rfl rfl) ?_
      refine a1 rfl ?_
      refine a3 rfl rfl (a7 rfl rfl) ?_
      refine m7 (Gh.sub 2 1 (by rw [hpin];decide) rfl rfl rfl) ?_
      refine a4 ⟨(z.1+1,x6.2,(ptG z.2.2 x5.1 x6.1).1),?_,?_,⟨⟨_,rfl,by (first | rfl | exact congrArg (fun v=>AV.v (.int .i64 v)) (by show x1.1 - (z.1:Int) - 1=x1.1 - ((z.1+1:Nat):Int);omega))⟩,rfl,⟨⟨_,rfl,by (first | rfl | exact congrArg (fun v=>AV.v (.int .i64 v)) (by show x1.1 - (z.1:Int) - 1=x1.1 - ((z.1+1:Nat):Int);omega))⟩,rfl,trivial⟩⟩,⟨⟨_,rfl,by rfl⟩,rfl,rfl,⟨⟨_,rfl,by rfl⟩,rfl,rfl,trivial⟩⟩,rfl,rfl,rfl⟩
      ·first | exact ⟨by show ((z.1+1:Nat):Int)≤x1.1;omega,hz2,hc6.mono (by simp;omega)⟩ | exact ⟨by show ((z.1+1:Nat):Int)≤x1.1;omega,(T2 (by assumption)).trans hz2,hc6.mono (by simp;omega)⟩ | exact ⟨by show ((z.1+1:Nat):Int)≤x1.1;omega,T4.trans hz2,hc6.mono (by simp;omega)⟩ | exact ⟨by show ((z.1+1:Nat):Int)≤x1.1;omega,(T3 (by assumption)).trans hz2,hc6.mono (by simp;omega)⟩
      ·(show x1.1.toNat - (z.1+1) < x1.1.toNat - z.1;omega)
     ·try rw [h5]
      try simp only [rfb] at h5
      refine e9 ?_
      refine hK7 _ ?_
      clear hK7 K7
      refine a6 ?_
      refine a1 rfl ?_
      refine a3 rfl rfl (a8 rfl rfl) ?_
      refine a1 rfl ?_
      first | refine a3 rfl rfl (i8 rfl rfl rfl rfl (by omega) (by omega)) ?_ | refine a3 rfl rfl (k4 rfl rfl rfl rfl) ?_
      refine a1 rfl ?_
      refine a3 rfl rfl (a7 rfl rfl) ?_
      refine a4 ⟨(z.1+1,x6.2,z.2.2),?_,?_,⟨⟨_,rfl,by (first | rfl | exact congrArg (fun v=>AV.v (.int .i64 v)) (by show x1.1 - (z.1:Int) - 1=x1.1 - ((z.1+1:Nat):Int);omega))⟩,rfl,⟨⟨_,rfl,by (first | rfl | exact congrArg (fun v=>AV.v (.int .i64 v)) (by show x1.1 - (z.1:Int) - 1=x1.1 - ((z.1+1:Nat):Int);omega))⟩,rfl,trivial⟩⟩,⟨⟨_,rfl,by rfl⟩,rfl,rfl,⟨⟨_,rfl,by rfl⟩,rfl,rfl,trivial⟩⟩,rfl,rfl,rfl⟩
      ·first | exact ⟨by show ((z.1+1:Nat):Int)≤x1.1;omega,hz2,hc6.mono (by simp;omega)⟩ | exact ⟨by show ((z.1+1:Nat):Int)≤x1.1;omega,(T2 (by assumption)).trans hz2,hc6.mono (by simp;omega)⟩ | exact ⟨by show ((z.1+1:Nat):Int)≤x1.1;omega,T4.trans hz2,hc6.mono (by simp;omega)⟩ | exact ⟨by show ((z.1+1:Nat):Int)≤x1.1;omega,(T3 (by assumption)).trans hz2,hc6.mono (by simp;omega)⟩
      ·(show x1.1.toNat - (z.1+1) < x1.1.toNat - z.1;omega)
    ·try rw [h4]
     try simp only [rfb] at h4
     refine b4 (fun K15 hK15=>?_)
     refine a6 ?_
     refine a1 rfl ?_
     refine a3 rfl rfl (f9 rfl rfl rfl rfl) ?_
     refine a1 rfl ?_
     refine a3 rfl rfl (a7 rfl rfl) ?_
     refine a4 ?_
     refine hK15 _ ?_
     clear hK15 K15
     refine d1 rfl (fun h6=>?_) (fun h6=>?_)
     ·try rw [h6]
      try simp only [rfb] at h6
      refine a6 ?_
      refine a1 rfl ?_
      refine a3 rfl rfl (a8 rfl rfl) ?_
      refine a1 rfl ?_
      refine a0d 3 [1] rfl rfl rfl (a4o z.2.2 16 (by omega)) rfl (RowsIn.cons rfl RowsIn.nil) rfl rfl rfl ?_
      refine a1 rfl ?_
      refine a3 rfl rfl (a8 rfl rfl) ?_
      refine a1 rfl ?_
      refine a3 rfl rfl (c9 rfl rfl rfl) ?_
      refine a1 rfl ?_
      refine a3 rfl rfl (c9 rfl rfl rfl) ?_
      refine a1 rfl ?_
      refine a3 rfl rfl (a7 rfl rfl) ?_
      refine a4 ?_
      refine hK7 _ ?_
      clear hK7 K7
      refine a6 ?_
      refine a1 rfl ?_
      refine a3 rfl rfl (a8 rfl rfl) ?_
      refine a1 rfl ?_
      first | refine a3 rfl rfl (i8 rfl rfl rfl rfl (by omega) (by omega)) ?_ | refine a3 rfl rfl (k4 rfl rfl rfl rfl) ?_
      refine a1 rfl ?_
      refine a3 rfl rfl (a7 rfl rfl) ?_
      refine m7 (Gh.sub 2 1 (by rw [hpin];decide) rfl rfl rfl) ?_
      refine a4 ⟨(z.1+1,x2.2,(tkA z.2.2 16).1),?_,?_,⟨⟨_,rfl,by (first | rfl | exact congrArg (fun v=>AV.v (.int .i64 v)) (by show x1.1 - (z.1:Int) - 1=x1.1 - ((z.1+1:Nat):Int);omega))⟩,rfl,⟨⟨_,rfl,by (first | rfl | exact congrArg (fun v=>AV.v (.int .i64 v)) (by show x1.1 - (z.1:Int) - 1=x1.1 - ((z.1+1:Nat):Int);omega))⟩,rfl,trivial⟩⟩,⟨⟨_,rfl,by rfl⟩,rfl,rfl,⟨⟨_,rfl,by rfl⟩,rfl,rfl,trivial⟩⟩,rfl,rfl,rfl⟩
      ·first | exact ⟨by show ((z.1+1:Nat):Int)≤x1.1;omega,hz2,hc2.mono (by simp;omega)⟩ | exact ⟨by show ((z.1+1:Nat):Int)≤x1.1;omega,(T2 (by assumption)).trans hz2,hc2.mono (by simp;omega)⟩ | exact ⟨by show ((z.1+1:Nat):Int)≤x1.1;omega,T4.trans hz2,hc2.mono (by simp;omega)⟩ | exact ⟨by show ((z.1+1:Nat):Int)≤x1.1;omega,(T3 (by assumption)).trans hz2,hc2.mono (by simp;omega)⟩
      ·(show x1.1.toNat - (z.1+1) < x1.1.toNat - z.1;omega)
     ·try rw [h6]
      try simp only [rfb] at h6
      refine b4 (fun K16 hK16=>?_)
      refine a6 ?_
      refine a1 rfl ?_
      refine a3 rfl rfl (f9 rfl rfl rfl rfl) ?_
      refine a1 rfl ?_
      refine a3 rfl rfl (a7 rfl rfl) ?_
      refine a4 ?_
      refine hK16 _ ?_
      clear hK16 K16
      refine d1 rfl (fun h7=>?_) (fun h7=>?_)
      ·try rw [h7]
       try simp only [rfb] at h7
       refine b4 (fun K17 hK17=>?_)
       refine a6 ?_
       refine a1 rfl ?_
       refine a3 rfl rfl (a8 rfl rfl) ?_
       refine a1 rfl ?_
       refine a3 rfl rfl (a8 rfl rfl) ?_
       refine a1 rfl ?_
       refine d3 2 [0] rfl rfl rfl (n8 hc2 (by omega) (8)) rfl (RowsIn.cons rfl RowsIn.nil) rfl (fun _=>rfl) rfl (fun x7 ⟨hv7,hc7⟩=>?_)
       refine a1 rfl ?_
       refine g8 3 rfl rfl rfl (ArgsOK.of rfl) (a1z z.2.2 _ (by omega)) rfl rfl ?_
       refine a1 rfl ?_
       refine a3 rfl rfl (a8 rfl rfl) ?_
       refine a1 rfl ?_
       refine a3 rfl rfl (c9 rfl rfl rfl) ?_
       refine a1 rfl ?_
       refine a3 rfl rfl (c9 rfl rfl rfl) ?_
       refine a1 rfl ?_
       refine a3 rfl rfl (a7 rfl rfl) ?_
       refine a1 rfl ?_
       refine a3 rfl rfl (a7 rfl rfl) ?_
       refine a4 ?_
       refine hK17 _ ?_
       clear hK17 K17
       refine b4 (fun K18 hK18=>?_)
       refine a6 (a1 rfl (a3 rfl rfl (a8 rfl rfl) (a1 rfl (a3 rfl rfl (a8 rfl rfl) (o8 rfl rfl rfl (fun h8=>?_) (fun h8=>?_))))))
       ·try rw [h8]
        try simp only [rfb] at h8
        refine c6 rfl rfl rfl ?_
        refine a3 rfl rfl (a8 rfl rfl) ?_
        refine c6 rfl rfl rfl ?_
        refine d3 3 [0] rfl rfl rfl (a5v hc7 (by omega) (2)) rfl (RowsIn.cons rfl RowsIn.nil) rfl (fun _=>rfl) rfl (fun x8 ⟨hv8,hc8⟩=>?_)
        refine a1 rfl ?_
        refine a3 rfl rfl (i5 rfl rfl rfl) ?_
        refine a4 ?_
        refine hK18 _ ?_
        clear hK18 K18
        refine d1 rfl (fun h9=>?_) (fun h9=>?_)
        ·try rw [h9]
         try simp only [rfb] at h9
         refine a6 ?_
         refine a1 rfl ?_
         refine a3 rfl rfl (a8 rfl rfl) ?_
         refine a1 rfl ?_
         refine a3 rfl rfl (a7 rfl rfl) ?_
         refine a4 ?_
         refine hK7 _ ?_
         clear hK7 K7
         refine a6 ?_
         refine a1 rfl ?_
         refine a3 rfl rfl (a8 rfl rfl) ?_
         refine a1 rfl ?_
         first | refine a3 rfl rfl (i8 rfl rfl rfl rfl (by omega) (by omega)) ?_ | refine a3 rfl rfl (k4 rfl rfl rfl rfl) ?_
         refine a1 rfl ?_
         refine a3 rfl rfl (a7 rfl rfl) ?_
         refine m7 (Gh.sub 2 1 (by rw [hpin];decide) rfl rfl rfl) ?_
         refine a4 ⟨(z.1+1,x8.2,(edG z.2.2 x7.1).1),?_,?_,⟨⟨_,rfl,by (first | rfl | exact congrArg (fun v=>AV.v (.int .i64 v)) (by show x1.1 - (z.1:Int) - 1=x1.1 - ((z.1+1:Nat):Int);omega))⟩,rfl,⟨⟨_,rfl,by (first | rfl | exact congrArg (fun v=>AV.v (.int .i64 v)) (by show x1.1 - (z.1:Int) - 1=x1.1 - ((z.1+1:Nat):Int);omega))⟩,rfl,trivial⟩⟩,⟨⟨_,rfl,by rfl⟩,rfl,rfl,⟨⟨_,rfl,by rfl⟩,rfl,rfl,trivial⟩⟩,rfl,rfl,rfl⟩
         ·first | exact ⟨by show ((z.1+1:Nat):Int)≤x1.1;omega,hz2,hc8.mono (by simp;omega)⟩ | exact ⟨by show ((z.1+1:Nat):Int)≤x1.1;omega,(T2 (by assumption)).trans hz2,hc8.mono (by simp;omega)⟩ | exact ⟨by show ((z.1+1:Nat):Int)≤x1.1;omega,T4.trans hz2,hc8.mono (by simp;omega)⟩ | exact ⟨by show ((z.1+1:Nat):Int)≤x1.1;omega,(T3 (by assumption)).trans hz2,hc8.mono (by simp;omega)⟩
         ·(show x1.1.toNat - (z.1+1) < x1.1.toNat - z.1;omega)
        ·try rw [h9]
         try simp only [rfb] at h9
         refine e9 ?_
         refine hK7 _ ?_
         clear hK7 K7
         refine a6 ?_
         refine a1 rfl ?_
         refine a3 rfl rfl (a8 rfl rfl) ?_
         refine a1 rfl ?_
         first | refine a3 rfl rfl (i8 rfl rfl rfl rfl (by omega) (by omega)) ?_ | refine a3 rfl rfl (k4 rfl rfl rfl rfl) ?_
         refine a1 rfl ?_
         refine a3 rfl rfl (a7 rfl rfl) ?_
         refine a4 ⟨(z.1+1,x8.2,z.2.2),?_,?_,⟨⟨_,rfl,by (first | rfl | exact congrArg (fun v=>AV.v (.int .i64 v)) (by show x1.1 - (z.1:Int) - 1=x1.1 - ((z.1+1:Nat):Int);omega))⟩,rfl,⟨⟨_,rfl,by (first | rfl | exact congrArg (fun v=>AV.v (.int .i64 v)) (by show x1.1 - (z.1:Int) - 1=x1.1 - ((z.1+1:Nat):Int);omega))⟩,rfl,trivial⟩⟩,⟨⟨_,rfl,by rfl⟩,rfl,rfl,⟨⟨_,rfl,by rfl⟩,rfl,rfl,trivial⟩⟩,rfl,rfl,rfl⟩
         ·first | exact ⟨by show ((z.1+1:Nat):Int)≤x1.1;omega,hz2,hc8.mono (by simp;omega)⟩ | exact ⟨by show ((z.1+1:Nat):Int)≤x1.1;omega,(T2 (by assumption)).trans hz2,hc8.mono (by simp;omega)⟩ | exact ⟨by show ((z.1+1:Nat):Int)≤x1.1;omega,T4.trans hz2,hc8.mono (by simp;omega)⟩ | exact ⟨by show ((z.1+1:Nat):Int)≤x1.1;omega,(T3 (by assumption)).trans hz2,hc8.mono (by simp;omega)⟩
         ·(show x1.1.toNat - (z.1+1) < x1.1.toNat - z.1;omega)
       ·try rw [h8]
        try simp only [rfb] at h8
        refine b6 rfl rfl rfl rfl rfl rfl ?_
        refine b6 rfl rfl rfl rfl rfl rfl ?_
        refine a1 rfl ?_
        refine a3 rfl rfl (i7 rfl rfl rfl) ?_
        refine a4 ?_
        refine hK18 _ ?_
        clear hK18 K18
        refine B1 rfl ?_
        refine e9 ?_
        refine hK7 _ ?_
        clear hK7 K7
        refine a6 ?_
        refine a1 rfl ?_
        refine a3 rfl rfl (a8 rfl rfl) ?_
        refine a1 rfl ?_
        first | refine a3 rfl rfl (i8 rfl rfl rfl rfl (by omega) (by omega)) ?_ | refine a3 rfl rfl (k4 rfl rfl rfl rfl) ?_
        refine a1 rfl ?_
        refine a3 rfl rfl (a7 rfl rfl) ?_
        refine a4 ⟨(z.1+1,x7.2,z.2.2),?_,?_,⟨⟨_,rfl,by (first | rfl | exact congrArg (fun v=>AV.v (.int .i64 v)) (by show x1.1 - (z.1:Int) - 1=x1.1 - ((z.1+1:Nat):Int);omega))⟩,rfl,⟨⟨_,rfl,by (first | rfl | exact congrArg (fun v=>AV.v (.int .i64 v)) (by show x1.1 - (z.1:Int) - 1=x1.1 - ((z.1+1:Nat):Int);omega))⟩,rfl,trivial⟩⟩,⟨⟨_,rfl,by rfl⟩,rfl,rfl,⟨⟨_,rfl,by rfl⟩,rfl,rfl,trivial⟩⟩,rfl,rfl,rfl⟩
        ·first | exact ⟨by show ((z.1+1:Nat):Int)≤x1.1;omega,hz2,hc7.mono (by simp;omega)⟩ | exact ⟨by show ((z.1+1:Nat):Int)≤x1.1;omega,(T2 (by assumption)).trans hz2,hc7.mono (by simp;omega)⟩ | exact ⟨by show ((z.1+1:Nat):Int)≤x1.1;omega,T4.trans hz2,hc7.mono (by simp;omega)⟩ | exact ⟨by show ((z.1+1:Nat):Int)≤x1.1;omega,(T3 (by assumption)).trans hz2,hc7.mono (by simp;omega)⟩
        ·(show x1.1.toNat - (z.1+1) < x1.1.toNat - z.1;omega)
      ·try rw [h7]
       try simp only [rfb] at h7
       refine e9 ?_
       refine hK7 _ ?_
       clear hK7 K7
       refine a6 ?_
       refine a1 rfl ?_
       refine a3 rfl rfl (a8 rfl rfl) ?_
       refine a1 rfl ?_
       first | refine a3 rfl rfl (i8 rfl rfl rfl rfl (by omega) (by omega)) ?_ | refine a3 rfl rfl (k4 rfl rfl rfl rfl) ?_
       refine a1 rfl ?_
       refine a3 rfl rfl (a7 rfl rfl) ?_
       refine a4 ⟨(z.1+1,x2.2,z.2.2),?_,?_,⟨⟨_,rfl,by (first | rfl | exact congrArg (fun v=>AV.v (.int .i64 v)) (by show x1.1 - (z.1:Int) - 1=x1.1 - ((z.1+1:Nat):Int);omega))⟩,rfl,⟨⟨_,rfl,by (first | rfl | exact congrArg (fun v=>AV.v (.int .i64 v)) (by show x1.1 - (z.1:Int) - 1=x1.1 - ((z.1+1:Nat):Int);omega))⟩,rfl,trivial⟩⟩,⟨⟨_,rfl,by rfl⟩,rfl,rfl,⟨⟨_,rfl,by rfl⟩,rfl,rfl,trivial⟩⟩,rfl,rfl,rfl⟩
       ·first | exact ⟨by show ((z.1+1:Nat):Int)≤x1.1;omega,hz2,hc2.mono (by simp;omega)⟩ | exact ⟨by show ((z.1+1:Nat):Int)≤x1.1;omega,(T2 (by assumption)).trans hz2,hc2.mono (by simp;omega)⟩ | exact ⟨by show ((z.1+1:Nat):Int)≤x1.1;omega,T4.trans hz2,hc2.mono (by simp;omega)⟩ | exact ⟨by show ((z.1+1:Nat):Int)≤x1.1;omega,(T3 (by assumption)).trans hz2,hc2.mono (by simp;omega)⟩
       ·(show x1.1.toNat - (z.1+1) < x1.1.toNat - z.1;omega)
  ·try rw [h1]
   try simp only [rfb] at h1
   refine B0 ?_
   refine hK3 _ ?_
   clear hK5 K5 hK3 K3
   refine b4 (fun K19 hK19=>?_)
   refine b4 (fun K20 hK20=>?_)
   refine a6 ?_
   refine a1 rfl ?_
   refine a3 rfl rfl (a8 rfl rfl) ?_
   refine a1 rfl ?_
   refine d3 2 [0] rfl rfl rfl (n8 hz (by omega) (24)) rfl (RowsIn.cons rfl RowsIn.nil) rfl (fun _=>rfl) rfl (fun x9 ⟨hv9,hc9⟩=>?_)
   refine a4 ?_
   refine hK20 _ ?_
   clear hK20 K20
   refine l8 ?_
   refine b4 (fun K21 hK21=>?_)
   refine a6 ?_
   refine a1 rfl ?_
   refine a3 rfl rfl (f9 rfl rfl rfl rfl) ?_
   refine a1 rfl ?_
   refine a3 rfl rfl (a7 rfl rfl) ?_
   refine a4 ?_
   refine hK21 _ ?_
   clear hK21 K21
   refine d1 rfl (fun h10=>?_) (fun h10=>?_)
   ·try rw [h10]
    try simp only [rfb] at h10
    refine a6 ?_
    refine a1 rfl ?_
    refine a3 rfl rfl (a8 rfl rfl) ?_
    refine a1 rfl ?_
    refine a3 rfl rfl (a8 rfl rfl) ?_
    refine a1 rfl ?_
    refine d3 2 [0] rfl rfl rfl (n8 hc9 (by omega) (4)) rfl (RowsIn.cons rfl RowsIn.nil) rfl (fun _=>rfl) rfl (fun x10 ⟨hv10,hc10⟩=>?_)
    refine a1 rfl ?_
    refine a3 rfl rfl (a8 rfl rfl) ?_
    refine a1 rfl ?_
    refine k6 G 3 rfl rfl rfl rfl rfl rfl rfl rfl ?_
    refine a1 rfl ?_
    refine d3 3 [0,2] rfl rfl rfl (y8 hc10 (by omega) [-1,4,1] (-1) (4) (by decide) (by decide)) rfl (RowsIn.cons rfl (RowsIn.cons rfl RowsIn.nil)) rfl (fun _=>rfl) rfl (fun x11 ⟨hv11,hc11⟩=>?_)
    refine a1 rfl ?_
    refine a3 rfl rfl (a8 rfl rfl) ?_
    refine a1 rfl ?_
    refine k6 G 4 rfl rfl rfl rfl rfl rfl rfl rfl ?_
    refine a1 rfl ?_
    refine d3 4 [0,3] rfl rfl rfl (y8 hc11 (by omega) [-1,7,8] (-1) (8) (by decide) (by decide)) rfl (RowsIn.cons rfl (RowsIn.cons rfl RowsIn.nil)) rfl (fun _=>rfl) rfl (fun x12 ⟨hv12,hc12⟩=>?_)
    refine a1 rfl ?_
    refine a3 rfl rfl (a8 rfl rfl) ?_
    refine a1 rfl ?_
    refine k6 G 5 rfl rfl rfl rfl rfl rfl rfl rfl ?_
    refine a1 rfl ?_
    refine d3 5 [0,4] rfl rfl rfl (y8 hc12 (by omega) [-1,15,16] (-1) (16) (by decide) (by decide)) rfl (RowsIn.cons rfl (RowsIn.cons rfl RowsIn.nil)) rfl (fun _=>rfl) rfl (fun x13 ⟨hv13,hc13⟩=>?_)
    refine a1 rfl ?_
    refine a3 rfl rfl (g0 G rfl rfl rfl rfl) ?_
    refine a1 rfl ?_
    refine a3 rfl rfl (k8 G rfl rfl rfl rfl rfl (by omega) (by rw [List.length_map];omega)) ?_
    refine a1 rfl ?_
    refine i6 G rfl rfl rfl rfl rfl (t8 (by omega) (by omega)) rfl rfl rfl rfl rfl (Nat.le_of_ble_eq_true rfl) rfl ?_
    refine a4 ?_
    refine hK19 _ ?_
    clear hK19 K19
    refine b4 (fun K22 hK22=>?_)
    refine a6 ?_
    refine a1 rfl ?_
    refine a3 rfl rfl (a8 rfl rfl) ?_
    refine a1 rfl ?_
    refine a3 rfl rfl (a7 rfl rfl) ?_
    refine a4 ?_
    refine hK22 _ ?_
    clear hK22 K22
    refine c8 (v7 ((z.2.2.set x10.1.toNat ⟨x11.1,x12.1,x13.1⟩,x13.2)) (n7 rfl (b8 rfl ?_) rfl (AftOK.stays rfl ?_ rfl AftOK.nil)) (⟨?_,?_⟩))
    all_goals (first | rfl | exact hc13.mono (by omega) | (dsimp only;rw [List.map_set];rfl) | (rw [List.map_append];rfl) | (show List.length _≤5;(try simp only [List.length_set,List.length_append,List.length_cons,List.length_nil]);omega))
   ·try rw [h10]
    try simp only [rfb] at h10
    refine b4 (fun K23 hK23=>?_)
    refine a6 ?_
    refine a1 rfl ?_
    refine a3 rfl rfl (f9 rfl rfl rfl rfl) ?_
    refine a1 rfl ?_
    refine a3 rfl rfl (a7 rfl rfl) ?_
    refine a4 ?_
    refine hK23 _ ?_
    clear hK23 K23
    refine d1 rfl (fun h11=>?_) (fun h11=>?_)
    ·try rw [h11]
     try simp only [rfb] at h11
     refine a6 ?_
     refine a1 rfl ?_
     refine a3 rfl rfl (a8 rfl rfl) ?_
     refine a1 rfl ?_
     refine a3 rfl rfl (g0 G rfl rfl rfl rfl) ?_
     refine a1 rfl ?_
     refine k6 G 3 rfl rfl rfl rfl rfl rfl rfl rfl ?_
     refine a1 rfl ?_
     refine f7 G (by rw [hpin];decide) rfl rfl rfl rfl rfl rfl rfl rfl rfl (by first | (simp only [List.length_map,List.length_cons,List.length_nil];omega) | (simp;omega)) rfl rfl ?_
     refine a1 rfl ?_
     refine a3 rfl rfl (a7 rfl rfl) ?_
     refine a4 ?_
     refine hK19 _ ?_
     clear hK19 K19
     refine b4 (fun K24 hK24=>?_)
     refine a6 ?_
     refine a1 rfl ?_
     refine a3 rfl rfl (a8 rfl rfl) ?_
     refine a1 rfl ?_
     refine a3 rfl rfl (a7 rfl rfl) ?_
     refine a4 ?_
     refine hK24 _ ?_
     clear hK24 K24
     refine c8 (v7 ((z.2.2++[zSl],x9.2)) (n7 rfl (b8 rfl ?_) rfl (AftOK.stays rfl ?_ rfl AftOK.nil)) (⟨?_,?_⟩))
     all_goals (first | rfl | exact hc9.mono (by omega) | (dsimp only;rw [List.map_set];rfl) | (rw [List.map_append];rfl) | (show List.length _≤5;(try simp only [List.length_set,List.length_append,List.length_cons,List.length_nil]);omega))
    ·try rw [h11]
     try simp only [rfb] at h11
     refine b4 (fun K25 hK25=>?_)
     refine a6 ?_
     refine a1 rfl ?_
     refine a3 rfl rfl (f9 rfl rfl rfl rfl) ?_
     refine a1 rfl ?_
     refine a3 rfl rfl (a7 rfl rfl) ?_
     refine a4 ?_
     refine hK25 _ ?_
     clear hK25 K25
     refine d1 rfl (fun h12=>?_) (fun h12=>?_)
     ·try rw [h12]
      try simp only [rfb] at h12
      refine a6 ?_
      refine a1 rfl ?_
      refine a3 rfl rfl (a8 rfl rfl) ?_
      refine a1 rfl ?_
      refine a3 rfl rfl (g0 G rfl rfl rfl rfl) ?_
      refine a1 rfl ?_
      refine a3 rfl rfl (k8 G rfl rfl rfl rfl rfl (by omega) (by rw [List.length_map];omega)) ?_
      refine a1 rfl ?_
      refine i6 G rfl rfl rfl rfl rfl (t8 (by omega) (by omega)) rfl rfl rfl rfl rfl (Nat.le_of_ble_eq_true rfl) rfl ?_
      refine a4 ?_
      refine hK19 _ ?_
      clear hK19 K19
      refine b4 (fun K26 hK26=>?_)
      refine a6 ?_
      refine a1 rfl ?_
      refine a3 rfl rfl (a8 rfl rfl) ?_
      refine a1 rfl ?_
      refine a3 rfl rfl (a7 rfl rfl) ?_
      refine a4 ?_
      refine hK26 _ ?_
      clear hK26 K26
      refine c8 (v7 ((z.2.2.set 3 ⟨0,1,0⟩,x9.2)) (n7 rfl (b8 rfl ?_) rfl (AftOK.stays rfl ?_ rfl AftOK.nil)) (⟨?_,?_⟩))
      all_goals (first | rfl | exact hc9.mono (by omega) | (dsimp only;rw [List.map_set];rfl) | (rw [List.map_append];rfl) | (show List.length _≤5;(try simp only [List.length_set,List.length_append,List.length_cons,List.length_nil]);omega))
     ·try rw [h12]
      try simp only [rfb] at h12
      refine e9 ?_
      refine hK19 _ ?_
      clear hK19 K19
      refine b4 (fun K27 hK27=>?_)
      refine a6 ?_
      refine a1 rfl ?_
      refine a3 rfl rfl (a8 rfl rfl) ?_
      refine a1 rfl ?_
      refine a3 rfl rfl (a7 rfl rfl) ?_
      refine a4 ?_
      refine hK27 _ ?_
      clear hK27 K27
      refine c8 (v7 ((z.2.2,x9.2)) (n7 rfl (b8 rfl ?_) rfl (AftOK.stays rfl ?_ rfl AftOK.nil)) (⟨?_,?_⟩))
      all_goals (first | rfl | exact hc9.mono (by omega) | (dsimp only;rw [List.map_set];rfl) | (rw [List.map_append];rfl) | (show List.length _≤5;(try simp only [List.length_set,List.length_append,List.length_cons,List.length_nil]);omega))
end Go.Proofs.YtcnodpipinlpcaaGreat
