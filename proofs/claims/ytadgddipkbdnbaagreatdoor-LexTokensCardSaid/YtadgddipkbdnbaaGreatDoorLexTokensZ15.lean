/- Parts of the proof that the program's token functions return what the specification's return. -/
import Derived.Test.YtadgddipkbdnbaaGreatDoorLexTokensZ1
import Derived.Test.YtadgddipkbdnbaaGreatDoorLexTokensZ2
import Derived.Test.YtadgddipkbdnbaaGreatDoorLexTokensZ3
import Derived.Test.YtadgddipkbdnbaaGreatDoorLexTokensZ4
import Derived.Test.YtadgddipkbdnbaaGreatDoorLexTokensZ5
import Derived.Test.YtadgddipkbdnbaaGreatDoorLexTokensZ6
import Derived.Test.YtadgddipkbdnbaaGreatDoorLexTokensZ7
import Derived.Test.YtadgddipkbdnbaaGreatDoorLexTokensZ12
import Derived.Test.YtadgddipkbdnbaaGreatDoorLexTokensZ13
import Derived.Test.YtadgddipkbdnbaaGreatDoorLexTokensZ14
import Derived.RangeFuncRecord
set_option linter.unusedVariables false
set_option linter.unusedSimpArgs false
namespace Go.Proofs.Lx
open Go.Proofs.YtadgddipkbdnbaaGreatDoor
def Bd (v:List UInt8):Prop:=v=[]∨∃ c u,v=c :: u∧isBlank c=true
theorem blank_cases {c:UInt8} (h:isBlank c=true):c=32∨c=9∨c=13∨c=10:=by
 simp only [isBlank,Bool.or_eq_true,beq_iff_eq] at h
 rcases h with ((h | h) | h) | h <;> simp [h]
theorem blank_desc {c:UInt8} (h:isBlank c=true):isDescB c=false:=by
 rcases blank_cases h with h | h | h | h <;> subst h <;> decide
theorem blank_word {c:UInt8} (h:isBlank c=true):isWord c=false:=by
 rcases blank_cases h with h | h | h | h <;> subst h <;> decide
theorem tw_agree (p:UInt8→Bool) (hp:∀ c,isBlank c=true→p c=false) {v:List UInt8} (hv:Bd v):∀ (r:List UInt8) (m:Nat),(r.takeWhile p).length≤m→(r.take m ++ v).takeWhile p=r.takeWhile p
 | [],m,_=>by
  rw [List.take_nil,List.nil_append]
  rcases hv with h | ⟨c,u,h,hb⟩
  ·rw [h]
  ·rw [h,List.takeWhile_cons,if_neg (by rw [hp c hb];decide)];rfl
 | c :: r,m,h=>by
  by_cases hc:p c=true
  ·rw [List.takeWhile_cons,if_pos hc,List.length_cons] at h
   obtain ⟨m',rfl⟩:∃ x,m=x+1:=⟨m - 1,by omega⟩
   rw [List.take_succ_cons,List.cons_append,List.takeWhile_cons,if_pos hc,List.takeWhile_cons,if_pos hc,tw_agree p hp hv r m' (by omega)]
  ·rw [List.takeWhile_cons,if_neg hc]
   cases m with
   | zero =>
    rw [List.take_zero,List.nil_append]
    rcases hv with h | ⟨c,u,h,hb⟩
    ·rw [h];rfl
    ·rw [h,List.takeWhile_cons,if_neg (by rw [hp c hb];decide)]
   | succ m=>rw [List.take_succ_cons,List.cons_append,List.takeWhile_cons,if_neg hc]
theorem take_agree {r:List UInt8} {k m:Nat} (v:List UInt8) (hk:k≤m) (hr:k≤r.length):(r.take m ++ v).take k=r.take k:=by
 rw [List.take_append_of_le_length (by rw [List.length_take];omega),List.take_take,Nat.min_eq_left hk]
theorem hexes_agree {t t':List UInt8} {v:UInt8} {k:Nat} (h:hexes t=some (v,k)) (e:t'.take 2=t.take 2):hexes t'=some (v,k):=by
 match t with
 | []=>cases h
 | [x]=>cases h
 | x :: y :: r =>
  match t' with
  | []=>cases e
  | [x']=>cases e
  | x' :: y' :: r' =>
   simp only [List.take_succ_cons,List.take_zero,List.cons.injEq] at e
   obtain ⟨rfl,rfl,-⟩:=e
   exact h
theorem hexes_four {t:List UInt8} {v:UInt8} {k:Nat} (h:hexes t=some (v,k)):k=4:=by
 unfold hexes at h
 split at h
 ·split at h
  ·simp at h;exact h.2.symm
  ·cases h
 ·cases h
theorem char_agree {t t':List UInt8} {v:UInt8} {k:Nat} (h:char t=some (v,k)) (e:t'.take k=t.take k):char t'=some (v,k):=by
 have hk:=char_len _ _ _ h
 cases t with
 | nil=>cases h
 | cons c t =>
  obtain ⟨k',rfl⟩:∃ x,k=x+1:=⟨k - 1,by omega⟩
  cases t' with
  | nil=>rw [List.take_nil,List.take_succ_cons] at e;cases e
  | cons c' t' =>
   simp only [List.take_succ_cons,List.cons.injEq] at e
   obtain ⟨rfl,e⟩:=e
   simp only [char,charC] at h ⊢
   split
   ·rename_i h0;rw [if_pos h0] at h;cases h
   ·rename_i h0
    rw [if_neg h0] at h
    split
    ·rename_i h1;rw [if_pos h1] at h;exact h
    ·rename_i h1
     rw [if_neg h1] at h
     cases t with
     | nil=>cases h
     | cons d u =>
      simp only [escT,esc] at h
      have hk1:1≤k':=by
       rcases Nat.eq_zero_or_pos k' with h0 | h0
       ·exfalso
        rw [h0] at h
        repeat' (first | (split at h) | (simp at h;done))
        all_goals first | (have:=hexes_four h;omega) | (simp at h;done)
       ·exact h0
      obtain ⟨k2,rfl⟩:∃ x,k'=x+1:=⟨k' - 1,by omega⟩
      cases t' with
      | nil=>rw [List.take_nil,List.take_succ_cons] at e;cases e
      | cons d' u' =>
       simp only [List.take_succ_cons,List.cons.injEq] at e
       obtain ⟨rfl,e⟩:=e
       simp only [escT,esc]
       split
       ·rename_i hh;rw [if_pos hh] at h;exact h
       ·rename_i hh
        rw [if_neg hh] at h
        split
        ·rename_i hh;rw [if_pos hh] at h;exact h
        ·rename_i hh
         rw [if_neg hh] at h
         split
         ·rename_i hh;rw [if_pos hh] at h;exact h
         ·rename_i hh
          rw [if_neg hh] at h
          split
          ·rename_i hh;rw [if_pos hh] at h;exact h
          ·rename_i hh
           rw [if_neg hh] at h
           split
           ·rename_i hh;rw [if_pos hh] at h;cases h
           ·rename_i hh
            rw [if_neg hh] at h
            have:=hexes_four h
            have:k2=2:=by omega
            subst this
            exact hexes_agree h e
theorem strF_agree:∀ (n:Nat) {t t' vs:List UInt8} {m:Nat},strF n t=some (vs,m)→t'.take m=t.take m→∀ n',m≤n'→strF n' t'=some (vs,m)
 | 0,_,_,_,_,h,_,_,_=>by cases h
 | _+1,[],_,_,_,h,_,_,_=>by cases h
 | n+1,c :: t,t',vs,m,h,e,n',hn=>by
  have hm:=strF_len _ _ _ _ h
  obtain ⟨m',rfl⟩:∃ x,m=x+1:=⟨m - 1,by omega⟩
  obtain ⟨n'',rfl⟩:∃ x,n'=x+1:=⟨n' - 1,by omega⟩
  rw [strF] at h
  cases t' with
  | nil=>rw [List.take_nil,List.take_succ_cons] at e;cases e
  | cons c' t' =>
   have e0:=e
   simp only [List.take_succ_cons,List.cons.injEq] at e
   obtain ⟨rfl,e⟩:=e
   rw [strF]
   split
   ·rename_i h34;rw [if_pos h34] at h;exact h
   ·rename_i h34
    rw [if_neg h34] at h
    cases hc:char (c' :: t) with
    | none=>rw [hc] at h;cases h
    | some p =>
     obtain ⟨v,k⟩:=p
     rw [hc] at h
     simp only at h
     cases hs:strF n ((c' :: t).drop k) with
     | none=>rw [hs] at h;cases h
     | some q =>
      obtain ⟨ws,j⟩:=q
      rw [hs] at h
      simp only [Option.some.injEq,Prod.mk.injEq] at h
      obtain ⟨h1,h2⟩:=h
      have hk:=char_len _ _ _ hc
      have e1:(c' :: t').take k=(c' :: t).take k:=by
       have:=congrArg (List.take k) e0
       rw [List.take_take,List.take_take,Nat.min_eq_left (by omega)] at this
       exact this
      have e2:((c' :: t').drop k).take j=((c' :: t).drop k).take j:=by
       have:=congrArg (List.drop k) e0
       rw [List.drop_take,List.drop_take,show m'+1 - k=j by omega] at this
       exact this
      rw [char_agree hc e1]
      simp only
      rw [strF_agree n hs e2 n'' (by omega),← h1,← h2]
theorem sign_noblank:∀ y∈signs,∀ c∈y,isBlank c=false:=by decide
theorem sign_back {y:List UInt8} (hy:y∈signs) {r v:List UInt8} {m:Nat} (hv:Bd v) (h:y <+: r.take m ++ v):y <+: r:=by
 rcases List.prefix_or_prefix_of_prefix h (List.prefix_append (r.take m) v) with h1 | ⟨z,hz⟩
 ·exact h1.trans (List.take_prefix m r)
 ·rw [← hz] at h
  have h2:=(List.prefix_append_right_inj _).1 h
  cases z with
  | nil=>rw [List.append_nil] at hz;rw [← hz];exact List.take_prefix m r
  | cons c z =>
   exfalso
   have hc:=sign_noblank y hy c (by rw [← hz];simp)
   obtain ⟨w,hw⟩:=h2
   rcases hv with h3 | ⟨c',u,h3,hb⟩
   ·rw [h3] at hw;cases hw
   ·rw [h3] at hw
    cases hw
    rw [hb] at hc;cases hc
theorem sign_agree {r v:List UInt8} {m:Nat} (hv:Bd v) (h0:signLen r≠0) (hm:signLen r≤m):signLen (r.take m ++ v)=signLen r:=by
 unfold signLen at h0 hm ⊢
 cases h:signs.find? fun x=>x.isPrefixOf r with
 | none=>rw [h] at h0;exact absurd rfl h0
 | some x =>
  rw [h] at hm h0
  simp only [Option.map_some,Option.getD_some] at hm h0 ⊢
  have hx:=List.find?_eq_some_iff_append.1 h
  obtain ⟨hp,l1,l2,hl,hno⟩:=hx
  have hxr:x <+: r:=List.isPrefixOf_iff_prefix.1 hp
  have hxt:x=r.take x.length:=List.prefix_iff_eq_take.1 hxr
  have:signs.find? (fun x=>x.isPrefixOf (r.take m ++ v))=some x:=by
   refine List.find?_eq_some_iff_append.2 ⟨?_,l1,l2,hl,fun a ha=>?_⟩
   ·refine List.isPrefixOf_iff_prefix.2 ?_
    refine List.IsPrefix.trans ?_ (List.prefix_append _ _)
    rw [hxt]
    refine ⟨(r.take m).drop x.length,?_⟩
    have:r.take x.length=(r.take m).take x.length:=by rw [List.take_take,Nat.min_eq_left hm]
    rw [this,List.take_append_drop]
   ·have:=hno a ha
    cases hq:a.isPrefixOf (r.take m ++ v) with
    | false=>rfl
    | true =>
     have h1:=sign_back (by rw [hl];simp [ha]) hv (List.isPrefixOf_iff_prefix.1 hq)
     rw [List.isPrefixOf_iff_prefix.2 h1] at this
     cases this
  rw [this]
  rfl
theorem one_agree {d:Bool} {r v:List UInt8} {kind:Int} {k m:Nat} (h:one d r=.ok (kind,k)) (hk:k≤m) (hv:Bd v):one d (r.take m ++ v)=.ok (kind,k):=by
 have hl:=one_len _ _ _ _ h
 cases r with
 | nil=>cases h
 | cons c t =>
  have ht:∀ j,j≤k→((c :: t).take m ++ v).take j=(c :: t).take j:=fun j hj=>take_agree v (by omega) (by omega)
  have tw:∀ p:UInt8→Bool,(∀ c,isBlank c=true→p c=false)→((c :: t).takeWhile p).length≤m→((c :: t).take m ++ v).takeWhile p=(c :: t).takeWhile p:=fun p hp hm=>tw_agree p hp hv _ _ hm
  have sg:signLen (c :: t)≠0→signLen (c :: t)≤m→signLen ((c :: t).take m ++ v)=signLen (c :: t):=fun h0 hm=>sign_agree hv h0 hm
  obtain ⟨m',rfl⟩:∃ x,m=x+1:=⟨m - 1,by omega⟩
  rw [List.take_succ_cons,List.cons_append] at ht tw sg ⊢
  rw [one] at h ⊢
  split
  ·rename_i h1
   rw [if_pos h1] at h
   simp only at h ⊢
   split at h
   ·cases h
   ·rename_i h2
    obtain ⟨e1,e2⟩:=Prod.mk.inj (Except.ok.inj h)
    rw [tw isDescB (fun _ hb=>blank_desc hb) (by omega),if_neg h2]
    exact h
  ·rename_i h1
   rw [if_neg h1] at h
   split
   ·rename_i h2
    rw [if_pos h2] at h
    simp only at h ⊢
    split at h
    ·cases h
    ·rename_i h3
     obtain ⟨e1,e2⟩:=Prod.mk.inj (Except.ok.inj h)
     rw [tw isWord (fun _ hb=>blank_word hb) (by omega),if_neg h3,ht _ (by omega)]
     exact h
   ·rename_i h2
    rw [if_neg h2] at h
    split
    ·rename_i h3
     rw [if_pos h3] at h
     simp only at h ⊢
     split at h
     ·cases h
     ·rename_i h4
      obtain ⟨e1,e2⟩:=Prod.mk.inj (Except.ok.inj h)
      rw [tw isWord (fun _ hb=>blank_word hb) (by omega),ht _ (by omega),if_neg h4]
      exact h
    ·rename_i h3
     rw [if_neg h3] at h
     have httail:∀ j,j+1≤k→(t.take m' ++ v).take j=t.take j:=fun j hj=>by
      have:=ht (j+1) hj
      simp only [List.take_succ_cons,List.cons.injEq,true_and] at this
      exact this
     split
     ·rename_i h4
      rw [if_pos h4] at h
      cases hc:char t with
      | none=>rw [hc] at h;cases h
      | some p =>
       obtain ⟨x,j⟩:=p
       rw [hc] at h
       simp only at h
       split at h
       ·cases h
       ·rename_i h5
        obtain ⟨e1,e2⟩:=Prod.mk.inj (Except.ok.inj h)
        rw [char_agree hc (httail j (by omega))]
        simp only
        have hj:=char_len _ _ _ hc
        have g1:(t.take m' ++ v).head?=t.head?:=by
         have:=httail 1 (by omega)
         have h':=congrArg List.head? this
         rw [List.head?_take,List.head?_take] at h'
         simpa using h'
        have g2:((t.take m' ++ v).drop j).head?=(t.drop j).head?:=by
         have:=congrArg (List.drop j) (httail (j+1) (by omega))
         have h':=congrArg List.head? this
         rw [List.drop_take,List.drop_take,List.head?_take,List.head?_take] at h'
         simpa using h'
        rw [g1,g2,if_neg h5]
        exact h
     ·rename_i h4
      rw [if_neg h4] at h
      split
      ·rename_i h5
       rw [if_pos h5] at h
       cases hc:strF (t.length+1) t with
       | none=>rw [hc] at h;cases h
       | some p =>
        obtain ⟨x,j⟩:=p
        rw [hc] at h
        simp only at h
        obtain ⟨e1,e2⟩:=Prod.mk.inj (Except.ok.inj h)
        have hj:=strF_len _ _ _ _ hc
        have hlen:j≤(t.take m' ++ v).length:=by rw [List.length_append,List.length_take];omega
        rw [strF_agree _ hc (httail j (by omega)) _ (by omega)]
        exact h
      ·rename_i h5
       rw [if_neg h5] at h
       split at h
       ·cases h
       ·rename_i h6
        obtain ⟨e1,e2⟩:=Prod.mk.inj (Except.ok.inj h)
        rw [sg h6 (by omega),if_neg h6]
        exact h
inductive Skips:List UInt8→List UInt8→Prop
 | nil:Skips [] []
 | stop (c:UInt8) (t:List UInt8) (h:isBlank c=false) (h1:(c :: t).take 2≠[47,47]) (h2:(c :: t).take 2≠[47,42]):Skips (c :: t) (c :: t)
 | blank (c:UInt8) (t x:List UInt8) (h:isBlank c=true) (hs:Skips t x):Skips (c :: t) x
 | line (t x:List UInt8) (hs:Skips (t.dropWhile (· != 10)) x):Skips (47 :: 47 :: t) x
 | block (t u x:List UInt8) (hc:closed t=some u) (hs:Skips u x):Skips (47 :: 42 :: t) x
theorem skip_bl (c:UInt8) (t:List UInt8) (h:isBlank c=true):skip (c :: t)=skip t:=by
 rw [skip_eq,skip_eq,List.dropWhile_cons,if_pos h]
theorem skip_li (t:List UInt8):skip (47 :: 47 :: t)=skip (t.dropWhile (· != 10)):=by
 rw [skip_eq,List.dropWhile_cons,if_neg (by decide)]
 rfl
theorem skip_bo (t:List UInt8):skip (47 :: 42 :: t)=match closed t with | none=>.error (47 :: 42 :: t) | some u=>skip u:=by
 rw [skip_eq,List.dropWhile_cons,if_neg (by decide)]
 rfl
theorem skip_st (c:UInt8) (t:List UInt8) (h:isBlank c=false) (h1:(c :: t).take 2≠[47,47]) (h2:(c :: t).take 2≠[47,42]):skip (c :: t)=.ok (c :: t):=by
 rw [skip_eq,List.dropWhile_cons,if_neg (by rw [h];decide)]
 split
 ·rename_i e;rw [e] at h1;exact absurd rfl h1
 ·rename_i e;rw [e] at h2;exact absurd rfl h2
 ·rfl
theorem skip_of {r x:List UInt8} (h:Skips r x):skip r=.ok x:=by
 induction h with
 | nil=>rfl
 | stop c t h h1 h2=>exact skip_st c t h h1 h2
 | blank c t x h hs ih=>rw [skip_bl c t h,ih]
 | line t x hs ih=>rw [skip_li,ih]
 | block t u x hc hs ih=>rw [skip_bo,hc];exact ih
theorem skips_of:∀ (n:Nat) {r x:List UInt8},r.length=n→skip r=.ok x→Skips r x:=by
 intro n
 induction n using Nat.strongRecOn with
 | _ n ih =>
  intro r x hn h
  cases r with
  | nil=>cases h;exact .nil
  | cons c t =>
   by_cases hb:isBlank c=true
   ·rw [skip_bl c t hb] at h
    exact .blank c t x hb (ih t.length (by rw [← hn];simp) rfl h)
   ·have hb':isBlank c=false:=by simpa using hb
    by_cases h1:(c :: t).take 2=[47,47]
    ·match t with
     | []=>cases h1
     | d :: t =>
      simp only [List.take_succ_cons,List.take_zero,List.cons.injEq,and_true] at h1
      obtain ⟨rfl,rfl⟩:=h1
      rw [skip_li] at h
      have:=dropWhile_len (· != 10) t
      exact .line t x (ih _ (by rw [← hn];simp only [List.length_cons];omega) rfl h)
    ·by_cases h2:(c :: t).take 2=[47,42]
     ·match t with
      | []=>cases h2
      | d :: t =>
       simp only [List.take_succ_cons,List.take_zero,List.cons.injEq,and_true] at h2
       obtain ⟨rfl,rfl⟩:=h2
       rw [skip_bo] at h
       cases hc:closed t with
       | none=>rw [hc] at h;cases h
       | some u =>
        rw [hc] at h
        have:=closed_len t u hc
        exact .block t u x hc (ih _ (by rw [← hn];simp only [List.length_cons];omega) rfl h)
     ·rw [skip_st c t hb' h1 h2] at h
      cases h
      exact .stop c t hb' h1 h2
theorem skips_iff {r x:List UInt8}:Skips r x↔skip r=.ok x:=⟨skip_of,fun h=>skips_of _ rfl h⟩
theorem dw_append {p:UInt8→Bool} {v:List UInt8}:∀ {l:List UInt8},l.dropWhile p≠[]→(l ++ v).dropWhile p=l.dropWhile p ++ v
 | [],h=>absurd rfl h
 | c :: l,h=>by
  rw [List.cons_append,List.dropWhile_cons,List.dropWhile_cons]
  split
  ·rename_i hc;rw [List.dropWhile_cons,if_pos hc] at h;exact dw_append h
  ·rfl
theorem closed_append (v:List UInt8):∀ (t u:List UInt8),closed t=some u→closed (t ++ v)=some (u ++ v)
 | [],u,h=>by cases h
 | [_],u,h=>by cases h
 | a :: b :: r,u,h=>by
  rw [closed] at h
  show closed (a :: b :: (r ++ v))=_
  rw [closed]
  split
  ·rename_i hc;rw [if_pos hc] at h;cases h;rfl
  ·rename_i hc;rw [if_neg hc] at h;exact closed_append v (b :: r) u h
theorem skips_app {r x:List UInt8} (h:Skips r x) (hx:x≠[]) {v:List UInt8} (hv:Bd v):Skips (r ++ v) (x ++ v):=by
 induction h with
 | nil=>exact absurd rfl hx
 | stop c t h h1 h2 =>
  have tk:(c :: t ++ v).take 2=(c :: t).take 2∨∃ b,(c :: t ++ v).take 2=[c,b]∧isBlank b=true:=by
   cases t with
   | cons d t=>exact .inl rfl
   | nil =>
    rcases hv with hv | ⟨b,u,hv,hb⟩
    ·exact .inl (by rw [hv];rfl)
    ·exact .inr ⟨b,by rw [hv];rfl,hb⟩
  refine .stop c (t ++ v) h ?_ ?_
  ·rcases tk with tk | ⟨b,tk,hb⟩
   ·rw [← List.cons_append,tk];exact h1
   ·rw [← List.cons_append,tk]
    intro e
    simp only [List.cons.injEq,and_true] at e
    rw [e.2] at hb;revert hb;decide
  ·rcases tk with tk | ⟨b,tk,hb⟩
   ·rw [← List.cons_append,tk];exact h2
   ·rw [← List.cons_append,tk]
    intro e
    simp only [List.cons.injEq,and_true] at e
    rw [e.2] at hb;revert hb;decide
 | blank c t x h hs ih=>exact .blank c (t ++ v) _ h (ih hx)
 | line t x hs ih =>
  refine .line (t ++ v) _ ?_
  have hne:t.dropWhile (· != 10)≠[]:=by
   intro e
   rw [e] at hs
   cases hs
   exact hx rfl
  rw [dw_append hne]
  exact ih hx
 | block t u x hc hs ih=>exact .block (t ++ v) (u ++ v) _ (closed_append v t u hc) (ih hx)
theorem skips_len {r x:List UInt8} (h:Skips r x):x.length≤r.length:=by
 obtain ⟨i,hi,-⟩:=skip_ok_suffix (skip_of h)
 rw [hi,List.length_drop];omega
abbrev K:=Int × List UInt8
def ktM (t:Tok):K:=(t.kind,t.text)
def opK:List K→Bool
 | []=>false
 | t :: l=>(t.1 == 2 && t.2 == probeW) || (t.1 == 5 && t.2 == [44] && match l with | []=>false | u :: _=>u.1 == 6)
theorem opK_eq (pre:List Tok):opens pre=opK (pre.map ktM):=by
 match pre with
 | []=>rfl
 | [_]=>rfl
 | _ :: _ :: _=>rfl
inductive LexTo:List K→List UInt8→List K→List UInt8→Prop
 | nil (p:List K) (r:List UInt8):LexTo p r [] r
 | cons (p:List K) (r:List UInt8) (c:UInt8) (t:List UInt8) (kind:Int) (k:Nat) (ts:List K) (f:List UInt8) (hs:Skips r (c :: t)) (ho:one (opK p) (c :: t)=.ok (kind,k))
   (hr:LexTo ((kind,(c :: t).take k) :: p) ((c :: t).drop k) ts f):LexTo p r ((kind,(c :: t).take k) :: ts) f
theorem LexTo.len {p ts:List K} {r f:List UInt8} (h:LexTo p r ts f):f.length+ts.length≤r.length:=by
 induction h with
 | nil=>simp
 | cons p r c t kind k ts f hs ho hr ih =>
  have h1:=skips_len hs
  have h2:=one_len _ _ _ _ ho
  rw [List.length_drop] at ih
  simp only [List.length_cons] at ih h1 h2 ⊢
  omega
theorem scan_lex:∀ (n:Nat) {len:Nat} {pre:List Tok} {r:List UInt8} {l:List Tok},r.length < n→scanF len n pre r=.ok l→∃ ts f,l.map ktM=(pre.map ktM).reverse ++ ts∧LexTo (pre.map ktM) r ts f∧Skips f []∧(pre.length≤4000→l.length≤4000)
 | 0,_,_,_,_,hn,_=>absurd hn (by omega)
 | n+1,len,pre,r,l,hn,h=>by
  rw [scanF] at h
  cases hs:skip r with
  | error c=>rw [hs] at h;cases h
  | ok r' =>
   rw [hs] at h
   have hsk:=skips_iff.2 hs
   have hl:=skips_len hsk
   cases r' with
   | nil =>
    cases h
    exact ⟨[],r,by simp,.nil _ _,hsk,fun h=>by rw [List.length_reverse];exact h⟩
   | cons c t =>
    simp only at h
    cases ho:one (opens pre) (c :: t) with
    | error e'=>rw [ho] at h;cases h
    | ok p =>
     obtain ⟨kind,k⟩:=p
     rw [ho] at h
     simp only at h
     have hk:=one_len _ _ _ _ ho
     split at h
     ·cases h
     ·rename_i h4
      obtain ⟨ts,f,e1,e2,e3,e4⟩:=scan_lex n (by rw [List.length_drop];omega) h
      rw [opK_eq] at ho
      refine ⟨(kind,(c :: t).take k) :: ts,f,?_,.cons _ _ c t kind k ts f hsk ho e2,e3,fun h5=>e4 (by simp only [List.length_cons];omega)⟩
      rw [e1]
      simp [ktM]
theorem lex_scan {p:List K} {r:List UInt8} {ts:List K} {f:List UInt8} (h:LexTo p r ts f) (hf:Skips f []):∀ (n len:Nat) (pre:List Tok),pre.map ktM=p→r.length < n→pre.length+ts.length≤4000→∃ l,scanF len n pre r=.ok l∧l.map ktM=p.reverse ++ ts:=by
 induction h with
 | nil p r =>
  intro n len pre hp hn h4
  obtain ⟨n,rfl⟩:∃ x,n=x+1:=⟨n - 1,by omega⟩
  rw [scanF,skip_of hf]
  exact ⟨pre.reverse,rfl,by rw [← hp];simp⟩
 | cons p r c t kind k ts f hs ho hr ih =>
  intro n len pre hp hn h4
  obtain ⟨n,rfl⟩:∃ x,n=x+1:=⟨n - 1,by omega⟩
  have hl:=skips_len hs
  have hk:=one_len _ _ _ _ ho
  rw [← hp,← opK_eq] at ho
  simp only [List.length_cons] at h4
  obtain ⟨l,h1,h2⟩:=ih hf n len (⟨kind,(c :: t).take k,len - (c :: t).length⟩ :: pre) (by rw [List.map_cons,hp];rfl) (by rw [List.length_drop];omega) (by simp only [List.length_cons];omega)
  refine ⟨l,?_,by rw [h2];simp⟩
  rw [scanF,skip_of hs]
  simp only [ho]
  rw [if_neg (by omega)]
  exact h1
theorem scan_to {t:List UInt8} (h:(scan t).2.2=0):t.length≤20000∧(scan t).1.length≤4000∧∃ f,LexTo [] t ((scan t).1.map ktM) f∧Skips f []:=by
 obtain ⟨h1,h2,-⟩:=scan_ok h
 obtain ⟨ts,f,e1,e2,e3,e4⟩:=scan_lex _ (Nat.lt_succ_self _) h2
 simp only [List.map_nil,List.reverse_nil,List.nil_append] at e1
 exact ⟨h1,e4 (by simp),f,by rw [e1];exact e2,e3⟩
theorem to_scan {t:List UInt8} {ts:List K} {f:List UInt8} (h1:t.length≤20000) (h2:ts.length≤4000) (h:LexTo [] t ts f) (hf:Skips f []):(scan t).2.2=0∧(scan t).1.map ktM=ts:=by
 obtain ⟨l,e1,e2⟩:=lex_scan h hf (t.length+1) t.length [] rfl (by omega) (by simpa using h2)
 rw [scan_of_ok h1 e1]
 exact ⟨rfl,by rw [e2];rfl⟩
theorem LexTo.ext {p:List K} {r:List UInt8} {ts:List K} {f:List UInt8} (h:LexTo p r ts f) {v:List UInt8} (hv:Bd v):LexTo p (r ++ v) ts (f ++ v):=by
 induction h with
 | nil p r=>exact .nil _ _
 | cons p r c t kind k ts f hs ho hr ih =>
  have hk:=one_len _ _ _ _ ho
  have h1:=skips_app hs (by simp) hv
  have h2:=one_agree (m:=(c :: t).length) ho hk.2 hv
  rw [List.take_length] at h2
  have e1:(c :: (t ++ v)).take k=(c :: t).take k:=by rw [← List.cons_append,List.take_append_of_le_length hk.2]
  have e2:(c :: (t ++ v)).drop k=(c :: t).drop k ++ v:=by rw [← List.cons_append,List.drop_append_of_le_length hk.2]
  have:=LexTo.cons p (r ++ v) c (t ++ v) kind k ts (f ++ v) h1 h2 (by rw [e1,e2];exact ih)
  rw [e1] at this
  exact this
theorem LexTo.trans {p:List K} {r:List UInt8} {ts:List K} {f:List UInt8} (h:LexTo p r ts f):∀ {us:List K} {g:List UInt8},LexTo (ts.reverse ++ p) f us g→LexTo p r (ts ++ us) g:=by
 induction h with
 | nil p r=>intro us g h2;exact h2
 | cons p r c t kind k ts f hs ho hr ih =>
  intro us g h2
  exact .cons _ r c t kind k _ _ hs ho (ih (by simpa using h2))
theorem LexTo.blank {p:List K} {c:UInt8} {r:List UInt8} {ts:List K} {f:List UInt8} (hb:isBlank c=true) (h:LexTo p r ts f):∃ g,LexTo p (c :: r) ts g∧(Skips f []→Skips g [])∧(ts≠[]→g=f):=by
 cases h with
 | nil=>exact ⟨c :: r,.nil _ _,fun h=>.blank c r [] hb h,fun h=>absurd rfl h⟩
 | cons _ _ d t kind k ts f hs ho hr=>exact ⟨f,.cons p (c :: r) d t kind k ts f (.blank c r _ hb hs) ho hr,id,fun _=>rfl⟩
end Go.Proofs.Lx
namespace Go.Proofs.YtadgddipkbdnbaaGreatDoor.Q
open Go.RowKit Go.Proofs.YtadgddipkbdnbaaGreatDoor YtadgddipkbdnbaaGreatDoorW.PrintWords YtadgddipkbdnbaaGreatDoorW.PrintLast
theorem reps_flat {α:Type} {R:α→List Value→Prop} {size:Nat} (f:α→List Value) (hl:∀ p,(f p).length=size) (hR:∀ p,R p (f p)) (ps:List α):Reps R size ps (ps.flatMap f):=by
 have key:∀ n,n≤ps.length→Reps R size (ps.take n) ((ps.take n).flatMap f):=by
  intro n
  induction n with
  | zero=>intro _;exact Reps.none _ _
  | succ n ih =>
   intro hn
   rw [List.take_add_one,List.getElem?_eq_getElem (by omega)]
   simp only [Option.toList_some,List.flatMap_append,List.flatMap_cons,List.flatMap_nil,List.append_nil]
   exact (ih (by omega)).snoc (hR _) (hl _)
 simpa using key ps.length (Nat.le_refl _)
theorem strs_R (w:World) (L:List (List UInt8)) (hm:L.length≤9223372036854775807):Kd.R Kd.string 9 (w.alloc (strObj L)) w.heap.size (fun _=>True) (.slice (some ⟨w.heap.size,0,none⟩) L.length L.length) (L.map strS):=by
 refine ⟨fun _ _=>trivial,?_⟩
 have h:=OwnRow.lit (R:=fun (x:ByteArray) cs=>cs=[Value.string x]) (e:=9) (size:=1) w w.heap.size
  (reps_flat (R:=fun (x:ByteArray) cs=>cs=[Value.string x]) (size:=1) (fun x:ByteArray=>[Value.string x]) (fun _=>rfl) (fun _=>rfl) (L.map strS)) (Nat.le_refl _) (by simpa using hm)
 rw [List.length_map] at h
 have e:(List.flatMap (fun x:ByteArray=>[Value.string x]) (List.map strS L)).toArray=(L.map fun l=>Value.string ⟨l.toArray⟩).toArray:=by
  congr 1
  clear h hm
  induction L with
  | nil=>rfl
  | cons a l ih=>simpa [strS] using ih
 rw [e] at h
 exact h
theorem lex_Words.calls (r:List ByteArray) (w:World) (h:lex_Words.f=some r) (hgw:GW w) :
  Calls Tryz.prog 43 #[] w fun e w'=>∃ v0_:Value,e=.returned (v0_)∧Kd.R Kd.string 9 w' w.heap.size (fun _=>True) v0_ r∧Below w.heap.size w w':=by
 cases h
 refine (words_any w hgw).mono ?_
 rintro e w' ⟨rfl,rfl⟩
 exact ⟨_,rfl,strs_R w Lx.words (by decide),(Below.refl _ _).alloc (Nat.le_refl _) _⟩
theorem lex_Signs.calls (r:List ByteArray) (w:World) (h:lex_Signs.f=some r) (hgw:GW w) :
  Calls Tryz.prog 45 #[] w fun e w'=>∃ v0_:Value,e=.returned (v0_)∧Kd.R Kd.string 9 w' w.heap.size (fun _=>True) v0_ r∧Below w.heap.size w w':=by
 cases h
 refine (signs_any w hgw).mono ?_
 rintro e w' ⟨rfl,rfl⟩
 exact ⟨_,rfl,strs_R w Lx.signs (by decide),(Below.refl _ _).alloc (Nat.le_refl _) _⟩
theorem lex_run.calls (a0:ByteArray) (a1 a2:Int) (r:Int) (w:World) (h:lex_run.f a0 a1 a2=some r) (hgw:GW w) :
  Calls Tryz.prog 69 #[.string a0,.int .i64 a1,.int .i64 a2] w fun e w'=>e=.returned (.int .i64 r)∧Below w.heap.size w w':=by
 unfold lex_run.f at h
 split at h
 ·rename_i hc
  obtain ⟨h1,h2,h3⟩:=hc
  cases h
  obtain ⟨n,rfl⟩:=Int.eq_ofNat_of_zero_le h2
  exact run_any a0 n a2 w hgw (by unfold maxLen;omega) (by omega)
 ·cases h
theorem strings_Join.calls (A0:Option Addr) (c0:Nat) (l0:List ByteArray) (a1:ByteArray) (r:ByteArray) (w:World) (hr0:Kd.C Kd.string w A0 l0.length l0) (hc0:l0.length≤c0) (h:strings_Join.f l0 a1=some r) :
  Calls Tryz.prog 57 #[.slice A0 l0.length c0,.string a1] w fun e w'=>e=.returned (.string r)∧Below w.heap.size w w':=by
 unfold strings_Join.f at h
 split at h
 ·rename_i hc
  obtain ⟨h1,h2⟩:=hc
  cases h
  cases l0 with
  | nil =>
   refine (Tryz.strings_Join_none A0 c0 a1 w).mono ?_
   rintro e w' ⟨rfl,rfl⟩
   exact ⟨rfl,Below.refl _ _⟩
  | cons x l =>
   obtain ⟨⟨bk,o,sp⟩,rfl,hcells⟩:=hr0.2.2 (by simp)
   have hcell:∀ (j:Nat) y,(x :: l)[j]?=some y→w.cell? ((⟨bk,o,sp⟩:Addr).add (j * 1+0))=some (.string y):=fun j y hj=>by
    obtain ⟨c,_,hK,hc⟩:=hcells j y hj
    obtain rfl:c=[Value.string y]:=hK
    exact hc 0 _ rfl
   have h0:=hcell 0 x rfl
   have hsp:sp=none:=by
    cases sp with
    | none=>rfl
    | some q =>
     have:w.cell? ⟨bk,o,some q⟩=none:=by
      unfold World.cell?
      split <;> simp
     rw [show ((⟨bk,o,some q⟩:Addr).add (0 * 1+0))=⟨bk,o,some q⟩ from rfl,this] at h0
     cases h0
   subst hsp
   refine Tryz.strings_Join bk o c0 (x :: l) a1 w (fun j y hj=>?_) (World.block_lt_of_cell? _ _ h0) h1 hc0 h2
   have:=hcell j y hj
   rw [Nat.mul_one,Nat.add_zero] at this
   rw [← this]
   unfold Addr.add
   split
   ·rename_i e;rw [e];rfl
   ·rfl
 ·cases h
theorem lex_Same.calls (A0:Option Addr) (c0:Nat) (l0:List (S38)) (A1:Option Addr) (c1:Nat) (l1:List (S38)) (r:Bool) (w:World) (hr0:Kd.C k38 w A0 l0.length l0) (hc0:l0.length≤c0) (hr1:Kd.C k38 w A1 l1.length l1) (hc1:l1.length≤c1) (h:lex_Same.f l0 l1=some r) :
  Calls Tryz.prog 28 #[.slice A0 l0.length c0,.slice A1 l1.length c1] w fun e w'=>e=.returned (.bool r)∧Below w.heap.size w w':=by
 cases h
 exact same_any A0 c0 l0 A1 c1 l1 w hr0 hr1
theorem colB_snoc (l:List UInt8) (c:UInt8):colB (l ++ [c])=if c=10 then 1 else colB l+1:=by
 unfold colB
 rw [List.reverse_append]
 simp only [List.reverse_cons,List.reverse_nil,List.nil_append,List.cons_append,List.takeWhile_cons]
 by_cases h:c=10
 ·simp [h]
 ·simp [h]
theorem lastIdx_col (s:ByteArray):∀ k:Nat,k≤s.size→(k:Int) - Lib.lastIdx s 10 k=(colB (s.data.toList.take k):Nat)
 | 0,_=>by simp [Lib.lastIdx,colB]
 | k+1,hk=>by
  have hk':k < s.data.toList.length:=by rw [← Lib.size_eq];omega
  have e:s.data.toList.take (k+1)=s.data.toList.take k ++ [s.data.toList[k]]:=by rw [List.take_add_one,List.getElem?_eq_getElem hk'];rfl
  have e2:s.data[k]! = s.data.toList[k]:=by simp at hk' ⊢;rw [getElem!_pos s.data k hk']
  have ih:=lastIdx_col s k (by omega)
  rw [e,colB_snoc,Lib.lastIdx,e2]
  by_cases h:s.data.toList[k]=10
  ·rw [if_pos h,if_pos (by rw [h];rfl)];omega
  ·rw [if_neg h,if_neg (fun h'=>h (UInt8.toNat_inj.1 (by have:(10:UInt8).toNat=10:=rfl;omega)))]
   omega
theorem ret_iii {a a' b b' c:Int} (h1:a=a') (h2:b=b'):Ending.returned (.tuple #[.int .i64 a,.int .i64 b,.int .i64 c])=.returned (.tuple #[.int .i64 a',.int .i64 b',.int .i64 c]):=by rw [h1,h2]
set_option maxRecDepth 100000 in
set_option maxHeartbeats 1000000 in
theorem lex_Place.calls (a0:ByteArray) (a1:Int) (r1 r2 r3:Int) (w:World) (h:lex_Place.f a0 a1=some (r1,r2,r3)) (hgw:GW w) :
  Calls Tryz.prog 26 #[.string a0,.int .i64 a1] w fun e w'=>e=.returned (.tuple #[.int .i64 r1,.int .i64 r2,.int .i64 r3])∧Below w.heap.size w w':=by
 unfold lex_Place.f at h
 split at h
 ·rename_i hs
  split at h
  ·rename_i hb
   cases h
   have HS:=Lib.hid hs
   clear hs
   by_cases h1:a1 < 0
   ·clear hb
    go_enter Tryz.func26,Tryz.ntmps26
    go_wp2
    go_ret3
    exact ⟨rfl,Below.refl _ _⟩
   ·have h2:(a0.size:Int) < a1:=by omega
    clear hb
    go_enter Tryz.func26,Tryz.ntmps26
    go_wp2
    go_ret3
    exact ⟨rfl,Below.refl _ _⟩
  ·rename_i hb
   cases h
   have h0:0≤a1:=by omega
   obtain ⟨n,rfl⟩:=Int.eq_ofNat_of_zero_le h0
   have hn:(n:Int)≤a0.size:=by omega
   have hn':n≤a0.size:=by omega
   have hcount:=Tryz.strings_Count_one (a0.extract 0 n) 10
   have hlast:=Tryz.strings_LastIndexByte (a0.extract 0 n) 10 (by rw [ByteArray.size_extract];omega)
   obtain ⟨q,hq⟩:∃ q,q=a0.extract 0 n:=⟨_,rfl⟩
   have hql:q.data.toList=a0.data.toList.take n:=by rw [hq];simp
   have hqs:q.size=n:=by rw [hq,ByteArray.size_extract];omega
   have hcb:Lib.countByte q.data.toList 10=((q.data.toList.count 10:Nat):Int):=rfl
   have hcol:=lastIdx_col q q.size (Nat.le_refl _)
   rw [← hq] at hcount hlast
   rw [show Lib.lastIndexByte q 10=Lib.lastIdx q 10 q.size from rfl] at hlast
   rw [hcb] at hcount
   obtain ⟨li,hli⟩:∃ li,li=Lib.lastIdx q 10 q.size:=⟨_,rfl⟩
   obtain ⟨cn,hcn⟩:∃ cn,cn=q.data.toList.count 10:=⟨_,rfl⟩
   rw [← hli] at hlast hcol
   rw [← hcn] at hcount
   have hcl:cn≤n:=by rw [hcn,← hqs,Lib.size_eq];exact List.count_le_length
   have hli0:-1≤li∧li < n:=by
    rcases Lib.lastIdx_spec q 10 q.size with ⟨e,_⟩ | ⟨i,hi,e,_⟩ <;> omega
   have HF:Hid ((((a0.data.toList.take (n:Int).toNat).count 10:Nat):Int)+1=(cn:Int)+1∧((colB (a0.data.toList.take (n:Int).toNat):Nat):Int)=(n:Int) - li):=Lib.hid (by
    rw [Int.toNat_natCast,← hql,hcn]
    refine ⟨rfl,?_⟩
    rw [hqs] at hcol
    rw [hcol]
    rw [List.take_of_length_le (by rw [← Lib.size_eq];omega)])
   have hcount':∀ (s:ByteArray) (w:World),s=a0.extract 0 n→Calls Tryz.prog 60 #[.string s,.string ⟨#[10]⟩] w fun e w'=>e=.returned (.int .i64 cn)∧w'=w:=fun s w e=>by
    rw [e,← hq];exact hcount w
   have hlast':∀ (s:ByteArray) (w:World),s=a0.extract 0 n→Calls Tryz.prog 61 #[.string s,.int .u8 10] w fun e w'=>e=.returned (.int .i64 li)∧w'=w:=fun s w e=>by
    rw [e,← hq];exact hlast w
   have hsz0:(a0.extract 0 n).size=n:=by rw [ByteArray.size_extract];omega
   clear hcol hli hcn hcb hql hqs hb hq hcount hlast
   go_enter Tryz.func26,Tryz.ntmps26
   go_wp2_with (first | (go_at_call 60;refine (hcount' _ _ rfl).mono ?_;rintro e w1 ⟨rfl,rfl⟩) | (go_at_call 61;refine (hlast' _ _ rfl).mono ?_;rintro e w1 ⟨rfl,rfl⟩))
   go_ret3
   exact ⟨ret_iii HF.out.1.symm HF.out.2.symm,Below.refl _ _⟩
 ·cases h
end Go.Proofs.YtadgddipkbdnbaaGreatDoor.Q
namespace Go.Proofs.YtadgddipkbdnbaaGreatDoor
open Go.RowKit
set_option maxHeartbeats 1000000 in
theorem begins_desc (B b a:Nat) (s:ByteArray) (pre:List Lx.Tok) (w:World) (h:Sw w B b a s pre) (ha:a < s.size) :
  Calls Tryz.prog 117 #[.pointer (some ⟨b,0,none⟩)] w fun x w'=>x=.returned (.bool (Lx.opens pre && Lx.isDescB s[a]))∧Below w.heap.size w w':=by
 have h0:=h.scn.text
 have h1:=h.scn.at_
 have hg:=h.gw
 have hlt:b < w.heap.size:=h.scn.lt
 obtain ⟨v,hv,hl⟩:=h.last
 cases ho:Lx.opens pre with
 | true =>
  have HO:=Lib.hid ho
  go_enter Tryz.func117,Tryz.ntmps117
  go_wp2
  go_region_held3 (fun w'=>w'.cell? ⟨b,0,none⟩=some (.string s)∧w'.cell? ⟨b,1,none⟩=some (.int .i64 (a:Int))∧GW w'∧Below w.heap.size w w') (first | exact ⟨h0,h1,hg.drew,(Below.refl _ _).drew⟩ | exact ⟨k0,k1,kg,kb⟩ | exact ⟨(hb1.cell (World.block_lt_of_cell? _ _ k0)).trans k0,(hb1.cell (World.block_lt_of_cell? _ _ k1)).trans k1,kg.below hb1 (Nat.le_refl _),kb.trans (hb1.mono kb.size)⟩)
  (first | (go_at_call 118;obtain ⟨k0,k1,kg,kb⟩:=(by assumption:_∧_∧GW _∧Below _ _ _);refine (describing_any b B v pre _ ((kb.cell (p:=⟨b,2,none⟩) hlt).trans hv) (hl.below kb (Nat.le_refl _))).mono ?_;rw [HO.out];rintro e w1 ⟨rfl,rfl⟩) | (go_at_call 82;obtain ⟨k0,k1,kg,kb⟩:=(by assumption:_∧_∧GW _∧Below _ _ _);refine (is_any _ 16 _ kg).mono ?_;rintro e w1 ⟨rfl,hb1⟩))
  obtain ⟨k0,k1,kg,kb⟩:=(by assumption:_∧_∧GW _∧Below _ _ _)
  go_wp2
  go_ret
  exact ⟨ret_bool (by rw [← pB_desc];rfl),kb⟩
 | false =>
  have HQ:∀ n,Calls Tryz.prog 118 #[.pointer (some ⟨b,0,none⟩)] (w.drewN n) fun e w''=>e=.returned (.bool false)∧∃ m,w''=w.drewN m:=fun n =>
   Calls.quiet_of_same ((describing_any b B v pre (w.drewN n) hv (hl.below (below_drewN (Below.refl _ _) n) (Nat.le_refl _))).mono fun e w' hh=>⟨hh.1.trans (ret_bool ho),hh.2.symm⟩)
  go_enter Tryz.func117,Tryz.ntmps117
  go_wp2
  go_quiet ((go_at_call 118;exact HQ _))
  go_wp2
  go_ret
  exact ⟨rfl,below_drewN (Below.refl _ _) _⟩
def recF (H:Nat):Nat→Value
 | 0=>.func (.func 117) #[] #[]
 | 1=>.func (.func 114) #[] #[.pointer (some ⟨H,0,none⟩)]
 | 2=>.func (.func 114) #[] #[.pointer (some ⟨H+1,0,none⟩)]
 | 3=>.func (.func 116) #[] #[.pointer (some ⟨H+1+1,0,none⟩)]
 | 4=>.func (.func 116) #[] #[.pointer (some ⟨H+1+1+1,0,none⟩)]
 | _=>.func (.func 124) #[] #[]
def recFn:Nat→Nat
 | 0=>117
 | 1=>114
 | 2=>114
 | 3=>116
 | 4=>116
 | _=>124
def recA (H b:Nat):Nat→Array Value
 | 0=>#[.pointer (some ⟨b,0,none⟩)]
 | 1=>#[.pointer (some ⟨b,0,none⟩),.pointer (some ⟨H,0,none⟩)]
 | 2=>#[.pointer (some ⟨b,0,none⟩),.pointer (some ⟨H+1,0,none⟩)]
 | 3=>#[.pointer (some ⟨b,0,none⟩),.pointer (some ⟨H+1+1,0,none⟩)]
 | 4=>#[.pointer (some ⟨b,0,none⟩),.pointer (some ⟨H+1+1+1,0,none⟩)]
 | _=>#[.pointer (some ⟨b,0,none⟩)]
theorem begins_k (B b a H:Nat) (s:ByteArray) (pre:List Lx.Tok) (w:World) (h:Sw w B b a s pre) (hr:Recs w H) (ha:a < s.size) (hs:s.size≤140737488355328) (k:Nat) (hk:k < 6) :
  Calls Tryz.prog (recFn k) (recA H b k) w fun x w'=>x=.returned (.bool (begC pre s[a] (tail s a) k))∧Below w.heap.size w w':=by
 obtain ⟨sv,hs1,hs2⟩:=h.signs
 match k,hk with
 | 0,_=>exact begins_desc B b a s pre w h ha
 | 1,_=>exact (begins_class b a H 2 s w h.gw h.scn hr.c0 ha).mono fun e w' hh=>⟨by rw [hh.1,pB_letter];rfl,hh.2⟩
 | 2,_=>exact (begins_class b a (H+1) 4 s w h.gw h.scn hr.c1 ha).mono fun e w' hh=>⟨by rw [hh.1,pB_digit];rfl,hh.2⟩
 | 3,_=>exact begins_one b a (H+1+1) 39 s w h.scn hr.c2 ha
 | 4,_=>exact begins_one b a (H+1+1+1) 34 s w h.scn hr.c3 ha
 | 5,_=>exact begins_sign b a s w h.scn (Nat.le_of_lt ha) (by omega) sv hs1 hs2
set_option maxHeartbeats 1000000 in
theorem asked (B b a H p:Nat) (s:ByteArray) (pre:List Lx.Tok) (w:World) (h:Sw w B b a s pre) (hr:Recs w H) (hp:w.cell? ⟨p,0,none⟩=some (.pointer (some ⟨b,0,none⟩))) (ha:a < s.size) (hs:s.size≤140737488355328) (k:Nat) (hk:k < 6) (u:Value) :
  Calls Tryz.prog 101 #[.agg #[recF H k,u],.pointer (some ⟨p,0,none⟩)] w fun x w'=>x=.returned (.bool (begC pre s[a] (tail s a) k))∧Below w.heap.size w w':=by
 have hplt:=World.block_lt_of_cell? w _ hp
 have hb1:=begins_k B b a H s pre (w.alloc (.cells #[recF H k,u] 130)) (h.below ((Below.refl _ _).alloc (Nat.le_refl _) _) (Nat.le_refl _)) (hr.below ((Below.refl _ _).alloc (Nat.le_refl _) _) (Nat.le_refl _)) ha hs k hk
 obtain ⟨ans,hans⟩:∃ ans,ans=begC pre s[a] (tail s a) k:=⟨_,rfl⟩
 rw [← hans] at hb1 ⊢
 have HA:=Lib.hid hans
 clear hans
 match k,hk with
 | 0,_ =>
  dsimp only [recF,recFn,recA] at hb1 ⊢
  go_enter Tryz.func101,Tryz.ntmps101
  go_wp2_with (go_at_call 117;refine hb1.mono ?_;rintro e w1 ⟨rfl,hb2⟩)
  go_ret
  exact ⟨rfl,((Below.refl _ _).alloc (Nat.le_refl _) _).trans (hb2.mono (by simp))⟩
 | 1,_ =>
  dsimp only [recF,recFn,recA] at hb1 ⊢
  go_enter Tryz.func101,Tryz.ntmps101
  go_wp2_with (go_at_call 114;refine hb1.mono ?_;rintro e w1 ⟨rfl,hb2⟩)
  go_ret
  exact ⟨rfl,((Below.refl _ _).alloc (Nat.le_refl _) _).trans (hb2.mono (by simp))⟩
 | 2,_ =>
  dsimp only [recF,recFn,recA] at hb1 ⊢
  go_enter Tryz.func101,Tryz.ntmps101
  go_wp2_with (go_at_call 114;refine hb1.mono ?_;rintro e w1 ⟨rfl,hb2⟩)
  go_ret
  exact ⟨rfl,((Below.refl _ _).alloc (Nat.le_refl _) _).trans (hb2.mono (by simp))⟩
 | 3,_ =>
  dsimp only [recF,recFn,recA] at hb1 ⊢
  go_enter Tryz.func101,Tryz.ntmps101
  go_wp2_with (go_at_call 116;refine hb1.mono ?_;rintro e w1 ⟨rfl,hb2⟩)
  go_ret
  exact ⟨rfl,((Below.refl _ _).alloc (Nat.le_refl _) _).trans (hb2.mono (by simp))⟩
 | 4,_ =>
  dsimp only [recF,recFn,recA] at hb1 ⊢
  go_enter Tryz.func101,Tryz.ntmps101
  go_wp2_with (go_at_call 116;refine hb1.mono ?_;rintro e w1 ⟨rfl,hb2⟩)
  go_ret
  exact ⟨rfl,((Below.refl _ _).alloc (Nat.le_refl _) _).trans (hb2.mono (by simp))⟩
 | 5,_ =>
  dsimp only [recF,recFn,recA] at hb1 ⊢
  go_enter Tryz.func101,Tryz.ntmps101
  go_wp2_with (go_at_call 124;refine hb1.mono ?_;rintro e w1 ⟨rfl,hb2⟩)
  go_ret
  exact ⟨rfl,((Below.refl _ _).alloc (Nat.le_refl _) _).trans (hb2.mono (by simp))⟩
def WhichPost (pre:List Lx.Tok) (s:ByteArray) (a:Nat) (c:UInt8) (x:Ending):Prop :=
 (x=.returned (.int .i64 (-1))∧∀ j,j < 6→begC pre c (tail s a) j=false) ∨
 ∃ k:Nat,k < 6∧x=.returned (.int .i64 (k:Int))∧begC pre c (tail s a) k=true∧∀ j,j < k→begC pre c (tail s a) j=false
def recE:Nat→Value
 | 0=>.func (.func 119) #[] #[]
 | 1=>.func (.func 120) #[] #[]
 | 2=>.func (.func 121) #[] #[]
 | 3=>.func (.func 122) #[] #[]
 | 4=>.func (.func 123) #[] #[]
 | _=>.func (.func 126) #[] #[]
theorem Recs.begin_at {w:World} {H:Nat} (h:Recs w H) (k:Nat) (hk:k < 6):w.cell? ⟨H+1+1+1+1,k * 2,none⟩=some (recF H k):=by
 rw [cell_of_row w _ (k * 2) (recC H) _ _ h.row]
 match k,hk with
 | 0,_=>rfl
 | 1,_=>rfl
 | 2,_=>rfl
 | 3,_=>rfl
 | 4,_=>rfl
 | 5,_=>rfl
theorem Recs.end_at {w:World} {H:Nat} (h:Recs w H) (k:Nat) (hk:k < 6):w.cell? ⟨H+1+1+1+1,k * 2+1,none⟩=some (recE k):=by
 rw [cell_of_row w _ (k * 2+1) (recC H) _ _ h.row]
 match k,hk with
 | 0,_=>rfl
 | 1,_=>rfl
 | 2,_=>rfl
 | 3,_=>rfl
 | 4,_=>rfl
 | 5,_=>rfl
set_option maxHeartbeats 2000000 in
theorem which_any (B b a H p:Nat) (s:ByteArray) (pre:List Lx.Tok) (w:World) (h:Sw w B b a s pre) (hr:Recs w H) (hp:w.cell? ⟨p,0,none⟩=some (.pointer (some ⟨b,0,none⟩))) (ha:a < s.size) (hs:s.size≤140737488355328) :
  Calls Tryz.prog 100 #[.slice (some ⟨H+1+1+1+1,0,none⟩) 6 6,.func (.func 101) #[] #[.pointer (some ⟨p,0,none⟩)]] w fun x w'=>WhichPost pre s a s[a] x∧Below w.heap.size w w':=by
 have hplt:=World.block_lt_of_cell? w _ hp
 obtain ⟨c,hc⟩:∃ c,c=s[a]:=⟨_,rfl⟩
 rw [← hc]
 have HC:=Lib.hid hc
 clear hc
 go_enter Tryz.func100,Tryz.ntmps100
 go_wp2
 go_loopw [8] (fun i wr=>∃ k:Nat,k≤6∧i=.int .i64 k∧Hid (∀ j,j < k→begC pre c (tail s a) j=false)∧Below w.heap.size w wr) (fun i _=>6 - (intOf i).toNat)
 case atStart=>exact ⟨0,by omega,rfl,Lib.hid (fun j hj=>by omega),Below.refl _ _⟩
 case round =>
  obtain ⟨k,hk,rfl,HN,hb⟩:=hrel
  by_cases hlk:k < 6
  ·have f0:=(hr.below hb (Nat.le_refl _)).begin_at k hlk
   have f1:=(hr.below hb (Nat.le_refl _)).end_at k hlk
   have hask:=fun u=>asked B b a H p s pre wr (h.below hb (Nat.le_refl _)) (hr.below hb (Nat.le_refl _)) ((hb.cell (p:=⟨p,0,none⟩) hplt).trans hp) ha hs k hlk u
   rw [← HC.out] at hask
   generalize recF H k=uf at f0 hask
   cases hbk:begC pre c (tail s a) k with
   | true =>
    rw [hbk] at hask
    have HB:=Lib.hid hbk
    clear hbk
    go_wp2_with (go_at_call 101;refine (hask _).mono ?_;rintro e w1 ⟨rfl,hb1⟩)
    go_ret
    exact ⟨.inr ⟨k,hlk,rfl,HB.out,HN.out⟩,hb.trans (hb1.mono hb.size)⟩
   | false =>
    rw [hbk] at hask
    have HB:=Lib.hid hbk
    clear hbk
    go_wp2_with (go_at_call 101;refine (hask _).mono ?_;rintro e w1 ⟨rfl,hb1⟩)
    go_roundw
    case rel=>exact ⟨k+1,by omega,by go_num,Lib.hid (fun j hj=>by
     rcases Nat.lt_or_ge j k with h1 | h1
     ·exact HN.out j h1
     ·obtain rfl:j=k:=by omega
      exact HB.out),hb.trans (hb1.mono hb.size)⟩
    case measure=>simp [intOf];omega
  ·obtain rfl:k=6:=by omega
   go_wp2
   go_ret
   exact ⟨.inl ⟨rfl,HN.out⟩,hb⟩
structure Fr (wB:World) (o b L:Nat) (w:World):Prop where
 os:w.os=wB.os
 tape:w.tape=wB.tape
 output:w.output=wB.output
 size:wB.heap.size≤w.heap.size
 block:∀ k,k < wB.heap.size→k≠o→k≠b→k≠L→w.heap[k]?=wB.heap[k]?
theorem Fr.below {wB w w':World} {o b L B:Nat} (h:Fr wB o b L w) (hb:Below B w w') (hB:w.heap.size≤B):Fr wB o b L w' :=
 ⟨hb.os.trans h.os,hb.tape.trans h.tape,hb.output.trans h.output,Nat.le_trans h.size hb.size,fun k hk h1 h2 h3=>(hb.block k (by have:=h.size;omega)).trans (h.block k hk h1 h2 h3)⟩
theorem Fr.cell {wB w:World} {o b L:Nat} (h:Fr wB o b L w) {p:Addr} {v:Value} (hp:wB.cell? p=some v) (h1:p.block≠o) (h2:p.block≠b) (h3:p.block≠L):w.cell? p=some v :=
 (World.cell?_of_block (h.block p.block (World.block_lt_of_cell? _ _ hp) h1 h2 h3)).trans hp
theorem Fr.below_of {wB w:World} {o b L B:Nat} (h:Fr wB o b L w) (ho:B≤o) (hb:B≤b) (hL:B≤L) (hB:B≤wB.heap.size):Below B wB w :=
 ⟨h.os,h.tape,h.output,h.size,fun k hk=>h.block k (by omega) (by omega) (by omega) (by omega)⟩
structure Stat (wB:World) (o b L p1 p2 H:Nat) (wv sv:Value):Prop where
 gw:GW wB
 o6:6≤o
 b6:6≤b
 l6:6≤L
 ob:o≠b
 oL:o≠L
 bL:b≠L
 oB:o < wB.heap.size
 bB:b < wB.heap.size
 lB:L < wB.heap.size
 words:StrsAt wB wv Lx.words
 wne:∀ g,wv.ownBlock=some g→g≠o∧g≠b∧g≠L
 signs:StrsAt wB sv Lx.signs
 sne:∀ g,sv.ownBlock=some g→g≠o∧g≠b∧g≠L
 c1:wB.cell? ⟨p1,0,none⟩=some (.pointer (some ⟨b,0,none⟩))
 n1:p1≠o∧p1≠b∧p1≠L
 c2:wB.cell? ⟨p2,0,none⟩=some (.slice (some ⟨H+1+1+1+1,0,none⟩) 6 6)
 n2:p2≠o∧p2≠b∧p2≠L
 recs:Recs wB H
 no:o < H∨H+4 < o
 nb:b < H∨H+4 < b
 nL:L < H∨H+4 < L
structure Inv (wB:World) (o b L:Nat) (wv sv:Value) (rec:Loop) (s:ByteArray) (e:Nat) (preL preO:List Lx.Tok) (w:World):Prop where
 fr:Fr wB o b L w
 scn:Scn w b s e
 words:w.cell? ⟨b,3,none⟩=some wv
 signs:w.cell? ⟨b,4,none⟩=some sv
 lfree:w.frozen? ⟨b,2,none⟩=false
 ofree:w.frozen? ⟨o,0,none⟩=false
 io:∃ vo vl,w.cell? ⟨o,0,none⟩=some vo∧w.cell? ⟨b,2,none⟩=some vl∧w.ownsRow wB.heap.size 38 3 vo preO.length (preO.reverse.flatMap tc) ∧
  LastV w wB.heap.size vl (preL.take 2).reverse∧∀ g,vo.ownBlock=some g→vl.ownBlock≠some g
 loop:w.heap[L]?=some (.loop rec)
theorem ownsRow_of_block {w w':World} {base:Nat} {e:TypeId} {size n:Nat} {v:Value} {xs:List Value} (h:w.ownsRow base e size v n xs) (hm:∀ k,v.ownBlock=some k→k < w.heap.size→w'.heap[k]?=w.heap[k]?):w'.ownsRow base e size v n xs:=by
 obtain ⟨h1,h2⟩:=h
 refine ⟨h1,?_⟩
 rcases h2 with h2 | ⟨g,cap,cur,rfl,hg,hh,r⟩
 ·exact .inl h2
 ·exact .inr ⟨g,cap,cur,rfl,hg,(hm g rfl (Array.getElem?_eq_some_iff.1 hh).1).trans hh,r⟩
theorem LastV.of_block {w w':World} {B:Nat} {v:Value} {l:List Lx.Tok} (h:LastV w B v l) (hm:∀ k,v.ownBlock=some k→k < w.heap.size→w'.heap[k]?=w.heap[k]?):LastV w' B v l:=by
 rcases h with h | ⟨g,o,cap,cur,rfl,hg,h0,hc,hh,hs,hj⟩
 ·exact .inl h
 ·exact .inr ⟨g,o,cap,cur,rfl,hg,h0,hc,(hm g rfl (Array.getElem?_eq_some_iff.1 hh).1).trans hh,hs,hj⟩
theorem LastV.own_ge {w:World} {B:Nat} {v:Value} {l:List Lx.Tok} (h:LastV w B v l) (k:Nat) (hk:v.ownBlock=some k):B≤k∧k < w.heap.size:=by
 rcases h with ⟨_,rfl⟩ | ⟨g,o,cap,cur,rfl,hg,h0,hc,hh,hs,hj⟩
 ·cases hk
 ·cases hk;exact ⟨hg,(Array.getElem?_eq_some_iff.1 hh).1⟩
theorem own_ge {w:World} {base:Nat} {e:TypeId} {size n:Nat} {v:Value} {xs:List Value} (h:w.ownsRow base e size v n xs) (k:Nat) (hk:v.ownBlock=some k):base≤k∧k < w.heap.size:=by
 rcases h.2 with ⟨rfl,_⟩ | ⟨g,cap,cur,rfl,hg,hh,r⟩
 ·cases hk
 ·cases hk;exact ⟨hg,(Array.getElem?_eq_some_iff.1 hh).1⟩
theorem infoT:∃ i,Tryz.prog.info? 38=some i∧i.zero=some (.agg #[.int .i64 0,.string ⟨#[]⟩,.int .i64 0])∧i.size=3∧i.bytes=32:=by
 have h:(Tryz.prog.info? 38).map (fun i=>(i.zero,i.size,i.bytes))=some (some (.agg #[.int .i64 0,.string ⟨#[]⟩,.int .i64 0]),3,32):=by kernel_rfl
 cases hi:Tryz.prog.info? 38 with
 | none=>rw [hi] at h;cases h
 | some i =>
  rw [hi] at h
  simp only [Option.map_some,Option.some.injEq,Prod.mk.injEq] at h
  exact ⟨i,rfl,h.1,h.2.1,h.2.2⟩
theorem LastV.q {w:World} {B:Nat} {v:Value} {l:List Lx.Tok} (h:LastV w B v l):YtadgddipkbdnbaaGreatDoorW.PrintWords.QRow w B 38 3 v l.length (l.flatMap tc):=by
 refine ⟨by rw [tc_len];omega,?_⟩
 rcases h with ⟨rfl,rfl⟩ | ⟨g,o,cap,cur,rfl,hg,h0,hc,hh,⟨off,rfl,hm,hs⟩,hj⟩
 ·exact .inl ⟨rfl,none,rfl,fun a ha=>by cases ha⟩
 ·refine .inr ⟨g,off,cap,cur,rfl,hg,hh,hc,hm,hs,?_⟩
  apply List.ext_getElem?
  intro j
  by_cases hlt:j < (l.flatMap tc).length
  ·have:=hj j _ (List.getElem?_eq_getElem hlt)
   rw [List.getElem?_eq_getElem hlt,← this]
   rw [tc_len] at hlt
   rw [List.getElem?_take,if_pos (by omega),List.getElem?_drop]
   simp
  ·rw [List.getElem?_eq_none (Nat.le_of_not_lt hlt)]
   rw [tc_len] at hlt
   rw [List.getElem?_take,if_neg (by omega)]
theorem lastV_of_q {w:World} {B:Nat} {v:Value} {l:List Lx.Tok} (h:YtadgddipkbdnbaaGreatDoorW.PrintWords.QRow w B 38 3 v l.length (l.flatMap tc)) (hl:0 < l.length):LastV w B v l:=by
 obtain ⟨h1,h2⟩:=h
 rcases h2 with ⟨h0,_⟩ | ⟨g,off,cap,cur,rfl,hg,hh,hc,hm,hs,ht⟩
 ·omega
 ·refine .inr ⟨g,off * 3,cap,cur,rfl,hg,hl,hc,hh,⟨off,rfl,hm,hs⟩,fun j u hj=>?_⟩
  rw [← ht,List.getElem?_take] at hj
  split at hj
  ·rw [List.getElem?_drop] at hj
   simpa using hj
  ·cases hj
theorem tc_one (t:Lx.Tok):∀ u∈tc t,u.oneCell'=true:=by
 intro u hu
 simp only [tc,List.mem_cons,List.mem_nil_iff,or_false] at hu
 rcases hu with rfl | rfl | rfl <;> rfl
theorem lastV_append (w:World) (ty:TypeId) (B:Nat) (v:Value) (l:List Lx.Tok) (tok:Lx.Tok) (h:LastV w B v l) (hl:l.length≤2) (hB:B≤w.heap.size) (a:Addr) (c:Nat) (hnews:∀ j u,(tc tok)[j]?=some u→w.cell? (a.add j)=some u) :
  ∃ g o cap w',(Builtin.append_ #[23,23] ty #[v,.slice (some a) 1 c]).run Tryz.prog w=.ok (.slice (some ⟨g,o,none⟩) (l.length+1) cap) w'∧LastV w' B (.slice (some ⟨g,o,none⟩) (l.length+1) cap) (l ++ [tok])∧w.grownBy w' v.ownBlock ∧
   ((Value.slice (some ⟨g,o,none⟩) (l.length+1) cap).ownBlock=v.ownBlock∨∃ b,(Value.slice (some ⟨g,o,none⟩) (l.length+1) cap).ownBlock=some b∧w.heap.size≤b):=by
 obtain ⟨i,hi,hz,hs,hb⟩:=infoT
 obtain ⟨v',w',hr,hq,hg,ho⟩:=YtadgddipkbdnbaaGreatDoorW.PrintWords.q_append (P:=Tryz.prog) w B 23 ty 38 i _ 3 32 Tryz.underlying23 hi hz hs hb rfl (by decide) v l.length _ h.q a 1 c (tc tok) rfl hnews (tc_one tok) (by decide) (by unfold maxLen;omega) (by omega) hB
 have hL:LastV w' B v' (l ++ [tok]):=lastV_of_q (by simpa using hq) (by simp)
 rcases hL with ⟨h0,_⟩ | ⟨g,o,cap,cur,rfl,r⟩
 ·simp at h0
 ·simp only [List.length_append,List.length_cons,List.length_nil,Nat.zero_add] at hr ho ⊢
  exact ⟨g,o,cap,w',hr,.inr ⟨g,o,cap,cur,by simp,r⟩,hg,ho⟩
section
variable {wB w w':World} {o b L p1 p2 H:Nat} {wv sv:Value} {rec:Loop} {s:ByteArray} {e:Nat} {preL preO:List Lx.Tok}
theorem GW.of6 (h:GW w) (hb:∀ k,k < 6→w'.heap[k]?=w.heap[k]?):GW w':=by
 obtain ⟨⟨t,fr,e⟩,h0,⟨m,hm⟩,⟨t4,p4,h4⟩,⟨t5,p5,h5⟩⟩:=h
 refine ⟨⟨t,fr,by rw [hb 3 (by omega)];exact e⟩,?_,⟨m,?_⟩,⟨t4,p4,?_⟩,⟨t5,p5,?_⟩⟩
 ·unfold Lib.TabIs World.var? at h0 ⊢
  rw [glob0] at h0 ⊢
  simp only [Option.bind_some] at h0 ⊢
  rw [hb 0 (by omega)];exact h0
 ·rw [← hm];exact World.cell?_of_block (hb 1 (by omega))
 ·rw [← h4];exact World.cell?_of_block (hb 4 (by omega))
 ·rw [← h5];exact World.cell?_of_block (hb 5 (by omega))
theorem GW.size6 (h:GW w):6≤w.heap.size:=by
 obtain ⟨t5,p5,h5⟩:=h.rng
 exact World.block_lt_of_cell? w _ h5
theorem StrsAt.of_block {v:Value} {M:List (List UInt8)} (h:StrsAt w v M) {g0:Nat} (hm:∀ k,k < w.heap.size→k≠g0→w'.heap[k]?=w.heap[k]?) (hne:∀ g,v.ownBlock=some g→g≠g0):StrsAt w' v M:=by
 obtain ⟨g,c,rfl,hc⟩:=h
 exact ⟨g,c,rfl,fun j hj=>(World.cell?_of_block (hm g (World.block_lt_of_cell? w _ (hc j hj)) (hne g rfl))).trans (hc j hj)⟩
theorem StrsAt.fr {v:Value} {M:List (List UInt8)} (h:StrsAt wB v M) (hf:Fr wB o b L w) (hne:∀ g,v.ownBlock=some g→g≠o∧g≠b∧g≠L):StrsAt w v M:=by
 obtain ⟨g,c,rfl,hc⟩:=h
 obtain ⟨h1,h2,h3⟩:=hne g rfl
 exact ⟨g,c,rfl,fun j hj=>hf.cell (hc j hj) h1 h2 h3⟩
theorem Recs.fr (h:Recs wB H) (hf:Fr wB o b L w) (no:o < H∨H+4 < o) (nb:b < H∨H+4 < b) (nL:L < H∨H+4 < L):Recs w H where
 c0:=hf.cell h.c0 (by show H≠o;omega) (by show H≠b;omega) (by show H≠L;omega)
 c1:=hf.cell h.c1 (by show H+1≠o;omega) (by show H+1≠b;omega) (by show H+1≠L;omega)
 c2:=hf.cell h.c2 (by show H+1+1≠o;omega) (by show H+1+1≠b;omega) (by show H+1+1≠L;omega)
 c3:=hf.cell h.c3 (by show H+1+1+1≠o;omega) (by show H+1+1+1≠b;omega) (by show H+1+1+1≠L;omega)
 row:=(hf.block _ h.lt (by omega) (by omega) (by omega)).trans h.row
theorem Inv.gw (h:Inv wB o b L wv sv rec s e preL preO w) (st:Stat wB o b L p1 p2 H wv sv):GW w :=
 st.gw.of6 fun k hk=>h.fr.block k (by have:=st.gw.size6;omega) (by have:=st.o6;omega) (by have:=st.b6;omega) (by have:=st.l6;omega)
theorem Inv.sw (h:Inv wB o b L wv sv rec s e preL preO w) (st:Stat wB o b L p1 p2 H wv sv):Sw w wB.heap.size b e s preL:=by
 obtain ⟨vo,vl,h1,h2,h3,h4,h5⟩:=h.io
 exact ⟨h.scn,h.gw st,⟨vl,h2,h4⟩,⟨wv,h.words,st.words.fr h.fr st.wne⟩,⟨sv,h.signs,st.signs.fr h.fr st.sne⟩⟩
theorem Inv.recs (h:Inv wB o b L wv sv rec s e preL preO w) (st:Stat wB o b L p1 p2 H wv sv):Recs w H:=st.recs.fr h.fr st.no st.nb st.nL
theorem Inv.c1 (h:Inv wB o b L wv sv rec s e preL preO w) (st:Stat wB o b L p1 p2 H wv sv):w.cell? ⟨p1,0,none⟩=some (.pointer (some ⟨b,0,none⟩)):=h.fr.cell st.c1 st.n1.1 st.n1.2.1 st.n1.2.2
theorem Inv.c2 (h:Inv wB o b L wv sv rec s e preL preO w) (st:Stat wB o b L p1 p2 H wv sv):w.cell? ⟨p2,0,none⟩=some (.slice (some ⟨H+1+1+1+1,0,none⟩) 6 6):=h.fr.cell st.c2 st.n2.1 st.n2.2.1 st.n2.2.2
theorem Inv.below (h:Inv wB o b L wv sv rec s e preL preO w) {B:Nat} (hb:Below B w w') (hB:w.heap.size≤B):Inv wB o b L wv sv rec s e preL preO w':=by
 obtain ⟨vo,vl,h1,h2,h3,h4,h5⟩:=h.io
 have hol:o < w.heap.size:=World.block_lt_of_cell? w _ h1
 have hbl:b < w.heap.size:=World.block_lt_of_cell? w _ h2
 have hll:L < w.heap.size:=(Array.getElem?_eq_some_iff.1 h.loop).1
 have cb:∀ i,w'.cell? ⟨b,i,none⟩=w.cell? ⟨b,i,none⟩:=fun i=>hb.cell (p:=⟨b,i,none⟩) (by show b < B;omega)
 exact ⟨h.fr.below hb hB,h.scn.below hb (by omega),(cb 3).trans h.words,(cb 4).trans h.signs,(hb.frozen (p:=⟨b,2,none⟩) (by show b < B;omega)).trans h.lfree,(hb.frozen (p:=⟨o,0,none⟩) (by show o < B;omega)).trans h.ofree,
  ⟨vo,vl,(hb.cell (p:=⟨o,0,none⟩) (by show o < B;omega)).trans h1,(cb 2).trans h2,ownsRow_of_block h3 fun k _ hk=>hb.block k (by omega),h4.of_block fun k _ hk=>hb.block k (by omega),h5⟩,(hb.block L (by omega)).trans h.loop⟩
theorem Inv.drew (h:Inv wB o b L wv sv rec s e preL preO w):Inv wB o b L wv sv rec s e preL preO w.drew:=h.below (Below.refl _ _).drew (Nat.le_refl _)
theorem Fr.setCell {a:Addr} {v:Value} (h:Fr wB o b L w) (ha:a.block=o∨a.block=b):Fr wB o b L (w.setCell a v) :=
 ⟨h.os,h.tape,h.output,by have:=h.size;simp only [World.setCell,Array.size_modify];exact this,fun k hk h1 h2 h3=>(Below.heap_setCell _ _ _ _ (by rcases ha with ha | ha <;> rw [ha] <;> assumption)).trans (h.block k hk h1 h2 h3)⟩
theorem Inv.at (h:Inv wB o b L wv sv rec s e preL preO w) (st:Stat wB o b L p1 p2 H wv sv) (e':Nat):Inv wB o b L wv sv rec s e' preL preO (AtW w b e'):=by
 obtain ⟨vo,vl,h1,h2,h3,h4,h5⟩:=h.io
 have hkeep:∀ k,k≠b→(AtW w b e').heap[k]?=w.heap[k]?:=fun k hk=>AtW.heap_other w b e' k hk
 have ho:∀ i,(AtW w b e').cell? ⟨o,i,none⟩=w.cell? ⟨o,i,none⟩:=fun i=>World.cell?_of_block (hkeep o st.ob)
 have cb:∀ i,i≠1→(AtW w b e').cell? ⟨b,i,none⟩=w.cell? ⟨b,i,none⟩:=fun i hi=>World.cell?_setCell_other _ _ _ _ (by intro hh;cases hh;exact hi rfl)
 refine ⟨h.fr.setCell (.inr rfl),AtW.scn h.scn e',(cb 3 (by omega)).trans h.words,(cb 4 (by omega)).trans h.signs,?_,?_,⟨vo,vl,(ho 0).trans h1,(cb 2 (by omega)).trans h2,?_,?_,h5⟩,(hkeep L (Ne.symm st.bL)).trans h.loop⟩
 ·unfold AtW;rw [World.frozen?_setCell];exact h.lfree
 ·unfold AtW;rw [World.frozen?_setCell];exact h.ofree
 ·exact ownsRow_of_block h3 fun k hk _=>hkeep k (by have:=(own_ge h3 k hk).1;have:=st.bB;omega)
 ·exact h4.of_block fun k hk _=>hkeep k (by have:=(h4.own_ge k hk).1;have:=st.bB;omega)
theorem Inv.setLast (h:Inv wB o b L wv sv rec s e preL preO w) (st:Stat wB o b L p1 p2 H wv sv) {w1:World} {vl vl':Value} {pre':List Lx.Tok} (hvl:w.cell? ⟨b,2,none⟩=some vl)
  (hg:w.grownBy w1 vl.ownBlock) (hl:LastV w1 wB.heap.size vl' (pre'.take 2).reverse) (hown:vl'.ownBlock=vl.ownBlock∨∃ k,vl'.ownBlock=some k∧w.heap.size≤k) :
  Inv wB o b L wv sv rec s e pre' preO (w1.setCell ⟨b,2,none⟩ vl'):=by
 obtain ⟨vo,vl0,h1,h2,h3,h4,h5⟩:=h.io
 obtain rfl:vl0=vl:=Option.some.inj (h2.symm.trans hvl)
 have hB:=h.fr.size
 have hlow:∀ k,k < wB.heap.size→w1.heap[k]?=w.heap[k]?:=fun k hk=>hg.block k (by omega) fun e=>by have:=(h4.own_ge k e.symm).1;omega
 have hf1:Fr wB o b L w1:=⟨hg.os.trans h.fr.os,hg.tape.trans h.fr.tape,hg.output.trans h.fr.output,Nat.le_trans hB hg.size,fun k hk a1 a2 a3=>(hlow k hk).trans (h.fr.block k hk a1 a2 a3)⟩
 have c1:∀ (k i:Nat),k < wB.heap.size→w1.cell? ⟨k,i,none⟩=w.cell? ⟨k,i,none⟩:=fun k i hk=>World.cell?_of_block (hlow k hk)
 have z1:∀ (k i:Nat),k < wB.heap.size→w1.frozen? ⟨k,i,none⟩=w.frozen? ⟨k,i,none⟩:=fun k i hk=>World.frozen?_of_block (hlow k hk)
 have hkeep:∀ k,k≠b→(w1.setCell ⟨b,2,none⟩ vl').heap[k]?=w1.heap[k]?:=fun k hk=>Below.heap_setCell _ _ _ _ hk
 have co:∀ i,(w1.setCell ⟨b,2,none⟩ vl').cell? ⟨o,i,none⟩=w.cell? ⟨o,i,none⟩:=fun i=>(World.cell?_of_block (hkeep o st.ob)).trans (c1 o i st.oB)
 have cb:∀ i,i≠2→(w1.setCell ⟨b,2,none⟩ vl').cell? ⟨b,i,none⟩=w.cell? ⟨b,i,none⟩:=fun i hi=>(World.cell?_setCell_other _ _ _ _ (by intro hh;cases hh;exact hi rfl)).trans (c1 b i st.bB)
 refine ⟨hf1.setCell (.inr rfl),⟨(cb 0 (by omega)).trans h.scn.text,(cb 1 (by omega)).trans h.scn.at_,?_⟩,(cb 3 (by omega)).trans h.words,(cb 4 (by omega)).trans h.signs,?_,?_,⟨vo,vl',(co 0).trans h1,?_,?_,?_,?_⟩,?_⟩
 ·rw [World.frozen?_setCell,z1 b 1 st.bB];exact h.scn.free
 ·rw [World.frozen?_setCell,z1 b 2 st.bB];exact h.lfree
 ·rw [World.frozen?_setCell,z1 o 0 st.oB];exact h.ofree
 ·exact World.cell?_setCell_same' _ _ _ (by rw [c1 b 2 st.bB,h2];rfl)
 ·exact ownsRow_of_block h3 fun k hk hk2=>(hkeep k (by have:=(own_ge h3 k hk).1;have:=st.bB;omega)).trans (hg.block k hk2 fun e=>h5 k hk e.symm)
 ·exact hl.of_block fun k hk _=>hkeep k (by have:=(hl.own_ge k hk).1;have:=st.bB;omega)
 ·intro g hg1 hg2
  rcases hown with hh | ⟨k,hh,hk⟩
  ·exact h5 g hg1 (hh ▸ hg2)
  ·rw [hh] at hg2
   have:=(own_ge h3 g hg1).2
   have:k=g:=Option.some.inj hg2
   omega
 ·exact (hkeep L (Ne.symm st.bL)).trans ((hlow L st.lB).trans h.loop)
theorem Inv.setOut (h:Inv wB o b L wv sv rec s e preL preO w) (st:Stat wB o b L p1 p2 H wv sv) {w1:World} {vo vo':Value} {pre':List Lx.Tok} (hvo:w.cell? ⟨o,0,none⟩=some vo)
  (hg:w.grownBy w1 vo.ownBlock) (hl:w1.ownsRow wB.heap.size 38 3 vo' pre'.length (pre'.reverse.flatMap tc)) (hown:vo'.ownBlock=vo.ownBlock∨vo'.ownBlock=some w.heap.size) :
  Inv wB o b L wv sv rec s e preL pre' (w1.setCell ⟨o,0,none⟩ vo'):=by
 obtain ⟨vo0,vl,h1,h2,h3,h4,h5⟩:=h.io
 obtain rfl:vo0=vo:=Option.some.inj (h1.symm.trans hvo)
 have hB:=h.fr.size
 have hlow:∀ k,k < wB.heap.size→w1.heap[k]?=w.heap[k]?:=fun k hk=>hg.block k (by omega) fun e=>by have:=(own_ge h3 k e.symm).1;omega
 have hf1:Fr wB o b L w1:=⟨hg.os.trans h.fr.os,hg.tape.trans h.fr.tape,hg.output.trans h.fr.output,Nat.le_trans hB hg.size,fun k hk a1 a2 a3=>(hlow k hk).trans (h.fr.block k hk a1 a2 a3)⟩
 have c1:∀ (k i:Nat),k < wB.heap.size→w1.cell? ⟨k,i,none⟩=w.cell? ⟨k,i,none⟩:=fun k i hk=>World.cell?_of_block (hlow k hk)
 have z1:∀ (k i:Nat),k < wB.heap.size→w1.frozen? ⟨k,i,none⟩=w.frozen? ⟨k,i,none⟩:=fun k i hk=>World.frozen?_of_block (hlow k hk)
 have hkeep:∀ k,k≠o→(w1.setCell ⟨o,0,none⟩ vo').heap[k]?=w1.heap[k]?:=fun k hk=>Below.heap_setCell _ _ _ _ hk
 have cb:∀ i,(w1.setCell ⟨o,0,none⟩ vo').cell? ⟨b,i,none⟩=w.cell? ⟨b,i,none⟩:=fun i=>(World.cell?_of_block (hkeep b (Ne.symm st.ob))).trans (c1 b i st.bB)
 refine ⟨hf1.setCell (.inl rfl),⟨(cb 0).trans h.scn.text,(cb 1).trans h.scn.at_,?_⟩,(cb 3).trans h.words,(cb 4).trans h.signs,?_,?_,⟨vo',vl,?_,(cb 2).trans h2,?_,?_,?_⟩,?_⟩
 ·rw [World.frozen?_setCell,z1 b 1 st.bB];exact h.scn.free
 ·rw [World.frozen?_setCell,z1 b 2 st.bB];exact h.lfree
 ·rw [World.frozen?_setCell,z1 o 0 st.oB];exact h.ofree
 ·exact World.cell?_setCell_same' _ _ _ (by rw [c1 o 0 st.oB,h1];rfl)
 ·exact ownsRow_of_block hl fun k hk _=>hkeep k (by have:=(own_ge hl k hk).1;have:=st.oB;omega)
 ·exact h4.of_block fun k hk hk2=>(hkeep k (by have:=(h4.own_ge k hk).1;have:=st.oB;omega)).trans (hg.block k hk2 fun e=>h5 k e.symm hk)
 ·intro g hg1 hg2
  rcases hown with hh | hh
  ·exact h5 g (hh ▸ hg1) hg2
  ·rw [hh] at hg1
   have:=(h4.own_ge g hg2).2
   have:w.heap.size=g:=Option.some.inj hg1
   omega
 ·exact (hkeep L (Ne.symm st.oL)).trans ((hlow L st.lB).trans h.loop)
theorem Inv.setLoop (h:Inv wB o b L wv sv rec s e preL preO w) (st:Stat wB o b L p1 p2 H wv sv) (rec':Loop):Inv wB o b L wv sv rec' s e preL preO (w.putObj L (.loop rec')):=by
 obtain ⟨vo,vl,h1,h2,h3,h4,h5⟩:=h.io
 have hkeep:∀ k,k≠L→(w.putObj L (.loop rec')).heap[k]?=w.heap[k]?:=fun k hk=>World.putObj_heap_other hk
 have cb:∀ i,(w.putObj L (.loop rec')).cell? ⟨b,i,none⟩=w.cell? ⟨b,i,none⟩:=fun i=>World.cell?_of_block (hkeep b st.bL)
 have zb:∀ i,(w.putObj L (.loop rec')).frozen? ⟨b,i,none⟩=w.frozen? ⟨b,i,none⟩:=fun i=>World.frozen?_of_block (hkeep b st.bL)
 exact ⟨⟨h.fr.os,h.fr.tape,h.fr.output,by rw [World.putObj_size];exact h.fr.size,fun k hk a1 a2 a3=>(hkeep k a3).trans (h.fr.block k hk a1 a2 a3)⟩,
  ⟨(cb 0).trans h.scn.text,(cb 1).trans h.scn.at_,(zb 1).trans h.scn.free⟩,(cb 3).trans h.words,(cb 4).trans h.signs,(zb 2).trans h.lfree,(World.frozen?_of_block (hkeep o st.oL)).trans h.ofree,
  ⟨vo,vl,(World.cell?_of_block (hkeep o st.oL)).trans h1,(cb 2).trans h2,ownsRow_of_block h3 fun k hk _=>hkeep k (by have:=(own_ge h3 k hk).1;have:=st.lB;omega),h4.of_block fun k hk _=>hkeep k (by have:=(h4.own_ge k hk).1;have:=st.lB;omega),h5⟩,
  World.putObj_heap_same (Array.getElem?_eq_some_iff.1 h.loop).1⟩
end
end Go.Proofs.YtadgddipkbdnbaaGreatDoor
