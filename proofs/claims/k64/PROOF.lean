import PyProof.Rows.All
import Wide.All
import OpenK.AllK
import Wide.FinOn
import HandS.ForMost
import HandS.IsInst
import HandS.Defaults
import HandS.Property
import HandS.Conv
import HandS.DictComp
import HandS.TupSets
import HandS.SetBool
import HandS.Strs
import HandS.Wide
import HandS.Flow
import HandS.Style
import HandS.EndBits
import HandS.More
import HandS.Zip
import HandS.TupAny
import HandS.Codes
import HandS.NoneIn
import HandS.SortInts
import HandS.Walk
import HandS.SetFor
import HandS.Small
import PySem.Challenge.RW_selfpower_k64_whole_embeddings
set_option Elab.async false
/-! K64 mathematics, part 1: sums, flows, augmenting. -/
namespace K64

/-! ### sums -/
def tot {α : Type} (f : α → Int) : List α → Int
  | [] => 0
  | a :: l => f a + tot f l

section
variable {α β : Type}
@[simp] theorem tot_nil (f : α → Int) : tot f [] = 0 := rfl
@[simp] theorem tot_cons (f : α → Int) (a : α) (l : List α) : tot f (a :: l) = f a + tot f l := rfl
@[simp] theorem tot_append (f : α → Int) (l m : List α) : tot f (l ++ m) = tot f l + tot f m := by
  induction l with
  | nil => simp
  | cons a l ih => simp [ih]; omega
theorem tot_sum (f : α → Int) (l : List α) : (l.map f).sum = tot f l := by
  induction l with
  | nil => rfl
  | cons a l ih => simp [ih]
theorem tot_map (f : β → Int) (g : α → β) (l : List α) : tot f (l.map g) = tot (fun a => f (g a)) l := by
  induction l with
  | nil => rfl
  | cons a l ih => simp [ih]
theorem tot_congr {f g : α → Int} {l : List α} (h : ∀ a ∈ l, f a = g a) : tot f l = tot g l := by
  induction l with
  | nil => rfl
  | cons a l ih => rw [tot_cons, tot_cons, h a (by simp), ih fun b hb => h b (by simp [hb])]
theorem tot_le {f g : α → Int} {l : List α} (h : ∀ a ∈ l, f a ≤ g a) : tot f l ≤ tot g l := by
  induction l with
  | nil => exact Int.le_refl _
  | cons a l ih =>
    have h1 := h a (by simp)
    have h2 := ih fun b hb => h b (by simp [hb])
    simp only [tot_cons]; omega
theorem tot_lt {f g : α → Int} {l : List α} (h : ∀ a ∈ l, f a ≤ g a) {b : α} (hb : b ∈ l) (hlt : f b < g b) : tot f l < tot g l := by
  induction l with
  | nil => cases hb
  | cons a l ih =>
    have h1 := h a (by simp)
    have h2 : tot f l ≤ tot g l := tot_le fun b hb => h b (by simp [hb])
    simp only [tot_cons]
    rcases List.mem_cons.mp hb with e | e
    · subst e; omega
    · have := ih (fun b hb => h b (by simp [hb])) e
      omega
theorem tot_zero {f : α → Int} {l : List α} (h : ∀ a ∈ l, f a = 0) : tot f l = 0 := by
  induction l with
  | nil => rfl
  | cons a l ih => rw [tot_cons, h a (by simp), ih fun b hb => h b (by simp [hb])]; rfl
theorem tot_nonneg {f : α → Int} {l : List α} (h : ∀ a ∈ l, 0 ≤ f a) : 0 ≤ tot f l := by
  induction l with
  | nil => exact Int.le_refl _
  | cons a l ih =>
    have h1 := h a (by simp)
    have h2 := ih fun b hb => h b (by simp [hb])
    simp only [tot_cons]; omega
theorem tot_ge {f : α → Int} {l : List α} (h : ∀ a ∈ l, 0 ≤ f a) {a : α} (ha : a ∈ l) : f a ≤ tot f l := by
  induction l with
  | nil => cases ha
  | cons b l ih =>
    have h1 := h b (by simp)
    have h2 : 0 ≤ tot f l := tot_nonneg fun b hb => h b (by simp [hb])
    simp only [tot_cons]
    rcases List.mem_cons.mp ha with e | e
    · subst e; omega
    · have := ih (fun b hb => h b (by simp [hb])) e
      omega
theorem tot_add (f g : α → Int) (l : List α) : tot (fun a => f a + g a) l = tot f l + tot g l := by
  induction l with
  | nil => rfl
  | cons a l ih => simp only [tot_cons, ih]; omega
theorem tot_filter (p : α → Bool) (f : α → Int) (l : List α) : tot f (l.filter p) = tot (fun a => if p a = true then f a else 0) l := by
  induction l with
  | nil => rfl
  | cons a l ih =>
    rw [List.filter_cons]
    by_cases h : p a = true
    · simp [h, ih]
    · simp [h, ih]
theorem tot_swap (f : α → β → Int) (l : List α) (m : List β) : tot (fun a => tot (f a) m) l = tot (fun b => tot (fun a => f a b) l) m := by
  induction l with
  | nil => rw [tot_nil]; exact (tot_zero fun _ _ => rfl).symm
  | cons a l ih =>
    rw [tot_cons, ih, ← tot_add]
    rfl
theorem tot_perm (f : α → Int) {l m : List α} (h : l.Perm m) : tot f l = tot f m := by
  induction h with
  | nil => rfl
  | cons a _ ih => rw [tot_cons, tot_cons, ih]
  | swap a b l => simp only [tot_cons]; omega
  | trans _ _ h1 h2 => rw [h1, h2]
/-- the sum of what stands at one place alone -/
theorem tot_one [DecidableEq β] (g : α → β) (f : α → Int) {l : List α} (hn : (l.map g).Nodup) {a : α} (ha : a ∈ l) :
    tot (fun b => if g b = g a then f b else 0) l = f a := by
  induction l with
  | nil => cases ha
  | cons b l ih =>
    rw [List.map_cons, List.nodup_cons] at hn
    rw [tot_cons]
    rcases List.mem_cons.mp ha with e | e
    · subst e
      rw [if_pos rfl, tot_zero]
      · omega
      · intro c hc
        rw [if_neg]
        intro q
        exact hn.1 (by rw [← q]; exact List.mem_map_of_mem hc)
    · rw [if_neg, ih hn.2 e]
      · omega
      · intro q
        exact hn.1 (by rw [q]; exact List.mem_map_of_mem e)
theorem tot_none [DecidableEq β] (g : α → β) (f : α → Int) {l : List α} {k : β} (h : k ∉ l.map g) : tot (fun b => if g b = k then f b else 0) l = 0 :=
  tot_zero fun b hb => if_neg fun q => h (by rw [← q]; exact List.mem_map_of_mem hb)
theorem tot_const_mul (f : α → Int) (l : List α) : tot (fun a => - f a) l = - tot f l := by
  induction l with
  | nil => rfl
  | cons a l ih => simp only [tot_cons, ih]; omega
end

/-! ### edges, bumps -/
abbrev Ed := Int × Int
def row (E : List Ed) (sh : Ed → Int) (s : Int) : Int := tot (fun e => if e.1 = s then sh e else 0) E
def col (E : List Ed) (sh : Ed → Int) (g : Int) : Int := tot (fun e => if e.2 = g then sh e else 0) E
def bump (sh : Ed → Int) (e : Ed) (d : Int) : Ed → Int := fun x => if x = e then sh e + d else sh x
def bumps (sh : Ed → Int) (P : List Ed) (d : Int) : Ed → Int := P.foldl (fun f e => bump f e d) sh

theorem tot_bump {E : List Ed} (hn : E.Nodup) (p : Ed → Bool) (sh : Ed → Int) {e : Ed} (he : e ∈ E) (d : Int) :
    tot (fun x => if p x = true then bump sh e d x else 0) E = tot (fun x => if p x = true then sh x else 0) E + (if p e = true then d else 0) := by
  induction E with
  | nil => cases he
  | cons a l ih =>
    rw [List.nodup_cons] at hn
    simp only [tot_cons]
    rcases List.mem_cons.mp he with q | q
    · subst q
      have : tot (fun x => if p x = true then bump sh e d x else 0) l = tot (fun x => if p x = true then sh x else 0) l := by
        refine tot_congr fun b hb => ?_
        have : b ≠ e := fun z => hn.1 (z ▸ hb)
        unfold bump
        rw [if_neg this]
      rw [this]
      unfold bump
      rw [if_pos rfl]
      split <;> omega
    · rw [ih hn.2 q]
      have : a ≠ e := fun z => hn.1 (z ▸ q)
      have e1 : bump sh e d a = sh a := by unfold bump; rw [if_neg this]
      rw [e1]
      omega
theorem tot_bumps {E : List Ed} (hn : E.Nodup) (p : Ed → Bool) (d : Int) : ∀ (P : List Ed) (sh : Ed → Int), (∀ e ∈ P, e ∈ E) →
    tot (fun x => if p x = true then bumps sh P d x else 0) E = tot (fun x => if p x = true then sh x else 0) E + tot (fun e => if p e = true then d else 0) P
  | [], sh, _ => by simp [bumps]
  | a :: P, sh, h => by
    have ih := tot_bumps hn p d P (bump sh a d) fun e he => h e (by simp [he])
    show tot (fun x => if p x = true then bumps (bump sh a d) P d x else 0) E = _
    rw [ih, tot_bump hn p sh (h a (by simp)) d, tot_cons]
    omega
theorem row_bumps {E : List Ed} (hn : E.Nodup) (d : Int) (P : List Ed) (sh : Ed → Int) (h : ∀ e ∈ P, e ∈ E) (s : Int) :
    row E (bumps sh P d) s = row E sh s + tot (fun e => if e.1 = s then d else 0) P := by
  have := tot_bumps hn (fun e => decide (e.1 = s)) d P sh h
  simpa [row] using this
theorem col_bumps {E : List Ed} (hn : E.Nodup) (d : Int) (P : List Ed) (sh : Ed → Int) (h : ∀ e ∈ P, e ∈ E) (g : Int) :
    col E (bumps sh P d) g = col E sh g + tot (fun e => if e.2 = g then d else 0) P := by
  have := tot_bumps hn (fun e => decide (e.2 = g)) d P sh h
  simpa [col] using this
theorem bumps_ge {d : Int} (hd : 0 ≤ d) : ∀ (P : List Ed) (sh : Ed → Int) (x : Ed), sh x ≤ bumps sh P d x
  | [], sh, x => Int.le_refl _
  | a :: P, sh, x => by
    have ih := bumps_ge hd P (bump sh a d) x
    show sh x ≤ bumps (bump sh a d) P d x
    have : sh x ≤ bump sh a d x := by
      unfold bump
      split
      · rename_i q; subst q; omega
      · omega
    omega
theorem bumps_not (d : Int) : ∀ (P : List Ed) (sh : Ed → Int) (x : Ed), x ∉ P → bumps sh P d x = sh x
  | [], sh, x, _ => rfl
  | a :: P, sh, x, h => by
    have ih := bumps_not d P (bump sh a d) x fun q => h (by simp [q])
    show bumps (bump sh a d) P d x = sh x
    rw [ih]
    unfold bump
    rw [if_neg]
    intro q
    exact h (by simp [q])
theorem bumps_in (d : Int) : ∀ (P : List Ed) (sh : Ed → Int) (x : Ed), P.Nodup → x ∈ P → bumps sh P d x = sh x + d
  | [], sh, x, _, h => by cases h
  | a :: P, sh, x, hn, h => by
    rw [List.nodup_cons] at hn
    show bumps (bump sh a d) P d x = sh x + d
    rcases List.mem_cons.mp h with q | q
    · subst q
      rw [bumps_not d P _ _ hn.1]
      unfold bump
      rw [if_pos rfl]
    · rw [bumps_in d P _ x hn.2 q]
      unfold bump
      rw [if_neg]
      intro z
      exact hn.1 (z ▸ q)

/-! ### paths -/
def moved : List Ed → List Ed
  | a :: b :: r => (b.1, a.2) :: moved (b :: r)
  | _ => []
theorem moved_one (a : Ed) : moved [a] = [] := rfl
theorem moved_two (a b : Ed) (r : List Ed) : moved (a :: b :: r) = (b.1, a.2) :: moved (b :: r) := rfl
theorem moved_fst : ∀ P : List Ed, (moved P).map (·.1) = (P.map (·.1)).tail
  | [] => rfl
  | [_] => rfl
  | a :: b :: r => by
    have := moved_fst (b :: r)
    simp only [moved_two, List.map_cons, List.tail_cons] at this ⊢
    rw [this]
theorem tot_moved_fst (s d : Int) : ∀ (a : Ed) (r : List Ed), tot (fun e => if e.1 = s then d else 0) (a :: r) = (if a.1 = s then d else 0) + tot (fun e => if e.1 = s then d else 0) (moved (a :: r))
  | a, [] => by simp [moved]
  | a, b :: r => by
    have := tot_moved_fst s d b r
    rw [tot_cons, this, moved_two, tot_cons]
theorem tot_moved_snd (g d : Int) : ∀ (a : Ed) (r : List Ed), tot (fun e => if e.2 = g then d else 0) (a :: r) = (if ((a :: r).getLast (by simp)).2 = g then d else 0) + tot (fun e => if e.2 = g then d else 0) (moved (a :: r))
  | a, [] => by
    show (if a.2 = g then d else 0) + 0 = (if a.2 = g then d else 0) + 0
    rfl
  | a, b :: r => by
    have := tot_moved_snd g d b r
    rw [tot_cons, this, moved_two, tot_cons, List.getLast_cons (List.cons_ne_nil _ _)]
    omega
theorem moved_append (P : List Ed) (e f : Ed) : moved (P ++ [e, f]) = moved (P ++ [e]) ++ [(f.1, e.2)] := by
  induction P with
  | nil => rfl
  | cons a P ih =>
    cases P with
    | nil => rfl
    | cons b P =>
      show (b.1, a.2) :: moved (b :: P ++ [e, f]) = ((b.1, a.2) :: moved (b :: P ++ [e])) ++ [(f.1, e.2)]
      rw [ih]; rfl
theorem nodup_of_map {α β : Type} {f : α → β} : ∀ {l : List α}, (l.map f).Nodup → l.Nodup
  | [], _ => List.nodup_nil
  | a :: l, h => by
    rw [List.map_cons, List.nodup_cons] at h
    rw [List.nodup_cons]
    exact ⟨fun q => h.1 (List.mem_map_of_mem q), nodup_of_map h.2⟩
theorem moved_nodup {P : List Ed} (h : (P.map (·.1)).Nodup) : (moved P).Nodup := by
  refine nodup_of_map (f := (·.1)) ?_
  rw [moved_fst]
  exact h.sublist (List.tail_sublist _)

structure GS where
  nd : Int → Int
  fr : Int → Int
  sh : Ed → Int
def dec (f : Int → Int) (k d : Int) : Int → Int := fun x => if x = k then f k - d else f x
/-- behind a use of d along P -/
def GS.push (st : GS) (size : Int) (P : List Ed) (last : Int) (d : Int) : GS :=
  ⟨dec st.nd size d, dec st.fr last d, bumps (bumps st.sh P d) (moved P) (-d)⟩

structure IsPath (E : List Ed) (sh : Ed → Int) (fr : Int → Int) (size : Int) (P : List Ed) (last : Int) : Prop where
  head : ∃ g r, P = (size, g) :: r
  lst : ∃ s r, P = r ++ [(s, last)]
  mem : ∀ e ∈ P, e ∈ E
  mv : ∀ e ∈ moved P, e ∈ E ∧ 0 < sh e
  free : 0 < fr last
  nodup : (P.map (·.1)).Nodup

structure Fl (A B : List (Int × Int)) (E : List Ed) (st : GS) : Prop where
  nd : ∀ p ∈ A, st.nd p.1 + row E st.sh p.1 = p.2
  nd0 : ∀ p ∈ A, 0 ≤ st.nd p.1
  fr : ∀ p ∈ B, st.fr p.1 + col E st.sh p.1 = p.2
  fr0 : ∀ p ∈ B, 0 ≤ st.fr p.1
  sh0 : ∀ e ∈ E, 0 ≤ st.sh e

theorem Fl.push {A B : List (Int × Int)} {E : List Ed} {st : GS} (F : Fl A B E st) (hn : E.Nodup) {size last d : Int} {P : List Ed} (hp : IsPath E st.sh st.fr size P last)
    (hd : 0 ≤ d) (h1 : d ≤ st.nd size) (h2 : d ≤ st.fr last) (h3 : ∀ e ∈ moved P, d ≤ st.sh e) : Fl A B E (st.push size P last d) := by
  have hM : ∀ e ∈ moved P, e ∈ E := fun e he => (hp.mv e he).1
  obtain ⟨g, r, hP⟩ := hp.head
  obtain ⟨sl, rl, hL⟩ := hp.lst
  have rows : ∀ s, row E (bumps (bumps st.sh P d) (moved P) (-d)) s = row E st.sh s + (if size = s then d else 0) := fun s => by
    rw [row_bumps hn _ _ _ hM, row_bumps hn _ _ _ hp.mem]
    have e1 : tot (fun e : Ed => if e.1 = s then d else 0) P = (if size = s then d else 0) + tot (fun e => if e.1 = s then d else 0) (moved P) := by
      rw [hP]; exact tot_moved_fst s d (size, g) r
    have e2 : tot (fun e : Ed => if e.1 = s then -d else 0) (moved P) = - tot (fun e : Ed => if e.1 = s then d else 0) (moved P) := by
      rw [← tot_const_mul]
      exact tot_congr fun e _ => by split <;> omega
    rw [e1, e2]; omega
  have cols : ∀ k, col E (bumps (bumps st.sh P d) (moved P) (-d)) k = col E st.sh k + (if last = k then d else 0) := fun k => by
    rw [col_bumps hn _ _ _ hM, col_bumps hn _ _ _ hp.mem]
    have e1 : tot (fun e : Ed => if e.2 = k then d else 0) P = (if last = k then d else 0) + tot (fun e => if e.2 = k then d else 0) (moved P) := by
      have q := tot_moved_snd k d (size, g) r
      have hl : (((size, g) :: r).getLast (by simp)).2 = last := by
        have : ((size, g) :: r).getLast (by simp) = (sl, last) := by
          have e : (size, g) :: r = rl ++ [(sl, last)] := hP.symm.trans hL
          simp [e]
        rw [this]
      rw [hl] at q
      rw [hP]; exact q
    have e2 : tot (fun e : Ed => if e.2 = k then -d else 0) (moved P) = - tot (fun e : Ed => if e.2 = k then d else 0) (moved P) := by
      rw [← tot_const_mul]
      exact tot_congr fun e _ => by split <;> omega
    rw [e1, e2]; omega
  refine ⟨fun p hpA => ?_, fun p hpA => ?_, fun p hpB => ?_, fun p hpB => ?_, fun e he => ?_⟩
  · have := F.nd p hpA
    show dec st.nd size d p.1 + row E (bumps (bumps st.sh P d) (moved P) (-d)) p.1 = p.2
    rw [rows]
    unfold dec
    by_cases q : p.1 = size
    · rw [if_pos q, if_pos q.symm, ← q]; omega
    · rw [if_neg q, if_neg (fun z => q z.symm)]; omega
  · have := F.nd0 p hpA
    show 0 ≤ dec st.nd size d p.1
    unfold dec
    split <;> omega
  · have := F.fr p hpB
    show dec st.fr last d p.1 + col E (bumps (bumps st.sh P d) (moved P) (-d)) p.1 = p.2
    rw [cols]
    unfold dec
    by_cases q : p.1 = last
    · rw [if_pos q, if_pos q.symm, ← q]; omega
    · rw [if_neg q, if_neg (fun z => q z.symm)]; omega
  · have := F.fr0 p hpB
    show 0 ≤ dec st.fr last d p.1
    unfold dec
    split <;> omega
  · have h0 := F.sh0 e he
    have h4 := bumps_ge hd P st.sh e
    show 0 ≤ bumps (bumps st.sh P d) (moved P) (-d) e
    by_cases q : e ∈ moved P
    · rw [bumps_in _ _ _ _ (moved_nodup hp.nodup) q]
      have := h3 e q
      omega
    · rw [bumps_not _ _ _ _ q]
      omega
end K64
/-! K64 mathematics, part 2: the search for a path, and why there is one. -/
namespace K64
abbrev Wt := List (Int × List Ed)
def hit (E : List Ed) (fr : Int → Int) (now : Int) : Option Ed := E.find? fun e => decide (e.1 = now) && decide (0 < fr e.2)
def step1 (sh : Ed → Int) (now : Int) (path : List Ed) (great : Int) (st : Wt × List Int) (e : Ed) : Wt × List Int :=
  if e.2 = great ∧ e.1 ∉ st.2 ∧ 0 < sh e then (st.1 ++ [(e.1, path ++ [(now, great)])], st.2 ++ [e.1]) else st
def step2 (E : List Ed) (sh : Ed → Int) (now : Int) (path : List Ed) (st : Wt × List Int) (e : Ed) : Wt × List Int :=
  if e.1 = now then E.foldl (step1 sh now path e.2) st else st
def grow (E : List Ed) (sh : Ed → Int) (now : Int) (path : List Ed) (st : Wt × List Int) : Wt × List Int := E.foldl (step2 E sh now path) st
def bfs (E : List Ed) (sh : Ed → Int) (fr : Int → Int) : Nat → Wt → List Int → Option (List Ed)
  | _, [], _ => some []
  | 0, _ :: _, _ => none
  | n + 1, (now, path) :: r, kn => match hit E fr now with
    | some e => some (path ++ [(now, e.2)])
    | none => bfs E sh fr n (grow E sh now path (r, kn)).1 (grow E sh now path (r, kn)).2

inductive Tr (E : List Ed) (sh : Ed → Int) (size : Int) : Int → List Ed → Prop
  | nil : Tr E sh size size []
  | snoc {now late g : Int} {path : List Ed} : Tr E sh size now path → (now, g) ∈ E → (late, g) ∈ E → 0 < sh (late, g) → late ∉ (path ++ [(now, g)]).map (·.1) → Tr E sh size late (path ++ [(now, g)])

section
variable {E : List Ed} {sh : Ed → Int} {fr : Int → Int} {size now : Int} {path : List Ed}
theorem Tr.head (t : Tr E sh size now path) (g : Int) : ∃ h r, path ++ [(now, g)] = (size, h) :: r := by
  induction t generalizing g with
  | nil => exact ⟨g, [], rfl⟩
  | @snoc now late g' path t _ _ _ _ ih =>
    obtain ⟨h, r, e⟩ := ih g'
    exact ⟨h, r ++ [(late, g)], by rw [e]; rfl⟩
theorem Tr.mem (t : Tr E sh size now path) : ∀ e ∈ path, e ∈ E := by
  induction t with
  | nil => intro e he; cases he
  | @snoc now late g path t h1 _ _ _ ih =>
    intro e he
    rcases List.mem_append.mp he with q | q
    · exact ih e q
    · rw [List.mem_singleton.mp q]; exact h1
theorem Tr.mv (t : Tr E sh size now path) (g : Int) : ∀ e ∈ moved (path ++ [(now, g)]), e ∈ E ∧ 0 < sh e := by
  induction t generalizing g with
  | nil => intro e he; cases he
  | @snoc now late g' path t h1 h2 h3 _ ih =>
    intro e he
    have q : path ++ [(now, g')] ++ [(late, g)] = path ++ [(now, g'), (late, g)] := by simp
    rw [q, moved_append] at he
    rcases List.mem_append.mp he with he | he
    · exact ih g' e he
    · rw [List.mem_singleton.mp he]; exact ⟨h2, h3⟩
theorem Tr.nodup (t : Tr E sh size now path) : (path.map (·.1) ++ [now]).Nodup := by
  induction t with
  | nil => simp
  | @snoc now late g path t h1 h2 h3 h4 ih =>
    rw [List.map_append] at h4 ⊢
    rw [List.nodup_append]
    refine ⟨by simpa using ih, by simp, ?_⟩
    intro a ha b hb
    rw [List.mem_singleton] at hb
    intro q
    subst hb
    exact h4 (q ▸ ha)
theorem Tr.isPath (t : Tr E sh size now path) {g : Int} (h : (now, g) ∈ E) (hf : 0 < fr g) : IsPath E sh fr size (path ++ [(now, g)]) g where
  head := t.head g
  lst := ⟨now, path, rfl⟩
  mem := fun e he => (List.mem_append.mp he).elim (t.mem e) fun q => by rw [List.mem_singleton.mp q]; exact h
  mv := t.mv g
  free := hf
  nodup := by rw [List.map_append]; exact t.nodup

structure BI (E : List Ed) (sh : Ed → Int) (size : Int) (W : Wt) (Kn : List Int) : Prop where
  tr : ∀ p ∈ W, Tr E sh size p.1 p.2 ∧ p.1 ∈ Kn ∧ ∀ e ∈ p.2, e.1 ∈ Kn
  nd : Kn.Nodup
  src : ∀ s ∈ Kn, s = size ∨ s ∈ E.map (·.1)
/-- how the state grows -/
structure Gr (W W' : Wt) (Kn Kn' : List Int) : Prop where
  w : ∀ p ∈ W, p ∈ W'
  k : ∀ s ∈ Kn, s ∈ Kn'
  new : ∀ s ∈ Kn', s ∈ Kn ∨ s ∈ W'.map (·.1)
  len : W'.length + Kn.length = W.length + Kn'.length
theorem Gr.refl {W : Wt} {Kn : List Int} : Gr W W Kn Kn := ⟨fun _ h => h, fun _ h => h, fun _ h => .inl h, rfl⟩
theorem Gr.trans {W W1 W2 : Wt} {K K1 K2 : List Int} (a : Gr W W1 K K1) (b : Gr W1 W2 K1 K2) : Gr W W2 K K2 where
  w := fun p h => b.w p (a.w p h)
  k := fun s h => b.k s (a.k s h)
  new := fun s h => by
    rcases b.new s h with h | h
    · rcases a.new s h with h | h
      · exact .inl h
      · obtain ⟨p, hp, e⟩ := List.mem_map.mp h
        exact .inr (List.mem_map.mpr ⟨p, b.w p hp, e⟩)
    · exact .inr h
  len := by have := a.len; have := b.len; omega

theorem step1_ok {g : Int} (t : Tr E sh size now path) (hE : (now, g) ∈ E) {st : Wt × List Int} (I : BI E sh size st.1 st.2) (hn : now ∈ st.2) (hp : ∀ e ∈ path, e.1 ∈ st.2) {e : Ed} (he : e ∈ E) :
    BI E sh size (step1 sh now path g st e).1 (step1 sh now path g st e).2 ∧ Gr st.1 (step1 sh now path g st e).1 st.2 (step1 sh now path g st e).2 ∧ (e.2 = g → 0 < sh e → e.1 ∈ (step1 sh now path g st e).2) := by
  unfold step1
  by_cases c : e.2 = g ∧ e.1 ∉ st.2 ∧ 0 < sh e
  · rw [if_pos c]
    obtain ⟨c1, c2, c3⟩ := c
    obtain ⟨l, g'⟩ := e
    subst c1
    have all : ∀ f ∈ path ++ [(now, g')], f.1 ∈ st.2 := fun f hf => (List.mem_append.mp hf).elim (hp f) fun q => by rw [List.mem_singleton.mp q]; exact hn
    refine ⟨⟨fun p hp' => ?_, ?_, fun s hs => ?_⟩, ⟨fun p h => List.mem_append_left _ h, fun s h => List.mem_append_left _ h, fun s h => ?_, ?_⟩, fun _ _ => List.mem_append_right _ (List.mem_singleton.mpr rfl)⟩
    · rcases List.mem_append.mp hp' with q | q
      · obtain ⟨h1, h2, h3⟩ := I.tr p q
        exact ⟨h1, List.mem_append_left _ h2, fun f hf => List.mem_append_left _ (h3 f hf)⟩
      · rw [List.mem_singleton.mp q]
        refine ⟨.snoc t hE he c3 ?_, List.mem_append_right _ (List.mem_singleton.mpr rfl), fun f hf => List.mem_append_left _ (all f hf)⟩
        intro z
        obtain ⟨f, hf, e⟩ := List.mem_map.mp z
        exact c2 (by have := all f hf; rwa [e] at this)
    · show (st.2 ++ [l]).Nodup
      rw [List.nodup_append]
      refine ⟨I.nd, by simp, fun a ha b hb => ?_⟩
      rw [List.mem_singleton] at hb
      intro q
      subst hb
      exact c2 (q ▸ ha)
    · rcases List.mem_append.mp hs with q | q
      · exact I.src s q
      · rw [List.mem_singleton.mp q]; exact .inr (List.mem_map_of_mem (f := (·.1)) he)
    · rcases List.mem_append.mp h with q | q
      · exact .inl q
      · rw [List.mem_singleton.mp q]; exact .inr (by simp)
    · simp; omega
  · rw [if_neg c]
    refine ⟨I, Gr.refl, fun h1 h2 => ?_⟩
    by_cases q : e.1 ∈ st.2
    · exact q
    · exact absurd ⟨h1, q, h2⟩ c
theorem fold1_ok {g : Int} (t : Tr E sh size now path) (hE : (now, g) ∈ E) : ∀ (L : List Ed), (∀ e ∈ L, e ∈ E) → ∀ st : Wt × List Int, BI E sh size st.1 st.2 → now ∈ st.2 → (∀ e ∈ path, e.1 ∈ st.2) →
    BI E sh size (L.foldl (step1 sh now path g) st).1 (L.foldl (step1 sh now path g) st).2 ∧ Gr st.1 (L.foldl (step1 sh now path g) st).1 st.2 (L.foldl (step1 sh now path g) st).2 ∧ ∀ e ∈ L, e.2 = g → 0 < sh e → e.1 ∈ (L.foldl (step1 sh now path g) st).2
  | [], _, st, I, _, _ => ⟨I, Gr.refl, fun _ h => nomatch h⟩
  | f :: L, hL, st, I, hn, hp => by
    obtain ⟨I1, G1, m1⟩ := step1_ok t hE I hn hp (hL f (by simp))
    obtain ⟨I2, G2, m2⟩ := fold1_ok t hE L (fun e he => hL e (by simp [he])) _ I1 (G1.k _ hn) (fun e he => G1.k _ (hp e he))
    rw [List.foldl_cons]
    refine ⟨I2, G1.trans G2, fun e he h1 h2 => ?_⟩
    rcases List.mem_cons.mp he with q | q
    · subst q; exact G2.k _ (m1 h1 h2)
    · exact m2 e q h1 h2
theorem fold2_ok (t : Tr E sh size now path) : ∀ (L : List Ed), (∀ e ∈ L, e ∈ E) → ∀ st : Wt × List Int, BI E sh size st.1 st.2 → now ∈ st.2 → (∀ e ∈ path, e.1 ∈ st.2) →
    BI E sh size (L.foldl (step2 E sh now path) st).1 (L.foldl (step2 E sh now path) st).2 ∧ Gr st.1 (L.foldl (step2 E sh now path) st).1 st.2 (L.foldl (step2 E sh now path) st).2 ∧
      ∀ e ∈ L, e.1 = now → ∀ e' ∈ E, e'.2 = e.2 → 0 < sh e' → e'.1 ∈ (L.foldl (step2 E sh now path) st).2
  | [], _, st, I, _, _ => ⟨I, Gr.refl, fun _ h => nomatch h⟩
  | f :: L, hL, st, I, hn, hp => by
    have one : BI E sh size (step2 E sh now path st f).1 (step2 E sh now path st f).2 ∧ Gr st.1 (step2 E sh now path st f).1 st.2 (step2 E sh now path st f).2 ∧ (f.1 = now → ∀ e' ∈ E, e'.2 = f.2 → 0 < sh e' → e'.1 ∈ (step2 E sh now path st f).2) := by
      unfold step2
      by_cases c : f.1 = now
      · rw [if_pos c]
        have hf : (now, f.2) ∈ E := by
          have := hL f (by simp)
          rwa [show f = (now, f.2) from by rw [← c]] at this
        obtain ⟨I1, G1, m1⟩ := fold1_ok t hf E (fun _ h => h) st I hn hp
        exact ⟨I1, G1, fun _ => m1⟩
      · rw [if_neg c]
        exact ⟨I, Gr.refl, fun h => absurd h c⟩
    obtain ⟨I1, G1, m1⟩ := one
    obtain ⟨I2, G2, m2⟩ := fold2_ok t L (fun e he => hL e (by simp [he])) _ I1 (G1.k _ hn) (fun e he => G1.k _ (hp e he))
    rw [List.foldl_cons]
    refine ⟨I2, G1.trans G2, fun e he h1 e' he' h2 h3 => ?_⟩
    rcases List.mem_cons.mp he with q | q
    · subst q; exact G2.k _ (m1 h1 e' he' h2 h3)
    · exact m2 e q h1 e' he' h2 h3

/-- what is known of a name whose turn is over -/
def Shut (E : List Ed) (sh : Ed → Int) (fr : Int → Int) (Kn : List Int) (s : Int) : Prop :=
  ∀ e ∈ E, e.1 = s → ¬ 0 < fr e.2 ∧ ∀ e' ∈ E, e'.2 = e.2 → 0 < sh e' → e'.1 ∈ Kn
theorem length_le_of_nodup {α : Type} [DecidableEq α] : ∀ {l m : List α}, l.Nodup → (∀ a ∈ l, a ∈ m) → l.length ≤ m.length
  | [], _, _, _ => Nat.zero_le _
  | a :: l, m, hn, hs => by
    rw [List.nodup_cons] at hn
    have ha : a ∈ m := hs a (by simp)
    have := length_le_of_nodup (l := l) (m := m.erase a) hn.2 fun b hb => by
      have hb' : b ≠ a := fun z => hn.1 (z ▸ hb)
      exact (List.mem_erase_of_ne hb').mpr (hs b (by simp [hb]))
    rw [List.length_erase_of_mem ha] at this
    have h0 : 0 < m.length := List.length_pos_of_mem ha
    simp only [List.length_cons]
    omega
/-- the search ends: with a path, or with a closed set of names -/
theorem bfs_ok (S : List Int) (hS : ∀ e ∈ E, e.1 ∈ S) (hz : size ∈ S) : ∀ (n : Nat) (W : Wt) (Kn : List Int), BI E sh size W Kn → size ∈ Kn → (∀ s ∈ Kn, s ∈ W.map (·.1) ∨ Shut E sh fr Kn s) → W.length + S.length ≤ n + Kn.length →
    ∃ P, bfs E sh fr n W Kn = some P ∧ ((∃ last, IsPath E sh fr size P last) ∨ ∃ R : List Int, R.Nodup ∧ size ∈ R ∧ (∀ s ∈ R, s = size ∨ s ∈ E.map (·.1)) ∧ ∀ s ∈ R, Shut E sh fr R s)
  | n, [], Kn, I, hs, hc, hm => by
    refine ⟨[], by cases n <;> rfl, .inr ⟨Kn, I.nd, hs, I.src, fun s h => ?_⟩⟩
    rcases hc s h with q | q
    · cases q
    · exact q
  | 0, w :: W, Kn, I, hs, hc, hm => by
    have := length_le_of_nodup I.nd (m := S) fun s h => by
      rcases I.src s h with q | q
      · rw [q]; exact hz
      · obtain ⟨e, he, z⟩ := List.mem_map.mp q
        rw [← z]; exact hS e he
    simp only [List.length_cons] at hm
    omega
  | n + 1, (now, path) :: W, Kn, I, hs, hc, hm => by
    obtain ⟨t, hk, hpk⟩ := I.tr (now, path) (by simp)
    unfold bfs
    cases hh : hit E fr now with
    | some e =>
      have h1 := List.mem_of_find?_eq_some hh
      have h2 := List.find?_some hh
      simp only [Bool.and_eq_true, decide_eq_true_eq] at h2
      have h3 : (now, e.2) ∈ E := by rwa [show e = (now, e.2) from by rw [← h2.1]] at h1
      exact ⟨_, rfl, .inl ⟨e.2, t.isPath h3 h2.2⟩⟩
    | none =>
      have hno : ∀ e ∈ E, e.1 = now → ¬ 0 < fr e.2 := fun e he h1 h2 => by
        have := List.find?_eq_none.mp hh e he
        simp [h1, h2] at this
      have I0 : BI E sh size W Kn := ⟨fun p hp => I.tr p (by simp [hp]), I.nd, I.src⟩
      obtain ⟨I1, G1, m1⟩ := fold2_ok t E (fun _ h => h) (W, Kn) I0 hk hpk
      have I1 : BI E sh size (grow E sh now path (W, Kn)).1 (grow E sh now path (W, Kn)).2 := I1
      have G1 : Gr W (grow E sh now path (W, Kn)).1 Kn (grow E sh now path (W, Kn)).2 := G1
      have m1 : ∀ e ∈ E, e.1 = now → ∀ e' ∈ E, e'.2 = e.2 → 0 < sh e' → e'.1 ∈ (grow E sh now path (W, Kn)).2 := m1
      generalize hg : grow E sh now path (W, Kn) = st at I1 G1 m1 ⊢
      have hlen := G1.len
      refine bfs_ok S hS hz n st.1 st.2 I1 (G1.k _ hs) (fun s h => ?_) (by simp only [List.length_cons] at hm; omega)
      rcases G1.new s h with q | q
      · rcases hc s q with z | z
        · rw [List.map_cons, List.mem_cons] at z
          rcases z with z | z
          · refine .inr fun e he h1 => ?_
            rw [z] at h1
            exact ⟨hno e he h1, m1 e he h1⟩
          · obtain ⟨p, hp, e⟩ := List.mem_map.mp z
            exact .inl (List.mem_map.mpr ⟨p, G1.w p hp, e⟩)
        · exact .inr fun e he h1 => ⟨(z e he h1).1, fun e' he' h2 h3 => G1.k _ ((z e he h1).2 e' he' h2 h3)⟩
      · exact .inl q
end
end K64
/-! K64 mathematics, part 3: what the program computes, as plain functions; Hall. -/
namespace K64
def SIZES : List Int := [2, 3, 4, 5, 7, 8, 9, 11, 13, 16, 17, 19, 23, 25, 27, 29, 31, 32, 37, 41, 43, 47, 49, 53, 59, 61, 64]
/-- the divisors from 2 on -/
def divs (n : Int) : List Int := ((List.range (n - 1).toNat).map fun (i : Nat) => 2 + (i : Int)).filter fun p => decide (n % p = 0)
def pr (n : Int) : Int := (divs n).headD 0
def dg (n : Int) : Int :=
  if n = 4 ∨ n = 9 ∨ n = 25 ∨ n = 49 then 2 else if n = 8 ∨ n = 27 then 3 else if n = 16 then 4 else if n = 32 then 5 else if n = 64 then 6 else 1
def lies (a b : Int) : Bool := decide (pr a = pr b) && decide (dg b % dg a = 0)
theorem sizes_ok : ∀ s ∈ SIZES, s = pr s ^ (dg s).toNat ∧ 1 ≤ dg s ∧ dg s ≤ 6 ∧ 2 ≤ pr s ∧ pr s ≤ 61 ∧ 2 ≤ s ∧ s ≤ 64 := by decide +kernel
theorem lies_pr {a b : Int} (h : lies a b = true) : pr a = pr b := by
  unfold lies at h
  simp only [Bool.and_eq_true, decide_eq_true_eq] at h
  exact h.1

abbrev Pr := Int × Int
abbrev keys (A : List Pr) : List Int := A.map (·.1)
def cnt (A : List Pr) (s : Int) : Int := tot (fun p => if p.1 = s then p.2 else 0) A
def need (S : List Int) (A : List Pr) : Int := tot (fun p => if p.1 ∈ S then p.2 else 0) A
def room (S : List Int) (B : List Pr) : Int := tot (fun p => if (S.any fun s => lies s p.1) = true then p.2 else 0) B
def edges (A B : List Pr) : List Ed := A.flatMap fun a => (B.filter fun b => lies a.1 b.1).map fun b => (a.1, b.1)
def mn : List Int → Int
  | [] => 0
  | [a] => a
  | a :: b :: l => min a (mn (b :: l))
theorem mn_mem : ∀ {l : List Int}, l ≠ [] → mn l ∈ l
  | [], h => absurd rfl h
  | [a], _ => by simp [mn]
  | a :: b :: l, _ => by
    have ih := mn_mem (l := b :: l) (by simp)
    show min a (mn (b :: l)) ∈ a :: b :: l
    by_cases h : a ≤ mn (b :: l)
    · rw [Int.min_eq_left h]; simp
    · rw [Int.min_eq_right (by omega)]; exact List.mem_cons_of_mem _ ih
theorem mn_le : ∀ {l : List Int} {x : Int}, x ∈ l → mn l ≤ x
  | [], x, h => by cases h
  | [a], x, h => by simp at h; subst h; simp [mn]
  | a :: b :: l, x, h => by
    show min a (mn (b :: l)) ≤ x
    rcases List.mem_cons.mp h with q | q
    · subst q; exact Int.min_le_left _ _
    · exact Int.le_trans (Int.min_le_right _ _) (mn_le q)
theorem mn_eq {l : List Int} {m : Int} (h : m ∈ l) (hle : ∀ x ∈ l, m ≤ x) : m = mn l := by
  have h1 := mn_le h
  have h2 := hle _ (mn_mem (l := l) (by intro z; rw [z] at h; cases h))
  omega

def use (E : List Ed) (N : Nat) (st : GS) (s : Int) : Option GS :=
  match bfs E st.sh st.fr N [(s, [])] [s] with
  | none => none
  | some P => match P.getLast? with
    | none => none
    | some e => some (st.push s P e.2 (mn (st.nd s :: st.fr e.2 :: (moved P).map st.sh)))
def drain (E : List Ed) (N : Nat) (s : Int) : Nat → GS → Option GS
  | 0, st => if 0 < st.nd s then none else some st
  | n + 1, st => if 0 < st.nd s then (use E N st s).bind (drain E N s n) else some st
def drains (E : List Ed) (N : Nat) : List Int → GS → Option GS
  | [], st => some st
  | s :: l, st => (drain E N s (st.nd s).toNat st).bind (drains E N l)
def least (E : List Ed) (g : Int) : Int := mn ((E.filter fun e => decide (e.2 = g)).map (·.1))
def fin (E : List Ed) (fr : Int → Int) (gs : List Int) (sh : Ed → Int) : Ed → Int := gs.foldl (fun f g => bump f (least E g, g) (fr g)) sh
abbrev Tri := Int × Int × Int
def tris (E : List Ed) (sh : Ed → Int) : List Tri := E.map fun e => (e.1, e.2, sh e)
def st0 (A B : List Pr) : GS := ⟨cnt A, cnt B, fun _ => 0⟩
def giv (A B : List Pr) : Option (List Tri) := (drains (edges A B) (A.length + 1) (keys A) (st0 A B)).map fun st => tris (edges A B) (fin (edges A B) st.fr (keys B) st.sh)

def lots (l : List Int) : List (List Int) := l.foldl (fun f s => f ++ f.map fun r => r ++ [s]) [[]]
def chosen (l : List Int) : List (List Int) := (lots l).drop 1
def primes (A : List Pr) : List Int := ((List.range 62).map fun (i : Nat) => (i : Int)).filter fun p => A.any fun q => decide (pr q.1 = p)
def few (A B : List Pr) : Option (List Int) :=
  (primes A).findSome? fun p => (chosen ((keys A).filter fun s => decide (pr s = p))).find? fun S => decide (room S B < tot (cnt A) S)
inductive Res where
  | emb (rows : List Tri) | none (g : Int) | few (S : List Int)
def bare (A B : List Pr) : Option Int := (B.find? fun p => !(A.any fun q => lies q.1 p.1)).map (·.1)
def embF (A B : List Pr) : Option Res :=
  match bare A B with
  | some g => some (.none g)
  | none => match few A B with
    | some S => some (.few S)
    | none => (giv A B).map fun rows => .emb (rows.filter fun r => decide (0 < r.2.2))

/-- a shape, its sizes ascending -/
structure Shp (A : List Pr) : Prop where
  srt : A.Pairwise fun a b => a.1 < b.1
  pos : ∀ p ∈ A, 1 ≤ p.2
  sz : ∀ p ∈ A, p.1 ∈ SIZES

theorem Shp.nodup {A : List Pr} (h : Shp A) : (keys A).Nodup := by
  show (A.map (·.1)).Pairwise (· ≠ ·)
  rw [List.pairwise_map]
  exact h.srt.imp fun h => by omega
theorem cnt_of {A : List Pr} (hn : (keys A).Nodup) {p : Pr} (hp : p ∈ A) : cnt A p.1 = p.2 := tot_one (fun p : Pr => p.1) (fun p => p.2) hn hp

theorem mem_edges {A B : List Pr} {e : Ed} : e ∈ edges A B ↔ e.1 ∈ keys A ∧ e.2 ∈ keys B ∧ lies e.1 e.2 = true := by
  unfold edges keys
  constructor
  · intro h
    obtain ⟨a, ha, h⟩ := List.mem_flatMap.mp h
    obtain ⟨b, hb, rfl⟩ := List.mem_map.mp h
    obtain ⟨hb, hl⟩ := List.mem_filter.mp hb
    exact ⟨List.mem_map_of_mem (f := (·.1)) ha, List.mem_map_of_mem (f := (·.1)) hb, hl⟩
  · rintro ⟨h1, h2, h3⟩
    obtain ⟨a, ha, e1⟩ := List.mem_map.mp h1
    obtain ⟨b, hb, e2⟩ := List.mem_map.mp h2
    obtain ⟨x, y⟩ := e
    have e1 : a.1 = x := e1
    have e2 : b.1 = y := e2
    subst e1 e2
    exact List.mem_flatMap.mpr ⟨a, ha, List.mem_map.mpr ⟨b, List.mem_filter.mpr ⟨hb, h3⟩, rfl⟩⟩
def lexE (e f : Ed) : Prop := e.1 < f.1 ∨ (e.1 = f.1 ∧ e.2 < f.2)
theorem edges_srt {A B : List Pr} (hA : A.Pairwise fun a b => a.1 < b.1) (hB : B.Pairwise fun a b => a.1 < b.1) : (edges A B).Pairwise lexE := by
  unfold edges
  induction A with
  | nil => exact .nil
  | cons a A ih =>
    rw [List.flatMap_cons, List.pairwise_append]
    rw [List.pairwise_cons] at hA
    refine ⟨?_, ih hA.2, ?_⟩
    · rw [List.pairwise_map]
      exact (hB.filter _).imp fun h => .inr ⟨rfl, h⟩
    · intro e he f hf
      obtain ⟨b, _, rfl⟩ := List.mem_map.mp he
      obtain ⟨a', ha', hf⟩ := List.mem_flatMap.mp hf
      obtain ⟨b', _, rfl⟩ := List.mem_map.mp hf
      exact .inl (hA.1 a' ha')
theorem edges_nodup {A B : List Pr} (hA : Shp A) (hB : Shp B) : (edges A B).Nodup := by
  refine (edges_srt hA.srt hB.srt).imp fun {e f} h q => ?_
  subst q
  rcases h with h | h <;> omega

/-! ### the choices -/
theorem mem_lots_aux {S : List Int} : ∀ (l : List Int) (F : List (List Int)), S ∈ l.foldl (fun f s => f ++ f.map fun r => r ++ [s]) F ↔ ∃ T ∈ F, ∃ U, U.Sublist l ∧ S = T ++ U
  | [], F => by
    constructor
    · intro h; exact ⟨S, h, [], .slnil, by simp⟩
    · rintro ⟨T, hT, U, hU, rfl⟩
      rw [List.sublist_nil.mp hU]; simpa using hT
  | s :: l, F => by
    rw [List.foldl_cons, mem_lots_aux l]
    constructor
    · rintro ⟨T, hT, U, hU, rfl⟩
      rcases List.mem_append.mp hT with h | h
      · exact ⟨T, h, U, hU.cons _, rfl⟩
      · obtain ⟨T', hT', rfl⟩ := List.mem_map.mp h
        exact ⟨T', hT', s :: U, hU.cons_cons _, by simp⟩
    · rintro ⟨T, hT, U, hU, rfl⟩
      cases hU with
      | cons _ h => exact ⟨T, List.mem_append_left _ hT, U, h, rfl⟩
      | cons_cons _ h => exact ⟨T ++ [s], List.mem_append_right _ (List.mem_map_of_mem hT), _, h, by simp⟩
theorem mem_lots {S l : List Int} : S ∈ lots l ↔ S.Sublist l := by
  unfold lots
  rw [mem_lots_aux]
  constructor
  · rintro ⟨T, hT, U, hU, rfl⟩
    rw [List.mem_singleton.mp hT]; simpa using hU
  · intro h
    exact ⟨[], by simp, S, h, by simp⟩
theorem lots_head (l : List Int) : ∃ r, lots l = [] :: r ∧ ∀ S ∈ r, S ≠ [] := by
  have aux : ∀ (l : List Int) (F : List (List Int)), (∃ r, F = [] :: r ∧ ∀ S ∈ r, S ≠ []) → ∃ r, l.foldl (fun f s => f ++ f.map fun r => r ++ [s]) F = [] :: r ∧ ∀ S ∈ r, S ≠ [] := by
    intro l
    induction l with
    | nil => intro F h; exact h
    | cons s l ih =>
      rintro F ⟨r, rfl, hr⟩
      refine ih _ ⟨r ++ ([] :: r).map (fun r => r ++ [s]), rfl, fun S hS => ?_⟩
      rcases List.mem_append.mp hS with h | h
      · exact hr S h
      · obtain ⟨T, _, rfl⟩ := List.mem_map.mp h
        simp
  exact aux l _ ⟨[], rfl, fun _ h => nomatch h⟩
theorem mem_chosen {S l : List Int} : S ∈ chosen l ↔ S.Sublist l ∧ S ≠ [] := by
  obtain ⟨r, e, hr⟩ := lots_head l
  have h1 : chosen l = r := by unfold chosen; rw [e]; rfl
  rw [h1, ← mem_lots, e]
  constructor
  · intro h; exact ⟨List.mem_cons_of_mem _ h, hr S h⟩
  · rintro ⟨h, hn⟩
    rcases List.mem_cons.mp h with q | q
    · exact absurd q hn
    · exact q
theorem tot_cnt {A : List Pr} {S : List Int} (hS : S.Nodup) : tot (cnt A) S = need S A := by
  unfold need
  show tot (fun s => tot (fun p => if p.1 = s then p.2 else 0) A) S = _
  rw [tot_swap]
  refine tot_congr fun p _ => ?_
  by_cases h : p.1 ∈ S
  · rw [if_pos h]
    refine Eq.trans (tot_congr fun s _ => ?_) (tot_one (fun s : Int => s) (fun _ => p.2) (l := S) (by simpa using hS) h)
    by_cases q : p.1 = s
    · rw [if_pos q, if_pos q.symm]
    · rw [if_neg q, if_neg fun z => q z.symm]
  · rw [if_neg h]
    exact tot_zero fun s hs => if_neg fun q => h (by rw [q]; exact hs)

/-! ### Hall -/
/-- a closed set of names has too little room -/
theorem closed_bars {A B : List Pr} (hA : Shp A) (hB : Shp B) {st : GS} (F : Fl A B (edges A B) st) {size : Int} (hs : size ∈ keys A) (h0 : 0 < st.nd size) {R : List Int} (hz : size ∈ R) (hR : ∀ s ∈ R, s = size ∨ s ∈ (edges A B).map (·.1))
    (hsh : ∀ s ∈ R, Shut (edges A B) st.sh st.fr R s) : room R B < need R A := by
  have hRA : ∀ s ∈ R, s ∈ keys A := fun s h => by
    rcases hR s h with q | q
    · rw [q]; exact hs
    · obtain ⟨e, he, rfl⟩ := List.mem_map.mp q
      exact (mem_edges.mp he).1
  -- the greats that the set reaches
  have e1 : room R B = tot (fun p => if (R.any fun s => lies s p.1) = true then col (edges A B) st.sh p.1 else 0) B := by
    refine tot_congr fun p hp => ?_
    by_cases c : (R.any fun s => lies s p.1) = true
    · rw [if_pos c, if_pos c]
      obtain ⟨s, hsR, hl⟩ := List.any_eq_true.mp c
      have he : (s, p.1) ∈ edges A B := mem_edges.mpr ⟨hRA s hsR, List.mem_map_of_mem hp, hl⟩
      have h1 := (hsh s hsR _ he rfl).1
      have h2 := F.fr p hp
      have h3 := F.fr0 p hp
      have h1 : ¬ 0 < st.fr p.1 := h1
      omega
    · rw [if_neg c, if_neg c]
  have e2 : tot (fun p => if (R.any fun s => lies s p.1) = true then col (edges A B) st.sh p.1 else 0) B = tot (fun e => if e.1 ∈ R then st.sh e else 0) (edges A B) := by
    have : ∀ p : Pr, (if (R.any fun s => lies s p.1) = true then col (edges A B) st.sh p.1 else 0) = tot (fun e => if (R.any fun s => lies s p.1) = true ∧ e.2 = p.1 then st.sh e else 0) (edges A B) := fun p => by
      by_cases c : (R.any fun s => lies s p.1) = true
      · rw [if_pos c]
        exact tot_congr fun e _ => by simp [c]
      · rw [if_neg c]
        exact (tot_zero fun e _ => if_neg fun q => c q.1).symm
    rw [tot_congr (fun p _ => this p), tot_swap]
    refine tot_congr fun e he => ?_
    obtain ⟨he1, he2, hel⟩ := mem_edges.mp he
    obtain ⟨p, hp, hpe⟩ := List.mem_map.mp he2
    have single : tot (fun q : Pr => if (R.any fun s => lies s q.1) = true ∧ e.2 = q.1 then st.sh e else 0) B = if (R.any fun s => lies s e.2) = true then st.sh e else 0 := by
      by_cases c : (R.any fun s => lies s e.2) = true
      · rw [if_pos c]
        refine Eq.trans (tot_congr fun q _ => ?_) (tot_one (fun p : Pr => p.1) (fun _ => st.sh e) hB.nodup hp)
        have hpe : p.1 = e.2 := hpe
        show _ = if q.1 = p.1 then st.sh e else 0
        rw [hpe]
        by_cases z : q.1 = e.2
        · rw [if_pos z, if_pos ⟨by rw [z]; exact c, z.symm⟩]
        · rw [if_neg z, if_neg fun w => z w.2.symm]
      · rw [if_neg c]
        refine tot_zero fun q _ => if_neg fun w => c ?_
        rw [w.2]; exact w.1
    rw [single]
    by_cases c : e.1 ∈ R
    · rw [if_pos c, if_pos]
      exact List.any_eq_true.mpr ⟨e.1, c, hel⟩
    · rw [if_neg c]
      by_cases d : (R.any fun s => lies s e.2) = true
      · rw [if_pos d]
        obtain ⟨s, hsR, hl⟩ := List.any_eq_true.mp d
        have hf : (s, e.2) ∈ edges A B := mem_edges.mpr ⟨hRA s hsR, he2, hl⟩
        have h1 := (hsh s hsR _ hf rfl).2 e he rfl
        have h2 := F.sh0 e he
        by_cases z : 0 < st.sh e
        · exact absurd (h1 z) c
        · omega
      · rw [if_neg d]
  have e3 : tot (fun e => if e.1 ∈ R then st.sh e else 0) (edges A B) = tot (fun p => if p.1 ∈ R then row (edges A B) st.sh p.1 else 0) A := by
    have : ∀ p : Pr, (if p.1 ∈ R then row (edges A B) st.sh p.1 else 0) = tot (fun e => if p.1 ∈ R ∧ e.1 = p.1 then st.sh e else 0) (edges A B) := fun p => by
      by_cases c : p.1 ∈ R
      · rw [if_pos c]
        exact tot_congr fun e _ => by simp [c]
      · rw [if_neg c]
        exact (tot_zero fun e _ => if_neg fun q => c q.1).symm
    rw [tot_congr (fun p _ => this p), tot_swap]
    refine tot_congr fun e he => ?_
    obtain ⟨p, hp, hpe⟩ := List.mem_map.mp (mem_edges.mp he).1
    have hpe : p.1 = e.1 := hpe
    by_cases c : e.1 ∈ R
    · rw [if_pos c]
      refine Eq.symm (Eq.trans (tot_congr fun q _ => ?_) (tot_one (fun p : Pr => p.1) (fun _ => st.sh e) hA.nodup hp))
      show _ = if q.1 = p.1 then st.sh e else 0
      rw [hpe]
      by_cases z : q.1 = e.1
      · rw [if_pos z, if_pos ⟨by rw [z]; exact c, z.symm⟩]
      · rw [if_neg z, if_neg fun w => z w.2.symm]
    · rw [if_neg c]
      exact (tot_zero fun q _ => if_neg fun w => c (by rw [w.2]; exact w.1)).symm
  rw [e1, e2, e3]
  unfold need
  obtain ⟨p, hp, hpe⟩ := List.mem_map.mp hs
  have hpe : p.1 = size := hpe
  refine tot_lt (b := p) (fun q hq => ?_) hp ?_
  · have := F.nd q hq
    have := F.nd0 q hq
    split <;> omega
  · have := F.nd p hp
    rw [hpe] at this ⊢
    rw [if_pos hz, if_pos hz]
    omega
/-- where no choice of one prime has too little room, no set of names of one prime has -/
theorem no_few {A B : List Pr} (hA : Shp A) (h : few A B = none) {R : List Int} {size : Int} (hs : size ∈ keys A) (hz : size ∈ R) (hR : ∀ s ∈ R, s ∈ keys A ∧ pr s = pr size) : need R A ≤ room R B := by
  have hS : (((keys A).filter fun s => decide (pr s = pr size)).filter fun s => decide (s ∈ R)) ∈ chosen ((keys A).filter fun s => decide (pr s = pr size)) := by
    rw [mem_chosen]
    refine ⟨List.filter_sublist, fun q => ?_⟩
    have : size ∈ (((keys A).filter fun s => decide (pr s = pr size)).filter fun s => decide (s ∈ R)) := by simp [hz, hs]
    rw [q] at this; cases this
  generalize hT : (((keys A).filter fun s => decide (pr s = pr size)).filter fun s => decide (s ∈ R)) = T at hS
  have mT : ∀ s, s ∈ T ↔ s ∈ R := fun s => by
    rw [← hT]
    constructor
    · intro q; simpa using (List.mem_filter.mp q).2
    · intro q
      have := hR s q
      refine List.mem_filter.mpr ⟨List.mem_filter.mpr ⟨this.1, by simp [this.2]⟩, by simp [q]⟩
  have hp : pr size ∈ primes A := by
    obtain ⟨p, hp, e⟩ := List.mem_map.mp hs
    have e : p.1 = size := e
    have := sizes_ok size (e ▸ hA.sz p hp)
    refine List.mem_filter.mpr ⟨List.mem_map.mpr ⟨(pr size).toNat, List.mem_range.mpr (by omega), by omega⟩, List.any_eq_true.mpr ⟨p, hp, by simp [e]⟩⟩
  have h1 := List.findSome?_eq_none_iff.mp h _ hp
  have h2 := List.find?_eq_none.mp h1 T hS
  have nT : T.Nodup := by
    rw [← hT]
    exact (hA.nodup.sublist List.filter_sublist).sublist List.filter_sublist
  rw [tot_cnt nT] at h2
  have a1 : need T A = need R A := tot_congr fun p _ => by simp [mT]
  have a2 : room T B = room R B := tot_congr fun p _ => by
    have : (T.any fun s => lies s p.1) = (R.any fun s => lies s p.1) := by
      rw [Bool.eq_iff_iff, List.any_eq_true, List.any_eq_true]
      simp [mT]
    rw [this]
  rw [a1, a2] at h2
  simpa using h2
end K64
/-! K64 mathematics, part 4: the whole of the giving; an embedding's rows. -/
namespace K64
structure VE (A B : List Pr) (rows : List Tri) : Prop where
  srt : rows.Pairwise fun r q => r.1 < q.1 ∨ (r.1 = q.1 ∧ r.2.1 < q.2.1)
  row : ∀ r ∈ rows, lies r.1 r.2.1 = true ∧ 1 ≤ r.2.2 ∧ r.1 ∈ keys A ∧ r.2.1 ∈ keys B
  used : ∀ p ∈ A, p.2 ≤ tot (fun r => if r.1 = p.1 then r.2.2 else 0) rows
  given : ∀ p ∈ B, tot (fun r => if r.2.1 = p.1 then r.2.2 else 0) rows = p.2

theorem use_ok {A B : List Pr} (hA : Shp A) (hB : Shp B) (hf : few A B = none) {st : GS} (F : Fl A B (edges A B) st) {s : Int} (hs : s ∈ keys A) (h0 : 0 < st.nd s) :
    ∃ P last st', bfs (edges A B) st.sh st.fr (A.length + 1) [(s, [])] [s] = some P ∧ IsPath (edges A B) st.sh st.fr s P last ∧ st' = st.push s P last (mn (st.nd s :: st.fr last :: (moved P).map st.sh)) ∧
      use (edges A B) (A.length + 1) st s = some st' ∧ Fl A B (edges A B) st' ∧ st'.nd s < st.nd s ∧ ∀ k, k ≠ s → st'.nd k = st.nd k := by
  have hE : ∀ e ∈ edges A B, e.1 ∈ keys A := fun e he => (mem_edges.mp he).1
  obtain ⟨P, hb, hP⟩ := bfs_ok (E := edges A B) (sh := st.sh) (fr := st.fr) (size := s) (keys A) hE hs (A.length + 1) [(s, [])] [s]
    ⟨fun p hp => by rw [List.mem_singleton.mp hp]; exact ⟨.nil, by simp, fun _ h => nomatch h⟩, by simp, fun k hk => .inl (List.mem_singleton.mp hk)⟩ (by simp) (fun k hk => .inl (by simpa using hk)) (by simp; omega)
  rcases hP with ⟨last, hP⟩ | ⟨R, _, hz, hR, hsh⟩
  · obtain ⟨sl, r, hL⟩ := hP.lst
    have hne : ∀ x ∈ (st.nd s :: st.fr last :: (moved P).map st.sh), 1 ≤ x := fun x hx => by
      simp only [List.mem_cons, List.mem_map] at hx
      rcases hx with rfl | rfl | ⟨e, he, rfl⟩
      · omega
      · have := hP.free; omega
      · have := (hP.mv e he).2; omega
    have hd : 1 ≤ mn (st.nd s :: st.fr last :: (moved P).map st.sh) := hne _ (mn_mem (by simp))
    refine ⟨P, last, _, hb, hP, rfl, ?_, F.push (edges_nodup hA hB) hP (by omega) (mn_le (by simp)) (mn_le (by simp)) (fun e he => mn_le (by simp; exact .inr (.inr ⟨e.1, e.2, he, rfl⟩))), ?_, fun k hk => ?_⟩
    · unfold use
      rw [hb]
      have : P.getLast? = some (sl, last) := by rw [hL]; simp
      simp only [this]
    · show dec st.nd s _ s < st.nd s
      unfold dec
      rw [if_pos rfl]; omega
    · show dec st.nd s _ k = st.nd k
      unfold dec
      rw [if_neg hk]
  · exfalso
    have hprE : ∀ e ∈ edges A B, pr e.1 = pr e.2 := fun e he => lies_pr (mem_edges.mp he).2.2
    have cl := closed_bars hA hB F hs h0 (R := R.filter fun k => decide (pr k = pr s)) (by simp [hz]) (fun k hk => hR k ((List.mem_filter.mp hk).1)) (fun k hk e he h1 => by
      have hk2 : pr k = pr s := by simpa using (List.mem_filter.mp hk).2
      obtain ⟨a, b⟩ := hsh k ((List.mem_filter.mp hk).1) e he h1
      refine ⟨a, fun e' he' h2 h3 => List.mem_filter.mpr ⟨b e' he' h2 h3, ?_⟩⟩
      have q1 := hprE e he
      have q2 := hprE e' he'
      rw [h2, ← q1, h1, hk2] at q2
      simpa using q2)
    have nf := no_few (B := B) hA hf hs (R := R.filter fun k => decide (pr k = pr s)) (by simp [hz]) fun k hk => by
      refine ⟨?_, by simpa using (List.mem_filter.mp hk).2⟩
      rcases hR k ((List.mem_filter.mp hk).1) with q | q
      · rw [q]; exact hs
      · obtain ⟨e, he, rfl⟩ := List.mem_map.mp q
        exact hE e he
    omega
theorem drain_ok {A B : List Pr} (hA : Shp A) (hB : Shp B) (hf : few A B = none) {s : Int} (hs : s ∈ keys A) : ∀ (n : Nat) {st : GS}, Fl A B (edges A B) st → (st.nd s).toNat ≤ n →
    ∃ st', drain (edges A B) (A.length + 1) s n st = some st' ∧ Fl A B (edges A B) st' ∧ st'.nd s = 0 ∧ ∀ k, k ≠ s → st'.nd k = st.nd k
  | n, st, F, hn => by
    have h0 : 0 ≤ st.nd s := by
      obtain ⟨p, hp, e⟩ := List.mem_map.mp hs
      rw [← show p.1 = s from e]; exact F.nd0 p hp
    by_cases c : 0 < st.nd s
    · cases n with
      | zero => omega
      | succ n =>
        obtain ⟨_, _, st1, _, _, _, hu, F1, hlt, ho⟩ := use_ok hA hB hf F hs c
        obtain ⟨st2, hd, F2, hz, ho2⟩ := drain_ok hA hB hf hs n F1 (by omega)
        refine ⟨st2, ?_, F2, hz, fun k hk => (ho2 k hk).trans (ho k hk)⟩
        unfold drain
        rw [if_pos c, hu]
        exact hd
    · refine ⟨st, ?_, F, by omega, fun _ _ => rfl⟩
      cases n <;> (unfold drain; rw [if_neg c])
theorem drains_ok {A B : List Pr} (hA : Shp A) (hB : Shp B) (hf : few A B = none) : ∀ (l : List Int), (∀ s ∈ l, s ∈ keys A) → ∀ {st : GS}, Fl A B (edges A B) st →
    ∃ st', drains (edges A B) (A.length + 1) l st = some st' ∧ Fl A B (edges A B) st' ∧ ∀ k, (k ∈ l → st'.nd k = 0) ∧ (k ∉ l → st'.nd k = st.nd k)
  | [], _, st, F => ⟨st, rfl, F, fun k => ⟨fun h => (nomatch h), fun _ => rfl⟩⟩
  | s :: l, hl, st, F => by
    obtain ⟨st1, h1, F1, z1, o1⟩ := drain_ok hA hB hf (hl s (by simp)) _ F (Nat.le_refl _)
    obtain ⟨st2, h2, F2, o2⟩ := drains_ok hA hB hf l (fun k hk => hl k (by simp [hk])) F1
    refine ⟨st2, ?_, F2, fun k => ⟨fun hk => ?_, fun hk => ?_⟩⟩
    · show (drain _ _ s _ st).bind _ = _
      rw [h1]; exact h2
    · by_cases c : k ∈ l
      · exact (o2 k).1 c
      · rw [(o2 k).2 c]
        have : k = s := by
          rcases List.mem_cons.mp hk with q | q
          · exact q
          · exact absurd q c
        rw [this]; exact z1
    · rw [List.mem_cons, not_or] at hk
      rw [(o2 k).2 hk.2, o1 k hk.1]

theorem tot_fin {E : List Ed} (hn : E.Nodup) (p : Ed → Bool) (fr : Int → Int) : ∀ (gs : List Int) (sh : Ed → Int), (∀ g ∈ gs, (least E g, g) ∈ E) →
    tot (fun x => if p x = true then fin E fr gs sh x else 0) E = tot (fun x => if p x = true then sh x else 0) E + tot (fun g => if p (least E g, g) = true then fr g else 0) gs
  | [], sh, _ => by
    show tot (fun x => if p x = true then sh x else 0) E = _
    simp
  | g :: gs, sh, h => by
    have ih := tot_fin hn p fr gs (bump sh (least E g, g) (fr g)) fun k hk => h k (by simp [hk])
    show tot (fun x => if p x = true then fin E fr gs (bump sh (least E g, g) (fr g)) x else 0) E = _
    rw [ih, tot_bump hn p sh (h g (by simp)) (fr g), tot_cons]
    omega
theorem fin_ge {E : List Ed} (fr : Int → Int) : ∀ (gs : List Int) (sh : Ed → Int) (x : Ed), (∀ g ∈ gs, 0 ≤ fr g) → sh x ≤ fin E fr gs sh x
  | [], sh, x, _ => Int.le_refl _
  | g :: gs, sh, x, h => by
    have ih := fin_ge (E := E) fr gs (bump sh (least E g, g) (fr g)) x fun k hk => h k (by simp [hk])
    show sh x ≤ fin E fr gs (bump sh (least E g, g) (fr g)) x
    have h0 := h g (by simp)
    have : sh x ≤ bump sh (least E g, g) (fr g) x := by
      unfold bump
      split
      · rename_i q; rw [q]; omega
      · omega
    omega
theorem least_mem {A B : List Pr} (hb : bare A B = none) {g : Int} (hg : g ∈ keys B) : (least (edges A B) g, g) ∈ edges A B ∧ ((edges A B).filter fun e => decide (e.2 = g)) ≠ [] := by
  obtain ⟨p, hp, e⟩ := List.mem_map.mp hg
  have e : p.1 = g := e
  have h1 := List.find?_eq_none.mp (Option.map_eq_none_iff.mp hb) p hp
  simp only [Bool.not_eq_true', Bool.not_eq_false] at h1
  obtain ⟨q, hq, hl⟩ := List.any_eq_true.mp h1
  have he : (q.1, g) ∈ edges A B := mem_edges.mpr ⟨List.mem_map_of_mem (f := (·.1)) hq, hg, by rw [← e]; exact hl⟩
  have hne : ((edges A B).filter fun e => decide (e.2 = g)) ≠ [] := fun z => by
    have : (q.1, g) ∈ (edges A B).filter fun e => decide (e.2 = g) := List.mem_filter.mpr ⟨he, by simp⟩
    rw [z] at this; cases this
  refine ⟨?_, hne⟩
  have hm : least (edges A B) g ∈ ((edges A B).filter fun e => decide (e.2 = g)).map (·.1) := mn_mem fun z => hne (List.map_eq_nil_iff.mp z)
  obtain ⟨f, hf, e2⟩ := List.mem_map.mp hm
  obtain ⟨hf, hg2⟩ := List.mem_filter.mp hf
  have hg2 : f.2 = g := by simpa using hg2
  have e2 : f.1 = least (edges A B) g := e2
  rw [← e2, ← hg2]
  exact hf
theorem tot_rows (sh : Ed → Int) (p : Int → Int → Bool) {E : List Ed} (h0 : ∀ e ∈ E, 0 ≤ sh e) :
    tot (fun r : Tri => if p r.1 r.2.1 = true then r.2.2 else 0) ((tris E sh).filter fun r => decide (0 < r.2.2)) = tot (fun e => if p e.1 e.2 = true then sh e else 0) E := by
  rw [tot_filter]
  unfold tris
  rw [tot_map]
  refine tot_congr fun e he => ?_
  have := h0 e he
  by_cases c : 0 < sh e
  · simp [c]
  · have z : sh e = 0 := by omega
    simp [z]
theorem giv_ok {A B : List Pr} (hA : Shp A) (hB : Shp B) (hb : bare A B = none) (hf : few A B = none) : ∃ T, giv A B = some T ∧ VE A B (T.filter fun r => decide (0 < r.2.2)) := by
  have F0 : Fl A B (edges A B) (st0 A B) := by
    have z1 : ∀ s, row (edges A B) (st0 A B).sh s = 0 := fun s => tot_zero fun e _ => by show (if _ then (0 : Int) else 0) = 0; split <;> rfl
    have z2 : ∀ s, col (edges A B) (st0 A B).sh s = 0 := fun s => tot_zero fun e _ => by show (if _ then (0 : Int) else 0) = 0; split <;> rfl
    refine ⟨fun p hp => ?_, fun p hp => ?_, fun p hp => ?_, fun p hp => ?_, fun e _ => Int.le_refl _⟩
    · rw [z1]; show cnt A p.1 + 0 = p.2; rw [cnt_of hA.nodup hp]; omega
    · show 0 ≤ cnt A p.1; rw [cnt_of hA.nodup hp]; have := hA.pos p hp; omega
    · rw [z2]; show cnt B p.1 + 0 = p.2; rw [cnt_of hB.nodup hp]; omega
    · show 0 ≤ cnt B p.1; rw [cnt_of hB.nodup hp]; have := hB.pos p hp; omega
  obtain ⟨st, h1, F, hz⟩ := drains_ok hA hB hf (keys A) (fun _ h => h) F0
  have hfr : ∀ g ∈ keys B, 0 ≤ st.fr g := fun g hg => by
    obtain ⟨p, hp, e⟩ := List.mem_map.mp hg
    rw [← show p.1 = g from e]; exact F.fr0 p hp
  have hl : ∀ g ∈ keys B, (least (edges A B) g, g) ∈ edges A B := fun g hg => (least_mem hb hg).1
  have h0 : ∀ e ∈ edges A B, 0 ≤ fin (edges A B) st.fr (keys B) st.sh e := fun e he => by
    have := F.sh0 e he
    have := fin_ge (E := edges A B) st.fr (keys B) st.sh e hfr
    omega
  refine ⟨tris (edges A B) (fin (edges A B) st.fr (keys B) st.sh), by unfold giv; rw [h1]; rfl, ⟨?_, ?_, ?_, ?_⟩⟩
  · refine List.Pairwise.filter _ ?_
    unfold tris
    rw [List.pairwise_map]
    exact (edges_srt hA.srt hB.srt).imp fun h => h
  · intro r hr
    obtain ⟨hr, hp⟩ := List.mem_filter.mp hr
    obtain ⟨e, he, rfl⟩ := List.mem_map.mp hr
    obtain ⟨q1, q2, q3⟩ := mem_edges.mp he
    have hp : 0 < fin (edges A B) st.fr (keys B) st.sh e := by simpa using hp
    exact ⟨q3, by show 1 ≤ fin (edges A B) st.fr (keys B) st.sh e; omega, q1, q2⟩
  · intro p hp
    have q := tot_rows (fin (edges A B) st.fr (keys B) st.sh) (fun a _ => decide (a = p.1)) h0
    have q2 := tot_fin (edges_nodup hA hB) (fun e => decide (e.1 = p.1)) st.fr (keys B) st.sh hl
    simp only [decide_eq_true_eq] at q q2
    rw [q, q2]
    have h3 := F.nd p hp
    rw [(hz p.1).1 (List.mem_map_of_mem (f := (·.1)) hp)] at h3
    have h4 : 0 ≤ tot (fun g => if least (edges A B) g = p.1 then st.fr g else 0) (keys B) := tot_nonneg fun g hg => by
      have := hfr g hg
      split <;> omega
    have h5 : row (edges A B) st.sh p.1 = tot (fun x => if x.1 = p.1 then st.sh x else 0) (edges A B) := rfl
    omega
  · intro p hp
    have q := tot_rows (fin (edges A B) st.fr (keys B) st.sh) (fun _ b => decide (b = p.1)) h0
    have q2 := tot_fin (edges_nodup hA hB) (fun e => decide (e.2 = p.1)) st.fr (keys B) st.sh hl
    simp only [decide_eq_true_eq] at q q2
    rw [q, q2]
    have h3 := F.fr p hp
    have h4 : tot (fun g => if g = p.1 then st.fr g else 0) (keys B) = st.fr p.1 := tot_one (fun g : Int => g) st.fr (l := keys B) (by rw [List.map_id']; exact hB.nodup) (a := p.1) (List.mem_map_of_mem (f := (·.1)) hp)
    have h5 : col (edges A B) st.sh p.1 = tot (fun x => if x.2 = p.1 then st.sh x else 0) (edges A B) := rfl
    omega

/-- what the program answers -/
theorem embF_ok {A B : List Pr} (hA : Shp A) (hB : Shp B) : ∃ r, embF A B = some r ∧
    match r with
    | .none g => bare A B = some g
    | .few S => bare A B = none ∧ few A B = some S
    | .emb rows => bare A B = none ∧ few A B = none ∧ VE A B rows := by
  unfold embF
  cases hb : bare A B with
  | some g => exact ⟨.none g, rfl, rfl⟩
  | none =>
    cases hf : few A B with
    | some S => exact ⟨.few S, rfl, rfl, rfl⟩
    | none =>
      obtain ⟨T, h1, h2⟩ := giv_ok hA hB hb hf
      exact ⟨.emb (T.filter fun r => decide (0 < r.2.2)), by rw [h1]; rfl, rfl, rfl, h2⟩
/-- what a choice that bars is -/
theorem few_ok {A B : List Pr} (hA : Shp A) {S : List Int} (h : few A B = some S) : S.Sublist (keys A) ∧ S ≠ [] ∧ S.Nodup ∧ S.Pairwise (· < ·) ∧ room S B < need S A := by
  obtain ⟨p, _, h⟩ := List.exists_of_findSome?_eq_some h
  have h1 := List.mem_of_find?_eq_some h
  have h2 := List.find?_some h
  rw [mem_chosen] at h1
  have sb : S.Sublist (keys A) := h1.1.trans List.filter_sublist
  have nd := hA.nodup.sublist sb
  refine ⟨sb, h1.2, nd, ?_, ?_⟩
  · refine List.Pairwise.sublist sb ?_
    show (A.map (·.1)).Pairwise _
    rw [List.pairwise_map]
    exact hA.srt
  · rw [tot_cnt nd] at h2
    simpa using h2
/-- the easy half of Hall -/
theorem VE.hall {A B : List Pr} {rows : List Tri} (hA : Shp A) (h : VE A B rows) (S : List Int) : need S A ≤ room S B := by
  have e1 : need S A ≤ tot (fun r : Tri => if r.1 ∈ S then r.2.2 else 0) rows := by
    have a : need S A ≤ tot (fun p => if p.1 ∈ S then tot (fun r : Tri => if r.1 = p.1 then r.2.2 else 0) rows else 0) A := tot_le fun p hp => by
      have := h.used p hp
      split <;> omega
    refine Int.le_trans a ?_
    have b : ∀ p : Pr, (if p.1 ∈ S then tot (fun r : Tri => if r.1 = p.1 then r.2.2 else 0) rows else 0) = tot (fun r : Tri => if p.1 ∈ S ∧ r.1 = p.1 then r.2.2 else 0) rows := fun p => by
      by_cases c : p.1 ∈ S
      · rw [if_pos c]; exact tot_congr fun r _ => by simp [c]
      · rw [if_neg c]; exact (tot_zero fun r _ => if_neg fun q => c q.1).symm
    rw [tot_congr (fun p _ => b p), tot_swap]
    refine tot_le fun r hr => ?_
    obtain ⟨p, hp, e⟩ := List.mem_map.mp (h.row r hr).2.2.1
    have e : p.1 = r.1 := e
    have h1 := (h.row r hr).2.1
    by_cases c : r.1 ∈ S
    · rw [if_pos c]
      refine Int.le_of_eq (Eq.trans (tot_congr fun q _ => ?_) (tot_one (fun p : Pr => p.1) (fun _ => r.2.2) hA.nodup hp))
      show _ = if q.1 = p.1 then r.2.2 else 0
      rw [e]
      by_cases z : q.1 = r.1
      · rw [if_pos z, if_pos ⟨by rw [z]; exact c, z.symm⟩]
      · rw [if_neg z, if_neg fun w => z w.2.symm]
    · rw [if_neg c]
      exact Int.le_of_eq (tot_zero fun q _ => if_neg fun w => c (by rw [w.2]; exact w.1))
  have e2 : tot (fun r : Tri => if r.1 ∈ S then r.2.2 else 0) rows ≤ room S B := by
    have a : room S B = tot (fun p => if (S.any fun s => lies s p.1) = true then tot (fun r : Tri => if r.2.1 = p.1 then r.2.2 else 0) rows else 0) B := tot_congr fun p hp => by
      rw [h.given p hp]
    rw [a]
    have b : ∀ p : Pr, (if (S.any fun s => lies s p.1) = true then tot (fun r : Tri => if r.2.1 = p.1 then r.2.2 else 0) rows else 0) = tot (fun r : Tri => if (S.any fun s => lies s p.1) = true ∧ r.2.1 = p.1 then r.2.2 else 0) rows := fun p => by
      by_cases c : (S.any fun s => lies s p.1) = true
      · rw [if_pos c]; exact tot_congr fun r _ => by simp [c]
      · rw [if_neg c]; exact (tot_zero fun r _ => if_neg fun q => c q.1).symm
    rw [tot_congr (fun p _ => b p), tot_swap]
    refine tot_le fun r hr => ?_
    obtain ⟨hl, h1, h2, h3⟩ := h.row r hr
    obtain ⟨p, hp, e⟩ := List.mem_map.mp h3
    have e : p.1 = r.2.1 := e
    have pos : ∀ q ∈ B, 0 ≤ (if (S.any fun s => lies s q.1) = true ∧ r.2.1 = q.1 then r.2.2 else 0) := fun q _ => by split <;> omega
    by_cases c : r.1 ∈ S
    · rw [if_pos c]
      refine Int.le_trans (Int.le_of_eq ?_) (tot_ge pos hp)
      rw [if_pos]
      exact ⟨List.any_eq_true.mpr ⟨r.1, c, by rw [e]; exact hl⟩, e.symm⟩
    · rw [if_neg c]
      exact tot_nonneg pos
  omega
end K64
set_option Elab.async false
set_option maxRecDepth 100000
/-! The program's text by places; what its top leaves. -/
namespace K64W
open PySem L2 K64

def top (i : Nat) : Stmt := PySem.Challenge.pw_selfpower_k64_whole_embeddings.main.body.getD i (.Pass ⟨0, 0, 0, 0⟩)
abbrev s_isWhole : Stmt := top 7
abbrev s_isSize : Stmt := top 8
abbrev s_primeOf : Stmt := top 9
abbrev s_degreeOf : Stmt := top 10
abbrev s_liesIn : Stmt := top 11
abbrev s_roomFor : Stmt := top 17
abbrev s_chosenSizes : Stmt := top 18
abbrev s_embed : Stmt := top 20
abbrev s_lCells : Stmt := top 22
abbrev s_lDraw : Stmt := top 23
abbrev s_lOne : Stmt := top 24
abbrev s_lMixed : Stmt := top 25
abbrev s_lSame : Stmt := top 26
abbrev s_lSplit : Stmt := top 27
abbrev s_lLies : Stmt := top 28
abbrev s_lRoom : Stmt := top 29
abbrev s_lNeed : Stmt := top 30
abbrev s_lAmounts : Stmt := top 31
abbrev s_lBarred : Stmt := top 32
abbrev s_law : Stmt := top 33
abbrev s_shInit : Stmt := inClass (top 14) 0
abbrev s_shCounts : Stmt := inClass (top 14) 2
abbrev s_shCount : Stmt := inClass (top 14) 3
abbrev s_emInit : Stmt := inClass (top 15) 0
abbrev s_emAmounts : Stmt := inClass (top 15) 1
abbrev s_emHolds : Stmt := inClass (top 15) 2
abbrev s_emBool : Stmt := inClass (top 15) 3
abbrev s_blInit : Stmt := inClass (top 16) 0
abbrev s_blKind : Stmt := inClass (top 16) 1
abbrev s_blSizes : Stmt := inClass (top 16) 2
abbrev s_blHolds : Stmt := inClass (top 16) 3
abbrev s_blBool : Stmt := inClass (top 16) 4
abbrev s_gvInit : Stmt := inClass (top 19) 0
abbrev s_gvPath : Stmt := inClass (top 19) 1
abbrev s_gvUse : Stmt := inClass (top 19) 2
abbrev s_gvGiven : Stmt := inClass (top 19) 3
/-- where the top's things stand -/
structure Ad where
  f_isWhole : Addr
  d_isWhole : FuncData
  f_isSize : Addr
  d_isSize : FuncData
  f_primeOf : Addr
  d_primeOf : FuncData
  f_degreeOf : Addr
  d_degreeOf : FuncData
  f_liesIn : Addr
  d_liesIn : FuncData
  f_roomFor : Addr
  d_roomFor : FuncData
  f_chosenSizes : Addr
  d_chosenSizes : FuncData
  f_embed : Addr
  d_embed : FuncData
  f_lCells : Addr
  d_lCells : FuncData
  f_lDraw : Addr
  d_lDraw : FuncData
  f_lOne : Addr
  d_lOne : FuncData
  f_lMixed : Addr
  d_lMixed : FuncData
  f_lSame : Addr
  d_lSame : FuncData
  f_lSplit : Addr
  d_lSplit : FuncData
  f_lLies : Addr
  d_lLies : FuncData
  f_lRoom : Addr
  d_lRoom : FuncData
  f_lNeed : Addr
  d_lNeed : FuncData
  f_lAmounts : Addr
  d_lAmounts : FuncData
  f_lBarred : Addr
  d_lBarred : FuncData
  f_law : Addr
  d_law : FuncData
  f_shInit : Addr
  d_shInit : FuncData
  f_shCounts : Addr
  d_shCounts : FuncData
  f_shCount : Addr
  d_shCount : FuncData
  f_emInit : Addr
  d_emInit : FuncData
  f_emAmounts : Addr
  d_emAmounts : FuncData
  f_emHolds : Addr
  d_emHolds : FuncData
  f_emBool : Addr
  d_emBool : FuncData
  f_blInit : Addr
  d_blInit : FuncData
  f_blKind : Addr
  d_blKind : FuncData
  f_blSizes : Addr
  d_blSizes : FuncData
  f_blHolds : Addr
  d_blHolds : FuncData
  f_blBool : Addr
  d_blBool : FuncData
  f_gvInit : Addr
  d_gvInit : FuncData
  f_gvPath : Addr
  d_gvPath : FuncData
  f_gvUse : Addr
  d_gvUse : FuncData
  f_gvGiven : Addr
  d_gvGiven : FuncData
  (cSh cEm cBl cGv aSIZES pKind pSizes : Addr)
structure Txt (K : PySem.W.Frag) (mg : Str → Option Value) (D : Ad) : Prop where
  F_isWhole : Fun K "is_whole" "is_whole" s_isWhole D.f_isWhole D.d_isWhole
  F_isSize : Fun K "is_size" "is_size" s_isSize D.f_isSize D.d_isSize
  F_primeOf : Fun K "prime_of" "prime_of" s_primeOf D.f_primeOf D.d_primeOf
  F_degreeOf : Fun K "degree_of" "degree_of" s_degreeOf D.f_degreeOf D.d_degreeOf
  F_liesIn : Fun K "lies_in" "lies_in" s_liesIn D.f_liesIn D.d_liesIn
  F_roomFor : Fun K "room_for" "room_for" s_roomFor D.f_roomFor D.d_roomFor
  F_chosenSizes : Fun K "chosen_sizes" "chosen_sizes" s_chosenSizes D.f_chosenSizes D.d_chosenSizes
  F_embed : Fun K "embed" "embed" s_embed D.f_embed D.d_embed
  F_lCells : Fun K "_law_cells" "_law_cells" s_lCells D.f_lCells D.d_lCells
  F_lDraw : Fun K "_law_draw" "_law_draw" s_lDraw D.f_lDraw D.d_lDraw
  F_lOne : Fun K "_law_one" "_law_one" s_lOne D.f_lOne D.d_lOne
  F_lMixed : Fun K "_law_mixed" "_law_mixed" s_lMixed D.f_lMixed D.d_lMixed
  F_lSame : Fun K "_law_same" "_law_same" s_lSame D.f_lSame D.d_lSame
  F_lSplit : Fun K "_law_split" "_law_split" s_lSplit D.f_lSplit D.d_lSplit
  F_lLies : Fun K "_law_lies" "_law_lies" s_lLies D.f_lLies D.d_lLies
  F_lRoom : Fun K "_law_room" "_law_room" s_lRoom D.f_lRoom D.d_lRoom
  F_lNeed : Fun K "_law_need" "_law_need" s_lNeed D.f_lNeed D.d_lNeed
  F_lAmounts : Fun K "_law_amounts_so" "_law_amounts_so" s_lAmounts D.f_lAmounts D.d_lAmounts
  F_lBarred : Fun K "_law_barred_so" "_law_barred_so" s_lBarred D.f_lBarred D.d_lBarred
  F_law : Fun K "law" "law" s_law D.f_law D.d_law
  g_isWhole : mg "is_whole" = some (.ref D.f_isWhole)
  g_isSize : mg "is_size" = some (.ref D.f_isSize)
  g_primeOf : mg "prime_of" = some (.ref D.f_primeOf)
  g_degreeOf : mg "degree_of" = some (.ref D.f_degreeOf)
  g_liesIn : mg "lies_in" = some (.ref D.f_liesIn)
  g_roomFor : mg "room_for" = some (.ref D.f_roomFor)
  g_chosenSizes : mg "chosen_sizes" = some (.ref D.f_chosenSizes)
  g_embed : mg "embed" = some (.ref D.f_embed)
  g_lCells : mg "_law_cells" = some (.ref D.f_lCells)
  g_lDraw : mg "_law_draw" = some (.ref D.f_lDraw)
  g_lOne : mg "_law_one" = some (.ref D.f_lOne)
  g_lMixed : mg "_law_mixed" = some (.ref D.f_lMixed)
  g_lSame : mg "_law_same" = some (.ref D.f_lSame)
  g_lSplit : mg "_law_split" = some (.ref D.f_lSplit)
  g_lLies : mg "_law_lies" = some (.ref D.f_lLies)
  g_lRoom : mg "_law_room" = some (.ref D.f_lRoom)
  g_lNeed : mg "_law_need" = some (.ref D.f_lNeed)
  g_lAmounts : mg "_law_amounts_so" = some (.ref D.f_lAmounts)
  g_lBarred : mg "_law_barred_so" = some (.ref D.f_lBarred)
  g_law : mg "law" = some (.ref D.f_law)
  F_shInit : FunD K "__init__" "Shape.__init__" (defArgs s_shInit) (defBody s_shInit) (defScope s_shInit) [] [("most", .int (10 ^ 30))] D.f_shInit D.d_shInit
  F_shCounts : Fun K "counts" "Shape.counts" s_shCounts D.f_shCounts D.d_shCounts
  F_shCount : Fun K "count" "Shape.count" s_shCount D.f_shCount D.d_shCount
  F_emInit : Fun K "__init__" "Embedding.__init__" s_emInit D.f_emInit D.d_emInit
  F_emAmounts : Fun K "amounts" "Embedding.amounts" s_emAmounts D.f_emAmounts D.d_emAmounts
  F_emHolds : Fun K "holds" "Embedding.holds" s_emHolds D.f_emHolds D.d_emHolds
  F_emBool : Fun K "__bool__" "Embedding.__bool__" s_emBool D.f_emBool D.d_emBool
  F_blInit : Fun K "__init__" "Blocked.__init__" s_blInit D.f_blInit D.d_blInit
  F_blKind : Fun K "kind" "Blocked.kind" s_blKind D.f_blKind D.d_blKind
  F_blSizes : Fun K "sizes" "Blocked.sizes" s_blSizes D.f_blSizes D.d_blSizes
  F_blHolds : Fun K "holds" "Blocked.holds" s_blHolds D.f_blHolds D.d_blHolds
  F_blBool : Fun K "__bool__" "Blocked.__bool__" s_blBool D.f_blBool D.d_blBool
  F_gvInit : Fun K "__init__" "Giver.__init__" s_gvInit D.f_gvInit D.d_gvInit
  F_gvPath : Fun K "path_from" "Giver.path_from" s_gvPath D.f_gvPath D.d_gvPath
  F_gvUse : Fun K "use" "Giver.use" s_gvUse D.f_gvUse D.d_gvUse
  F_gvGiven : Fun K "given" "Giver.given" s_gvGiven D.f_gvGiven D.d_gvGiven
  M_shCounts : Meth K D.cSh "counts" D.f_shCounts
  M_shCount : Meth K D.cSh "count" D.f_shCount
  M_emAmounts : Meth K D.cEm "amounts" D.f_emAmounts
  M_emHolds : Meth K D.cEm "holds" D.f_emHolds
  M_emBool : Meth K D.cEm "__bool__" D.f_emBool
  M_blHolds : Meth K D.cBl "holds" D.f_blHolds
  M_blBool : Meth K D.cBl "__bool__" D.f_blBool
  M_gvPath : Meth K D.cGv "path_from" D.f_gvPath
  M_gvUse : Meth K D.cGv "use" D.f_gvUse
  M_gvGiven : Meth K D.cGv "given" D.f_gvGiven
  cSh : Cls K D.cSh
  gSh : mg "Shape" = some (.ref D.cSh)
  cEm : Cls K D.cEm
  gEm : mg "Embedding" = some (.ref D.cEm)
  cBl : Cls K D.cBl
  gBl : mg "Blocked" = some (.ref D.cBl)
  cGv : Cls K D.cGv
  gGv : mg "Giver" = some (.ref D.cGv)
  KSh : Mk K D.cSh D.f_shInit
  KEm : Mk K D.cEm D.f_emInit
  KBl : Mk K D.cBl D.f_blInit
  KGv : Mk K D.cGv D.f_gvInit
  n_own_counts : NoAttr K D.cSh "own_counts"
  n_own_amounts : NoAttr K D.cEm "own_amounts"
  n_own_kind : NoAttr K D.cBl "own_kind"
  n_own_sizes : NoAttr K D.cBl "own_sizes"
  n_needs : NoAttr K D.cGv "needs"
  n_free : NoAttr K D.cGv "free"
  n_shares : NoAttr K D.cGv "shares"
  P_kind : PropOf K D.cBl "kind" D.pKind D.f_blKind
  P_sizes : PropOf K D.cBl "sizes" D.pSizes D.f_blSizes
  gSIZES : mg "SIZES" = some (.ref D.aSIZES)
  tSIZES : ∀ H, SqT K H D.aSIZES (SIZES.map V.int)
  b_isinstance : mg "isinstance" = none
  b_range : mg "range" = none
  b_sorted : mg "sorted" = none
  b_set : mg "set" = none
  b_list : mg "list" = none
  b_dict : mg "dict" = none
  b_tuple : mg "tuple" = none
  b_sum : mg "sum" = none
  b_any : mg "any" = none
  b_all : mg "all" = none
  b_min : mg "min" = none
  b_len : mg "len" = none
  b_zip : mg "zip" = none
  b_bool : mg "bool" = none
  b_int : mg "int" = none
  b_str : mg "str" = none
section
variable {K : PySem.W.Frag} {mg : Str → Option Value} {D : Ad}
theorem b_isWhole (T : Txt K mg D) : Binds K D.d_isWhole ["value"] [] := T.F_isWhole.binds fun _ _ _ _ _ _ us hl => match us, hl with | [_], _ => rfl
theorem b_isSize (T : Txt K mg D) : Binds K D.d_isSize ["value"] [] := T.F_isSize.binds fun _ _ _ _ _ _ us hl => match us, hl with | [_], _ => rfl
theorem b_primeOf (T : Txt K mg D) : Binds K D.d_primeOf ["size"] [] := T.F_primeOf.binds fun _ _ _ _ _ _ us hl => match us, hl with | [_], _ => rfl
theorem b_degreeOf (T : Txt K mg D) : Binds K D.d_degreeOf ["size"] [] := T.F_degreeOf.binds fun _ _ _ _ _ _ us hl => match us, hl with | [_], _ => rfl
theorem b_liesIn (T : Txt K mg D) : Binds K D.d_liesIn ["size", "great"] [] := T.F_liesIn.binds fun _ _ _ _ _ _ us hl => match us, hl with | [_, _], _ => rfl
theorem b_roomFor (T : Txt K mg D) : Binds K D.d_roomFor ["sizes", "other"] [] := T.F_roomFor.binds fun _ _ _ _ _ _ us hl => match us, hl with | [_, _], _ => rfl
theorem b_chosenSizes (T : Txt K mg D) : Binds K D.d_chosenSizes ["sizes"] [] := T.F_chosenSizes.binds fun _ _ _ _ _ _ us hl => match us, hl with | [_], _ => rfl
theorem b_embed (T : Txt K mg D) : Binds K D.d_embed ["one", "other"] [] := T.F_embed.binds fun _ _ _ _ _ _ us hl => match us, hl with | [_, _], _ => rfl
theorem b_lCells (T : Txt K mg D) : Binds K D.d_lCells ["_law_script"] [] := T.F_lCells.binds fun _ _ _ _ _ _ us hl => match us, hl with | [_], _ => rfl
theorem b_lDraw (T : Txt K mg D) : Binds K D.d_lDraw ["_law_bag", "_law_sides"] [] := T.F_lDraw.binds fun _ _ _ _ _ _ us hl => match us, hl with | [_, _], _ => rfl
theorem b_lOne (T : Txt K mg D) : Binds K D.d_lOne ["_law_bag", "_law_things"] [] := T.F_lOne.binds fun _ _ _ _ _ _ us hl => match us, hl with | [_, _], _ => rfl
theorem b_lMixed (T : Txt K mg D) : Binds K D.d_lMixed ["_law_bag", "_law_things"] [] := T.F_lMixed.binds fun _ _ _ _ _ _ us hl => match us, hl with | [_, _], _ => rfl
theorem b_lSame (T : Txt K mg D) : Binds K D.d_lSame ["_law_found", "_law_due"] [] := T.F_lSame.binds fun _ _ _ _ _ _ us hl => match us, hl with | [_, _], _ => rfl
theorem b_lSplit (T : Txt K mg D) : Binds K D.d_lSplit ["_law_size"] [] := T.F_lSplit.binds fun _ _ _ _ _ _ us hl => match us, hl with | [_], _ => rfl
theorem b_lLies (T : Txt K mg D) : Binds K D.d_lLies ["_law_size", "_law_great"] [] := T.F_lLies.binds fun _ _ _ _ _ _ us hl => match us, hl with | [_, _], _ => rfl
theorem b_lRoom (T : Txt K mg D) : Binds K D.d_lRoom ["_law_lot", "_law_rows"] [] := T.F_lRoom.binds fun _ _ _ _ _ _ us hl => match us, hl with | [_, _], _ => rfl
theorem b_lNeed (T : Txt K mg D) : Binds K D.d_lNeed ["_law_lot", "_law_rows"] [] := T.F_lNeed.binds fun _ _ _ _ _ _ us hl => match us, hl with | [_, _], _ => rfl
theorem b_lAmounts (T : Txt K mg D) : Binds K D.d_lAmounts ["_law_one_here", "_law_other", "_law_found"] [] := T.F_lAmounts.binds fun _ _ _ _ _ _ us hl => match us, hl with | [_, _, _], _ => rfl
theorem b_lBarred (T : Txt K mg D) : Binds K D.d_lBarred ["_law_one_here", "_law_other", "_law_none", "_law_found"] [] := T.F_lBarred.binds fun _ _ _ _ _ _ us hl => match us, hl with | [_, _, _, _], _ => rfl
theorem b_law (T : Txt K mg D) : Binds K D.d_law ["_law_script"] [] := T.F_law.binds fun _ _ _ _ _ _ us hl => match us, hl with | [_], _ => rfl
theorem b_shCounts (T : Txt K mg D) : Binds K D.d_shCounts ["self"] [] := T.F_shCounts.binds fun _ _ _ _ _ _ us hl => match us, hl with | [_], _ => rfl
theorem b_shCount (T : Txt K mg D) : Binds K D.d_shCount ["self", "size"] [] := T.F_shCount.binds fun _ _ _ _ _ _ us hl => match us, hl with | [_, _], _ => rfl
theorem b_emInit (T : Txt K mg D) : Binds K D.d_emInit ["self", "amounts"] [] := T.F_emInit.binds fun _ _ _ _ _ _ us hl => match us, hl with | [_, _], _ => rfl
theorem b_emAmounts (T : Txt K mg D) : Binds K D.d_emAmounts ["self"] [] := T.F_emAmounts.binds fun _ _ _ _ _ _ us hl => match us, hl with | [_], _ => rfl
theorem b_emHolds (T : Txt K mg D) : Binds K D.d_emHolds ["self", "one", "other"] [] := T.F_emHolds.binds fun _ _ _ _ _ _ us hl => match us, hl with | [_, _, _], _ => rfl
theorem b_emBool (T : Txt K mg D) : Binds K D.d_emBool ["self"] [] := T.F_emBool.binds fun _ _ _ _ _ _ us hl => match us, hl with | [_], _ => rfl
theorem b_blInit (T : Txt K mg D) : Binds K D.d_blInit ["self", "kind", "sizes"] [] := T.F_blInit.binds fun _ _ _ _ _ _ us hl => match us, hl with | [_, _, _], _ => rfl
theorem b_blKind (T : Txt K mg D) : Binds K D.d_blKind ["self"] [] := T.F_blKind.binds fun _ _ _ _ _ _ us hl => match us, hl with | [_], _ => rfl
theorem b_blSizes (T : Txt K mg D) : Binds K D.d_blSizes ["self"] [] := T.F_blSizes.binds fun _ _ _ _ _ _ us hl => match us, hl with | [_], _ => rfl
theorem b_blHolds (T : Txt K mg D) : Binds K D.d_blHolds ["self", "one", "other"] [] := T.F_blHolds.binds fun _ _ _ _ _ _ us hl => match us, hl with | [_, _, _], _ => rfl
theorem b_blBool (T : Txt K mg D) : Binds K D.d_blBool ["self"] [] := T.F_blBool.binds fun _ _ _ _ _ _ us hl => match us, hl with | [_], _ => rfl
theorem b_gvInit (T : Txt K mg D) : Binds K D.d_gvInit ["self", "one", "other"] [] := T.F_gvInit.binds fun _ _ _ _ _ _ us hl => match us, hl with | [_, _, _], _ => rfl
theorem b_gvPath (T : Txt K mg D) : Binds K D.d_gvPath ["self", "size"] [] := T.F_gvPath.binds fun _ _ _ _ _ _ us hl => match us, hl with | [_, _], _ => rfl
theorem b_gvUse (T : Txt K mg D) : Binds K D.d_gvUse ["self", "size"] [] := T.F_gvUse.binds fun _ _ _ _ _ _ us hl => match us, hl with | [_, _], _ => rfl
theorem b_gvGiven (T : Txt K mg D) : Binds K D.d_gvGiven ["self"] [] := T.F_gvGiven.binds fun _ _ _ _ _ _ us hl => match us, hl with | [_], _ => rfl
end
end K64W
set_option Elab.async false
set_option maxRecDepth 100000
set_option maxHeartbeats 4000000
/-! Helpers of the walk. -/
namespace K64W
open PySem L2 K64

/-! ### lists by their beginnings -/
section
variable {α β : Type}
def fmT (f : α → Option β) (L : List α) (i : Nat) : List β := (L.take i).filterMap f
theorem fmT_zero (f : α → Option β) (L : List α) : fmT f L 0 = [] := by simp [fmT]
theorem take_succ_of {L : List α} {i : Nat} {a : α} (h : L[i]? = some a) : L.take (i + 1) = L.take i ++ [a] := by
  rw [List.take_add_one, h]; rfl
theorem fmT_some {f : α → Option β} {L : List α} {i : Nat} {a : α} {b : β} (h : L[i]? = some a) (hf : f a = some b) : fmT f L (i + 1) = fmT f L i ++ [b] := by
  unfold fmT
  rw [take_succ_of h, List.filterMap_append]
  simp [hf]
theorem fmT_none {f : α → Option β} {L : List α} {i : Nat} {a : α} (h : L[i]? = some a) (hf : f a = none) : fmT f L (i + 1) = fmT f L i := by
  unfold fmT
  rw [take_succ_of h, List.filterMap_append]
  simp [hf]
theorem fmT_all (f : α → Option β) (L : List α) : fmT f L L.length = L.filterMap f := by simp [fmT]
theorem fmT_alln (f : α → Option β) (L : List α) {n : Nat} (h : n = L.length) : fmT f L n = L.filterMap f := by rw [h]; exact fmT_all f L
/-- all of them, each by f -/
def mpT (f : α → β) (L : List α) (i : Nat) : List β := (L.take i).map f
theorem mpT_zero (f : α → β) (L : List α) : mpT f L 0 = [] := by simp [mpT]
theorem mpT_step {f : α → β} {L : List α} {i : Nat} {a : α} (h : L[i]? = some a) : mpT f L (i + 1) = mpT f L i ++ [f a] := by
  unfold mpT
  rw [take_succ_of h, List.map_append]
  rfl
theorem mpT_all (f : α → β) (L : List α) : mpT f L L.length = L.map f := by simp [mpT]
def flT (p : α → Bool) (L : List α) (i : Nat) : List α := (L.take i).filter p
theorem flT_zero (p : α → Bool) (L : List α) : flT p L 0 = [] := by simp [flT]
theorem flT_yes {p : α → Bool} {L : List α} {i : Nat} {a : α} (h : L[i]? = some a) (hf : p a = true) : flT p L (i + 1) = flT p L i ++ [a] := by
  unfold flT
  rw [take_succ_of h, List.filter_append]
  simp [hf]
theorem flT_no {p : α → Bool} {L : List α} {i : Nat} {a : α} (h : L[i]? = some a) (hf : p a = false) : flT p L (i + 1) = flT p L i := by
  unfold flT
  rw [take_succ_of h, List.filter_append]
  simp [hf]
theorem flT_all (p : α → Bool) (L : List α) : flT p L L.length = L.filter p := by simp [flT]
theorem get_map {f : α → β} {L : List α} {i : Nat} {b : β} (h : (L.map f)[i]? = some b) : ∃ a, L[i]? = some a ∧ b = f a := by
  rw [List.getElem?_map] at h
  obtain ⟨a, h1, h2⟩ := Option.map_eq_some_iff.mp h
  exact ⟨a, h1, h2.symm⟩
theorem get_lt {L : List α} {i : Nat} {a : α} (h : L[i]? = some a) : i < L.length := (List.getElem?_eq_some_iff.mp h).1
theorem get_mem {L : List α} {i : Nat} {a : α} (h : L[i]? = some a) : a ∈ L := List.mem_of_getElem? h
end

/-! ### heaps -/
def SameX (D : Addr) (H H' : Hp) : Prop := ∀ b o, b ≠ D → H b = some o → H' b = some o
theorem _root_.L2.Same.x {D : Addr} {H H' : Hp} (h : Same H H') : SameX D H H' := fun b o _ e => h b o e
theorem SameX.trans {D : Addr} {H H1 H2 : Hp} (a : SameX D H H1) (b : SameX D H1 H2) : SameX D H H2 := fun c o n e => b c o n (a c o n e)
theorem SameX.upd {D : Addr} {H H' : Hp} {o : HO} (a : SameX D H H') : SameX D H (upd H' D o) := fun c u n e => by rw [upd_ne n]; exact a c u n e
theorem SameX.same {D : Addr} {H H' : Hp} (a : SameX D H H') (h : H D = none) : Same H H' := fun b o e => a b o (ne_of_none e h) e
theorem same_new {H : Hp} {p : Addr} {o : HO} (h : H p = none) : Same H (upd H p o) := fun b u e => by rw [upd_ne (ne_of_none e h)]; exact e
theorem _root_.L2.Same.new {H H' : Hp} {p : Addr} {o : HO} (s : Same H H') (h : H' p = none) : Same H (upd H' p o) := s.trans (same_new h)
theorem _root_.L2.Same.seqT {K : PySem.W.Frag} {H H' : Hp} {a : Addr} {xs : List V} (e : Same H H') (h : SqT K H a xs) : SqT K H' a xs := by
  rcases h with (h | ⟨o, h⟩) | h
  · exact .inl (.inl (e _ _ h))
  · exact .inl (.inr ⟨o, e _ _ h⟩)
  · exact .inr h

/-! ### a comprehension -/
def LcP (H1 : Hp) (D : Addr) (G : Nat → List V → Hp → Prop) (i : Nat) (H : Hp) : Prop := ∃ acc, Same H1 H ∧ H D = some (.lst acc) ∧ acc.length ≤ i ∧ G i acc H
section
variable {J : It} {n : Nat} {G : Hp → Prop} {Y : Nat → Hp → V → Hp → Prop}
theorem lc_w (w : Walk J n G Y) {g : TG} {tt : TT} {te : TE} {vs : List Nat} {σ : St} {H1 : Hp} {D : Addr} {Qd : Hp → Prop} (Gd : Nat → List V → Hp → Prop) (hD : H1 D = none) (hG : ∀ H, Same H1 H → G H) (h0 : Gd 0 [] (upd H1 D (.lst [])))
    (hs : ∀ i x acc H H', i < n → Same H1 H → H D = some (.lst acc) → acc.length ≤ i → Gd i acc H → Y i H x H' → g x (wipe σ vs) H' fun σ2 H2 => wipe σ2 vs = wipe σ vs ∧ tt σ2 H2 fun b H3 =>
      if b = true then te σ2 H3 fun y H4 => ∃ acc, H4 D = some (.lst acc) ∧ acc.length < sizeLine ∧ LcP H1 D Gd (i + 1) (upd H4 D (.lst (acc ++ [y]))) else LcP H1 D Gd (i + 1) H3)
    (hd : ∀ acc H, Same H1 H → H D = some (.lst acc) → Gd n acc H → Qd H) :
    ∃ W : Nat → Nat → Hp → Prop, (∃ m, W 0 m (upd H1 D (.lst []))) ∧ ∀ i m H, W i m H →
      (J.stop i H ∧ Qd H) ∨ (J.go i H ∧ ∃ Nx : Hp → Prop, (∀ H', Nx H' → ∃ m', m' < m ∧ W (i + 1) m' H') ∧ ∀ x H', J.yld i H x H' → g x (wipe σ vs) H' fun σ2 H2 => wipe σ2 vs = wipe σ vs ∧ tt σ2 H2 fun b H3 =>
        if b = true then te σ2 H3 fun y H4 => ∃ acc, H4 D = some (.lst acc) ∧ acc.length < sizeLine ∧ Nx (upd H4 D (.lst (acc ++ [y]))) else Nx H3) :=
  lc_it w (LcP H1 D Gd) ⟨[], same_new hD, upd_same, Nat.le_refl _, h0⟩ (fun i H _ ⟨_, s, _⟩ => hG H s) (fun i x H H' hi ⟨acc, s, h1, h2, h3⟩ y => hs i x acc H H' hi s h1 h2 h3 y) fun H ⟨acc, s, h1, _, h3⟩ => hd acc H s h1 h3
end
section
variable {H1 H H4 : Hp} {D : Addr} {i : Nat} {acc : List V} {y : V}
theorem LcP.put {G : Nat → List V → Hp → Prop} (s : Same H H4) (s1 : Same H1 H) (hD : H1 D = none) (h1 : H D = some (.lst acc)) (h2 : acc.length ≤ i) (hi : i ≤ 100000) (g : G (i + 1) (acc ++ [y]) (L2.upd H4 D (.lst (acc ++ [y])))) :
    ∃ acc, H4 D = some (.lst acc) ∧ acc.length < sizeLine ∧ LcP H1 D G (i + 1) (L2.upd H4 D (.lst (acc ++ [y]))) :=
  ⟨acc, s _ _ h1, Nat.lt_of_le_of_lt (Nat.le_trans h2 hi) (by decide), acc ++ [y], (Same.x (s1.trans s)).upd.same hD, upd_same, by simp; omega, g⟩
theorem LcP.skip {G : Nat → List V → Hp → Prop} (s : Same H H4) (s1 : Same H1 H) (h1 : H D = some (.lst acc)) (h2 : acc.length ≤ i) (g : G (i + 1) acc H4) : LcP H1 D G (i + 1) H4 :=
  ⟨acc, s1.trans s, s _ _ h1, by omega, g⟩
end
/-- the list is pure -/
abbrev GP (out : Nat → List V) : Nat → List V → Hp → Prop := fun i acc _ => acc = out i
/-- the list is made of data by f -/
def GM {β : Type} (f : β → V) (out : Nat → List β) : Nat → List V → Hp → Prop := fun i acc _ => acc = (out i).map f
section
variable {β : Type} {f : β → V} {out : Nat → List β} {i : Nat} {acc : List V} {H H' : Hp} {b : β}
theorem GM.zero (h : out 0 = []) : GM f out 0 [] H := by unfold GM; rw [h]; rfl
theorem GM.put (g : GM f out i acc H) (ho : out (i + 1) = out i ++ [b]) : GM f out (i + 1) (acc ++ [f b]) H' := by
  have g : acc = (out i).map f := g
  show acc ++ [f b] = (out (i + 1)).map f
  rw [g, ho, List.map_append]
  rfl
theorem GM.skip (g : GM f out i acc H) (ho : out (i + 1) = out i) : GM f out (i + 1) acc H' := by
  have g : acc = (out i).map f := g
  show acc = (out (i + 1)).map f
  rw [g, ho]
theorem GM.eq (g : GM f out i acc H) {L : List β} (h : out i = L) : acc = L.map f := by
  have g : acc = (out i).map f := g
  rw [g, h]
end
/-- the list holds tuples -/
def GR {α : Type} (enc : α → List V) (out : Nat → List α) : Nat → List V → Hp → Prop := fun i acc H => ∃ ks : List (Addr × α), acc = ks.map (fun p => V.ref p.1) ∧ (∀ p ∈ ks, H p.1 = some (.tup (enc p.2))) ∧ ks.map (·.2) = out i
section
variable {α : Type} {enc : α → List V} {out : Nat → List α} {H H4 : Hp} {D t : Addr} {i : Nat} {acc : List V} {a : α}
theorem GR.zero {H : Hp} (h : out 0 = []) : GR enc out 0 [] H := ⟨[], rfl, fun _ h => (nomatch h), h.symm⟩
theorem GR.put {l : List V} (g : GR enc out i acc H) (s : Same H H4) (hD : H4 D = some (.lst l)) (ht : H4 t = some (.tup (enc a))) (ho : out (i + 1) = out i ++ [a]) {u : List V} : GR enc out (i + 1) (acc ++ [V.ref t]) (L2.upd H4 D (.lst u)) := by
  obtain ⟨ks, rfl, h2, h3⟩ := g
  refine ⟨ks ++ [(t, a)], by simp, fun p hp => ?_, by simp [h3, ho]⟩
  rcases List.mem_append.mp hp with q | q
  · have e := s _ _ (h2 p q)
    rw [upd_ne (ne_of e hD (by intro z; cases z))]
    exact e
  · rw [List.mem_singleton.mp q]
    rw [upd_ne (ne_of ht hD (by intro z; cases z))]
    exact ht
theorem GR.skip (g : GR enc out i acc H) (s : Same H H4) (ho : out (i + 1) = out i) : GR enc out (i + 1) acc H4 := by
  obtain ⟨ks, rfl, h2, h3⟩ := g
  exact ⟨ks, rfl, fun p hp => s _ _ (h2 p hp), by rw [h3, ho]⟩
end
/-- a list of tuples -/
def Rows {α : Type} (H : Hp) (l : Addr) (enc : α → List V) (L : List α) : Prop := ∃ ks : List (Addr × α), H l = some (.lst (ks.map fun p => V.ref p.1)) ∧ (∀ p ∈ ks, H p.1 = some (.tup (enc p.2))) ∧ ks.map (·.2) = L
section
variable {α : Type} {enc : α → List V} {L : List α} {H H' : Hp} {l : Addr}
theorem Rows.same (r : Rows H l enc L) (s : Same H H') : Rows H' l enc L := by
  obtain ⟨ks, h1, h2, h3⟩ := r
  exact ⟨ks, s _ _ h1, fun p hp => s _ _ (h2 p hp), h3⟩
theorem Rows.of {out : Nat → List α} {n : Nat} {acc : List V} (g : GR enc out n acc H) (h : H l = some (.lst acc)) (e : out n = L) : Rows H l enc L := by
  obtain ⟨ks, rfl, h2, h3⟩ := g
  exact ⟨ks, h, h2, h3.trans e⟩
theorem ks_len {ks : List (Addr × α)} (h : ks.map (·.2) = L) : ks.length = L.length := by rw [← h, List.length_map]
theorem ks_get {ks : List (Addr × α)} (h : ks.map (·.2) = L) {i : Nat} {x : V} (hx : (ks.map fun p => V.ref p.1)[i]? = some x) : ∃ p, ks[i]? = some p ∧ p ∈ ks ∧ x = V.ref p.1 ∧ L[i]? = some p.2 := by
  obtain ⟨p, hp, rfl⟩ := get_map hx
  exact ⟨p, hp, get_mem hp, rfl, by rw [← h, List.getElem?_map, hp]; rfl⟩
end
abbrev e2 (p : Int × Int) : List V := [.int p.1, .int p.2]
abbrev e3 (p : Int × Int × Int) : List V := [.int p.1, .int p.2.1, .int p.2.2]
abbrev eI (p : List Int) : List V := p.map V.int
end K64W
set_option Elab.async false
set_option maxRecDepth 100000
set_option maxHeartbeats 4000000
namespace K64W
open PySem L2 K64
section
variable {P : Program} {w : World} {K : PySem.W.Frag} {mg : Str → Option Value} {base : Heap} {D : Ad}

def spWhole : Sp := fun vs H Q _ => ∃ n : Int, vs = [.int n] ∧ Q (.bl true) H
theorem sc_isWhole : FnScope ["value"] ["value"] (defScope s_isWhole) := ⟨rfl, rfl, rfl, by decide +kernel, rfl, by decide +kernel, by decide +kernel⟩
theorem ok_isWhole (T : Txt K mg D) : FnOk P w K mg base CX0 1 D.f_isWhole D.d_isWhole ["value"] spWhole := by
  refine T.F_isWhole.ok sc_isWhole (fun vs H Q E h => ?_) (fun cdv A outer s H vs Q E hr h => ?_)
  · obtain ⟨n, rfl, _⟩ := h
    rfl
  · obtain ⟨n, rfl, k⟩ := h
    refine ⟨_, pss_one (ps_ret (pe_and (pe_callB call_isi (by rfl) T.b_isinstance (by decide +kernel) (pa_cons (pv 0) (pa_cons (pe_bltn (v := .ty "int") (by rfl) T.b_int (by decide +kernel) rfl) pa_nil)))
      (pe_one (pe_not (pe_callB call_isi (by rfl) T.b_isinstance (by decide +kernel) (pa_cons (pv 0) (pa_cons (pe_bltn (v := .ty "bool") (by rfl) T.b_bool (by decide +kernel) rfl) pa_nil))))))), ?_⟩
    refine ⟨_, rfl, _, _, _, _, true, rfl, .ty _, .base (.int n), kit_ty (by decide +kernel), true, rfl, iteT ?_⟩
    exact ⟨_, rfl, _, _, _, _, false, rfl, .ty _, .base (.int n), kit_ty (by decide +kernel), false, rfl, k⟩

def spIsSize : Sp := fun vs H Q _ => ∃ n : Int, vs = [.int n] ∧ n ∈ SIZES ∧ Q (.bl true) H
theorem sc_isSize : FnScope ["value"] ["value"] (defScope s_isSize) := ⟨rfl, rfl, rfl, by decide +kernel, rfl, by decide +kernel, by decide +kernel⟩
theorem ok_isSize (T : Txt K mg D) : FnOk P w K mg base CX0 2 D.f_isSize D.d_isSize ["value"] spIsSize := by
  refine T.F_isSize.ok sc_isSize (fun vs H Q E h => ?_) (fun cdv A outer s H vs Q E hr h => ?_)
  · obtain ⟨n, rfl, _⟩ := h
    rfl
  · obtain ⟨n, rfl, hn, k⟩ := h
    refine ⟨_, pss_one (ps_ret (pe_and (pe_call (ok_isWhole T) hr (by rfl) T.g_isWhole T.F_isWhole.kp (b_isWhole T) .nil pass0 (pa_cons (pv 0) pa_nil))
      (pe_one (pe_cmpR op_in_seq (pv 0) (pe_glob (v := .ref D.aSIZES) (by rfl) T.gSIZES rfl) (by rfl))))), ?_⟩
    refine ⟨_, rfl, n, rfl, true, rfl, iteT ?_⟩
    refine ⟨_, rfl, D.aSIZES, _, rfl, .inr (T.tSIZES _), rfl, by decide +kernel, ?_⟩
    have e : inV (V.int n) (SIZES.map V.int) = true := by
      revert n
      decide +kernel
    show Q (.bl (inV (V.int n) (SIZES.map V.int))) H
    rw [e]
    exact k

theorem divs_ne {n : Int} (h : 2 ≤ n) : n ∈ divs n := by
  refine List.mem_filter.mpr ⟨List.mem_map.mpr ⟨(n - 2).toNat, List.mem_range.mpr (by omega), by omega⟩, by simp⟩
def spPrime : Sp := fun vs H Q _ => ∃ n : Int, vs = [.int n] ∧ 2 ≤ n ∧ n ≤ 64 ∧ ∀ H', Same H H' → Q (.int (pr n)) H'
theorem sc_primeOf : FnScope ["size", "prime"] ["size"] (defScope s_primeOf) := ⟨rfl, rfl, rfl, by decide +kernel, rfl, by decide +kernel, by decide +kernel⟩
theorem ok_primeOf (T : Txt K mg D) : FnOk P w K mg base CX0 1 D.f_primeOf D.d_primeOf ["size"] spPrime := by
  refine T.F_primeOf.ok sc_primeOf (fun vs H Q E h => ?_) (fun cdv A outer s H vs Q E hr h => ?_)
  · obtain ⟨n, rfl, _⟩ := h
    rfl
  · obtain ⟨n, rfl, h2, h64, k⟩ := h
    refine ⟨_, pss_one (ps_ret (pe_ix ix_list (pe_lc (own := [("prime", 1)]) (g := gName 1) (by rfl) sc_primeOf.nd (pi_range2 (by rfl) T.b_range (pa_cons pe_int (pa_cons (pe_op op_add (pv 0) pe_int) pa_nil)))
      (blkOk_by (N := ["size", "prime"]) (sc := defScope s_primeOf) (own := [("prime", 1)]) (by decide +kernel))
      (fun _ _ _ _ _ => pg_name (i := 1) sc_primeOf.nd rfl (Or.inl rfl)) (fun _ _ _ _ _ => pts_one (pt_cmpR op_eq (pe_op op_mod (pv 0) (pv 1)) pe_int (nomark _))) (fun _ _ _ _ _ => pv 1)) pe_int (fun _ _ => rfl))), ?_⟩
    refine ⟨_, rfl, _, _, rfl, rfl, 2, n + 1, rfl, ⟨by decide, by decide, by omega, by omega⟩, fun d hd => ?_⟩
    have hN : ∀ i : Nat, i < (n + 1 - 2).toNat → ((List.range (n - 1).toNat).map fun (i : Nat) => 2 + (i : Int))[i]? = some (2 + (i : Int)) := fun i hi => by
      rw [List.getElem?_map, List.getElem?_range (by omega)]
      rfl
    refine lc_w walk_range (GM V.int (flT (fun p => decide (n % p = 0)) ((List.range (n - 1).toNat).map fun (i : Nat) => 2 + (i : Int)))) hd (fun _ _ => trivial) (GM.zero (flT_zero ..)) (fun i x acc H0 H' hi s1 h1 h2 g y => ?_) (fun acc H0 s1 h1 g => ?_)
    · obtain ⟨rfl, rfl⟩ := y
      refine ⟨rfl, _, rfl, _, rfl, _, _, rfl, rfl, by show 0 < 2 + (i : Int); omega, rfl, _, rfl, ?_⟩
      refine ite2 (fun e => ?_) (fun e => ?_)
      · have e : n % (2 + (i : Int)) = 0 := V.int.inj (of_decide_eq_true e)
        exact ⟨_, rfl, LcP.put (Same.refl _) s1 hd h1 h2 (by omega) (g.put (flT_yes (hN i hi) (decide_eq_true e)))⟩
      · have e : ¬ n % (2 + (i : Int)) = 0 := fun z => e (decide_eq_true (congrArg V.int z))
        exact LcP.skip (Same.refl _) s1 h1 h2 (g.skip (flT_no (hN i hi) (decide_eq_false e)))
    · have hn : (n + 1 - 2).toNat = ((List.range (n - 1).toNat).map fun (i : Nat) => 2 + (i : Int)).length := by simp; omega
      have g : acc = (divs n).map V.int := g.eq (by rw [hn, flT_all]; rfl)
      have hh : ∃ r, divs n = pr n :: r := by
        have := divs_ne h2
        unfold pr
        cases e : divs n with
        | nil => rw [e] at this; cases this
        | cons a r => exact ⟨r, rfl⟩
      obtain ⟨r, hr⟩ := hh
      rw [g, hr] at h1
      exact ⟨d, _, _, _, rfl, rfl, SqL.of h1, atI_nat (j := 0) rfl, k _ s1⟩
end
end K64W
set_option Elab.async false
set_option maxRecDepth 100000
set_option maxHeartbeats 4000000
namespace K64W
open PySem L2 K64
section
variable {P : Program} {w : World} {K : PySem.W.Frag} {mg : Str → Option Value} {base : Heap} {D : Ad}

theorem pow_step (p : Int) (k : Nat) (hp : 2 ≤ p) : p ^ (k + 1) / p = p ^ k := by
  rw [Int.pow_succ]
  exact Int.mul_ediv_cancel _ (by omega)
theorem pow_big (p : Int) (hp : 2 ≤ p) : ∀ k : Nat, 1 ≤ p ^ k
  | 0 => by simp
  | k + 1 => by
    have ih := pow_big p hp k
    rw [Int.pow_succ]
    have : 1 * 2 ≤ p ^ k * p := Int.mul_le_mul ih hp (by omega) (by omega)
    omega
theorem pow_big1 (p : Int) (hp : 2 ≤ p) (k : Nat) : 1 < p ^ (k + 1) := by
  have ih := pow_big p hp k
  rw [Int.pow_succ]
  have : 1 * 2 ≤ p ^ k * p := Int.mul_le_mul ih hp (by omega) (by omega)
  omega
theorem pow_lt (p : Int) (hp : 2 ≤ p) {j k : Nat} (h : j < k) : p ^ j < p ^ k := by
  induction k with
  | zero => omega
  | succ k ih =>
    have b := pow_big p hp k
    have s : p ^ k < p ^ (k + 1) := by
      rw [Int.pow_succ]
      have : p ^ k * 2 ≤ p ^ k * p := Int.mul_le_mul (Int.le_refl _) hp (by omega) (by omega)
      omega
    by_cases e : j = k
    · rw [e]; exact s
    · have := ih (by omega); omega

/-- a size's answer -/
def spSz (f : Int → V) : Sp := fun vs H Q _ => ∃ n : Int, vs = [.int n] ∧ n ∈ SIZES ∧ ∀ H', Same H H' → Q (f n) H'
theorem sc_degreeOf : FnScope ["size", "prime", "degree"] ["size"] (defScope s_degreeOf) := ⟨rfl, rfl, rfl, by decide +kernel, rfl, by decide +kernel, by decide +kernel⟩
theorem ok_degreeOf (T : Txt K mg D) : FnOk P w K mg base CX0 2 D.f_degreeOf D.d_degreeOf ["size"] (spSz fun n => .int (dg n)) := by
  refine T.F_degreeOf.ok sc_degreeOf (fun vs H Q E h => ?_) (fun cdv A outer s H vs Q E hr h => ?_)
  · obtain ⟨n, rfl, _⟩ := h
    rfl
  · obtain ⟨n, rfl, hn, k⟩ := h
    obtain ⟨hs1, hs2, hs3, hs4, hs5, hs6, hs7⟩ := sizes_ok n hn
    refine ⟨_, pss_cons (ps_par (i := 1) (j := 2) (by rfl) sc_degreeOf.nd rfl rfl (by decide) rfl rfl
        (pa_cons (pe_call (ok_primeOf T) hr (by rfl) T.g_primeOf T.F_primeOf.kp (b_primeOf T) .nil pass0 (pa_cons (pv 0) pa_nil)) (pa_cons pe_int pa_nil)) (by rfl))
      (pss_cons (ps_while PassesOwn.never (pt_cmpR op_gt (pv 0) pe_int (nomark _))
        (pss_cons (ps_set (i := 0) sc_degreeOf.nd rfl (Or.inl rfl) (pe_op op_fdivN (pv 0) (pv 1))) (pss_one (ps_set (i := 2) sc_degreeOf.nd rfl (Or.inl rfl) (pe_op op_add (pv 2) pe_int)))))
      (pss_one (ps_ret (pv 2)))), ?_⟩
    refine ⟨_, rfl, n, rfl, hs6, hs7, fun H1 s1 => ⟨_, _, rfl, ?_⟩⟩
    refine ⟨fun m σ H' => ∃ j : Nat, σ = [some (.int (pr n ^ m)), some (.int (pr n)), some (.int j)] ∧ (j : Int) + m = dg n ∧ Same H H', ⟨(dg n).toNat, 0, by rw [← hs1]; rfl, by omega, s1⟩, ?_⟩
    rintro m σ H' ⟨j, rfl, hj, s2⟩
    refine ⟨_, rfl, _, _, rfl, rfl, _, rfl, ite2 (fun e => ?_) (fun e => ?_)⟩
    · have e : 1 < pr n ^ m := by simpa using e
      cases m with
      | zero => simp at e
      | succ m =>
        refine ⟨fun σ' H' => ∃ j : Nat, σ' = [some (.int (pr n ^ m)), some (.int (pr n)), some (.int j)] ∧ (j : Int) + m = dg n ∧ Same H H', fun σ' H' h => ⟨m, by omega, h⟩, ?_⟩
        refine ⟨_, rfl, _, rfl, _, _, rfl, rfl, ⟨by omega, by omega⟩, _, rfl, _, _, rfl, rfl, j + 1, ?_, by omega, s2⟩
        have q : (pr n ^ (m + 1)).fdiv (pr n) = pr n ^ m := by rw [Int.fdiv_eq_ediv_of_nonneg _ (by omega), pow_step _ _ hs4]
        show [some (V.int ((pr n ^ (m + 1)).fdiv (pr n))), some (V.int (pr n)), some (V.int ((j : Int) + 1))] = _
        rw [q]
        rfl
    · have e : ¬ 1 < pr n ^ m := by simpa using e
      have hm : m = 0 := by
        cases m with
        | zero => rfl
        | succ m => exact absurd (pow_big1 _ hs4 m) e
      subst hm
      refine ⟨_, rfl, ?_⟩
      have : (j : Int) = dg n := by omega
      rw [this]
      exact k _ s2

def spLies : Sp := fun vs H Q _ => ∃ a b : Int, vs = [.int a, .int b] ∧ a ∈ SIZES ∧ b ∈ SIZES ∧ ∀ H', Same H H' → Q (.bl (lies a b)) H'
theorem sc_liesIn : FnScope ["size", "great"] ["size", "great"] (defScope s_liesIn) := ⟨rfl, rfl, rfl, by decide +kernel, rfl, by decide +kernel, by decide +kernel⟩
theorem ok_liesIn (T : Txt K mg D) : FnOk P w K mg base CX0 3 D.f_liesIn D.d_liesIn ["size", "great"] spLies := by
  refine T.F_liesIn.ok sc_liesIn (fun vs H Q E h => ?_) (fun cdv A outer s H vs Q E hr h => ?_)
  · obtain ⟨a, b, rfl, _⟩ := h
    rfl
  · obtain ⟨a, b, rfl, ha, hb, k⟩ := h
    obtain ⟨_, a2, _, _, _, a6, a7⟩ := sizes_ok a ha
    obtain ⟨_, _, _, _, _, b6, b7⟩ := sizes_ok b hb
    have hr1 : Room 1 _ := hr.mono (by decide)
    refine ⟨_, pss_one (ps_ret (pe_and
      (pe_cmpR op_eq (pe_call (ok_primeOf T) hr1 (by rfl) T.g_primeOf T.F_primeOf.kp (b_primeOf T) .nil pass0 (pa_cons (pv 0) pa_nil)) (pe_call (ok_primeOf T) hr1 (by rfl) T.g_primeOf T.F_primeOf.kp (b_primeOf T) .nil pass0 (pa_cons (pv 1) pa_nil)) (nomark _))
      (pe_one (pe_cmpR op_eq (pe_op op_mod (pe_call (ok_degreeOf T) hr (by rfl) T.g_degreeOf T.F_degreeOf.kp (b_degreeOf T) .nil pass0 (pa_cons (pv 1) pa_nil)) (pe_call (ok_degreeOf T) hr (by rfl) T.g_degreeOf T.F_degreeOf.kp (b_degreeOf T) .nil pass0 (pa_cons (pv 0) pa_nil))) pe_int (nomark _))))), ?_⟩
    refine ⟨_, rfl, a, rfl, a6, a7, fun H1 s1 => ⟨_, rfl, b, rfl, b6, b7, fun H2 s2 => ⟨rfl, _, rfl, ite2 (fun e => ?_) (fun e => ?_)⟩⟩⟩
    · refine ⟨_, rfl, b, rfl, hb, fun H3 s3 => ⟨_, rfl, a, rfl, ha, fun H4 s4 => ⟨_, _, rfl, rfl, by show 0 < dg a; omega, rfl, ?_⟩⟩⟩
      have e : pr a = pr b := V.int.inj (of_decide_eq_true e)
      have q : decide (V.int (dg b % dg a) = V.int 0) = lies a b := by
        unfold lies
        rw [decide_eq_true e, Bool.true_and, decide_eq_decide]
        exact ⟨fun z => V.int.inj z, fun z => congrArg V.int z⟩
      show Q (.bl (decide (V.int (dg b % dg a) = V.int 0))) H4
      rw [q]
      exact k _ (((s1.trans s2).trans s3).trans s4)
    · have e : ¬ pr a = pr b := fun z => e (decide_eq_true (congrArg V.int z))
      have q : lies a b = false := by
        unfold lies
        rw [decide_eq_false e, Bool.false_and]
      rw [← q]
      exact k _ (s1.trans s2)

/-- the law's own reckoning of a size -/
def spSplit : Sp := fun vs H Q _ => ∃ n : Int, vs = [.int n] ∧ n ∈ SIZES ∧ ∀ H' t, Same H H' → H' t = none → Q (.ref t) (upd H' t (.tup [.int (pr n), .int (dg n)]))
theorem sc_lSplit : FnScope ["_law_size", "_law_prime", "_law_many", "_law_degree", "_law_one_here"] ["_law_size"] (defScope s_lSplit) := ⟨rfl, rfl, rfl, by decide +kernel, rfl, by decide +kernel, by decide +kernel⟩
theorem ok_lSplit (T : Txt K mg D) : FnOk P w K mg base CX0 1 D.f_lSplit D.d_lSplit ["_law_size"] spSplit := by
  refine T.F_lSplit.ok sc_lSplit (fun vs H Q E h => ?_) (fun cdv A outer s H vs Q E hr h => ?_)
  · obtain ⟨n, rfl, _⟩ := h
    rfl
  · obtain ⟨n, rfl, hn, k⟩ := h
    obtain ⟨hs1, hs2, hs3, hs4, hs5, hs6, hs7⟩ := sizes_ok n hn
    refine ⟨_, pss_cons (ps_set (i := 1) sc_lSplit.nd rfl (Or.inl rfl) (pe_ix ix_list (pe_lc (own := [("_law_one_here", 4)]) (g := gName 4) (by rfl) sc_lSplit.nd (pi_range2 (by rfl) T.b_range (pa_cons pe_int (pa_cons (pe_op op_add (pv 0) pe_int) pa_nil)))
      (blkOk_by (N := ["_law_size", "_law_prime", "_law_many", "_law_degree", "_law_one_here"]) (sc := defScope s_lSplit) (own := [("_law_one_here", 4)]) (by decide +kernel))
      (fun _ _ _ _ _ => pg_name (i := 4) sc_lSplit.nd rfl (Or.inl rfl)) (fun _ _ _ _ _ => pts_one (pt_cmpR op_eq (pe_op op_mod (pe_callTy call_int1 (by rfl) T.b_int (by decide +kernel) (pa_cons (pv 0) pa_nil)) (pv 4)) pe_int (nomark _))) (fun _ _ _ _ _ => pv 4)) pe_int (fun _ _ => rfl)))
      (pss_cons (ps_par (i := 2) (j := 3) (by rfl) sc_lSplit.nd rfl rfl (by decide) rfl rfl (pa_cons (pv 1) (pa_cons pe_int pa_nil)) (by rfl))
      (pss_cons (ps_while PassesOwn.never (pt_cmpR op_lt (pv 2) (pv 0) (nomark _))
        (pss_one (ps_par (i := 2) (j := 3) (by rfl) sc_lSplit.nd rfl rfl (by decide) rfl rfl (pa_cons (pe_op op_mul (pv 2) (pv 1)) (pa_cons (pe_op op_add (pv 3) pe_int) pa_nil)) (by rfl))))
      (pss_one (ps_ret (pe_tup (pa_cons (pv 1) (pa_cons (pv 3) pa_nil))))))), ?_⟩
    refine ⟨_, rfl, _, _, rfl, rfl, 2, n + 1, rfl, ⟨by decide, by decide, by omega, by omega⟩, fun d hd => ?_⟩
    have hN : ∀ i : Nat, i < (n + 1 - 2).toNat → ((List.range (n - 1).toNat).map fun (i : Nat) => 2 + (i : Int))[i]? = some (2 + (i : Int)) := fun i hi => by
      rw [List.getElem?_map, List.getElem?_range (by omega)]
      rfl
    refine lc_w walk_range (GM V.int (flT (fun p => decide (n % p = 0)) ((List.range (n - 1).toNat).map fun (i : Nat) => 2 + (i : Int)))) hd (fun _ _ => trivial) (GM.zero (flT_zero ..)) (fun i x acc H0 H' hi s1 h1 h2 g y => ?_) (fun acc H0 s1 h1 g => ?_)
    · obtain ⟨rfl, rfl⟩ := y
      refine ⟨rfl, _, rfl, .inl ⟨_, rfl, _, rfl, _, _, rfl, rfl, by show 0 < 2 + (i : Int); omega, rfl, _, rfl, ?_⟩⟩
      refine ite2 (fun e => ?_) (fun e => ?_)
      · have e : n % (2 + (i : Int)) = 0 := V.int.inj (of_decide_eq_true e)
        exact ⟨_, rfl, LcP.put (Same.refl _) s1 hd h1 h2 (by omega) (g.put (flT_yes (hN i hi) (decide_eq_true e)))⟩
      · have e : ¬ n % (2 + (i : Int)) = 0 := fun z => e (decide_eq_true (congrArg V.int z))
        exact LcP.skip (Same.refl _) s1 h1 h2 (g.skip (flT_no (hN i hi) (decide_eq_false e)))
    · have hl : (n + 1 - 2).toNat = ((List.range (n - 1).toNat).map fun (i : Nat) => 2 + (i : Int)).length := by simp; omega
      have g : acc = (divs n).map V.int := g.eq (by rw [hl, flT_all]; rfl)
      have hh : ∃ r, divs n = pr n :: r := by
        have := divs_ne hs6
        unfold pr
        cases e : divs n with
        | nil => rw [e] at this; cases this
        | cons a r => exact ⟨r, rfl⟩
      obtain ⟨r, hr⟩ := hh
      rw [g, hr] at h1
      refine ⟨d, _, _, _, rfl, rfl, SqL.of h1, atI_nat (j := 0) rfl, _, rfl, _, _, rfl, ?_⟩
      refine ⟨fun m σ H' => ∃ (j : Nat) (v : Option V), σ = [some (.int n), some (.int (pr n)), some (.int (pr n ^ j)), some (.int j), v] ∧ (j : Int) + m = dg n ∧ Same H H', ⟨(dg n - 1).toNat, 1, none, by rw [Int.pow_succ, Int.pow_zero, Int.one_mul]; rfl, by omega, s1⟩, ?_⟩
      rintro m σ H' ⟨j, v, rfl, hj, s2⟩
      have hn2 : n = pr n ^ (j + m) := by
        have : (dg n).toNat = j + m := by omega
        rw [← this]; exact hs1
      refine ⟨_, rfl, _, rfl, _, _, rfl, rfl, _, rfl, ite2 (fun e => ?_) (fun e => ?_)⟩
      · have e : pr n ^ j < n := by simpa using e
        cases m with
        | zero =>
          have : n = pr n ^ j := hn2
          omega
        | succ m =>
          refine ⟨fun σ' H' => ∃ (j : Nat) (v : Option V), σ' = [some (.int n), some (.int (pr n)), some (.int (pr n ^ j)), some (.int j), v] ∧ (j : Int) + m = dg n ∧ Same H H', fun σ' H' h => ⟨m, by omega, h⟩, ?_⟩
          refine ⟨_, rfl, _, rfl, _, _, rfl, rfl, .inr ⟨by omega, by omega⟩, _, rfl, _, _, rfl, rfl, _, _, rfl, j + 1, v, ?_, by omega, s2⟩
          rw [Int.pow_succ]
          rfl
      · have e : ¬ pr n ^ j < n := by simpa using e
        have hm : m = 0 := by
          cases m with
          | zero => rfl
          | succ m =>
            have := pow_lt (pr n) hs4 (j := j) (k := j + (m + 1)) (by omega)
            rw [← hn2] at this
            exact absurd this e
        subst hm
        refine ⟨_, rfl, _, rfl, by show 2 ≤ sizeLine; decide, fun t ht => ?_⟩
        have : (j : Int) = dg n := by omega
        rw [this]
        exact k _ _ s2 ht
theorem sc_lLies : FnScope ["_law_size", "_law_great", "_law_one_here", "_law_other"] ["_law_size", "_law_great"] (defScope s_lLies) := ⟨rfl, rfl, rfl, by decide +kernel, rfl, by decide +kernel, by decide +kernel⟩
theorem ok_lLies (T : Txt K mg D) : FnOk P w K mg base CX0 2 D.f_lLies D.d_lLies ["_law_size", "_law_great"] spLies := by
  refine T.F_lLies.ok sc_lLies (fun vs H Q E h => ?_) (fun cdv A outer s H vs Q E hr h => ?_)
  · obtain ⟨a, b, rfl, _⟩ := h
    rfl
  · obtain ⟨a, b, rfl, ha, hb, k⟩ := h
    obtain ⟨_, a2, _, _, _, a6, a7⟩ := sizes_ok a ha
    refine ⟨_, pss_cons (ps_par (i := 2) (j := 3) (by rfl) sc_lLies.nd rfl rfl (by decide) rfl rfl
        (pa_cons (pe_call (ok_lSplit T) hr (by rfl) T.g_lSplit T.F_lSplit.kp (b_lSplit T) .nil pass0 (pa_cons (pv 0) pa_nil)) (pa_cons (pe_call (ok_lSplit T) hr (by rfl) T.g_lSplit T.F_lSplit.kp (b_lSplit T) .nil pass0 (pa_cons (pv 1) pa_nil)) pa_nil)) (by rfl))
      (pss_one (ps_ret (pe_and (pe_cmpR op_eq (pe_ix ix_tup (pv 2) pe_int (fun _ _ => rfl)) (pe_ix ix_tup (pv 3) pe_int (fun _ _ => rfl)) (nomark _))
        (pe_one (pe_cmpR op_eq (pe_op op_mod (pe_callTy call_int1 (by rfl) T.b_int (by decide +kernel) (pa_cons (pe_ix ix_tup (pv 3) pe_int (fun _ _ => rfl)) pa_nil)) (pe_ix ix_tup (pv 2) pe_int (fun _ _ => rfl))) pe_int (nomark _)))))), ?_⟩
    refine ⟨_, rfl, a, rfl, ha, fun H1 t s1 ht => ⟨_, rfl, b, rfl, hb, fun H2 u s2 hu => ⟨_, _, rfl, ?_⟩⟩⟩
    have e1 : (upd H2 u (.tup [.int (pr b), .int (dg b)])) t = some (.tup [.int (pr a), .int (dg a)]) := (s2.new hu) _ _ upd_same
    have e2 : (upd H2 u (.tup [.int (pr b), .int (dg b)])) u = some (.tup [.int (pr b), .int (dg b)]) := upd_same
    have s3 : Same H (upd H2 u (.tup [.int (pr b), .int (dg b)])) := (s1.new ht).trans (s2.new hu)
    refine ⟨_, rfl, t, _, 0, _, rfl, rfl, SqT.of e1, atI_nat (j := 0) rfl, _, rfl, u, _, 0, _, rfl, rfl, SqT.of e2, atI_nat (j := 0) rfl, rfl, _, rfl, ite2 (fun e => ?_) (fun e => ?_)⟩
    · refine ⟨_, rfl, u, _, 1, _, rfl, rfl, SqT.of e2, atI_nat (j := 1) rfl, .inl ⟨_, rfl, _, rfl, t, _, 1, _, rfl, rfl, SqT.of e1, atI_nat (j := 1) rfl, _, _, rfl, rfl, by show 0 < dg a; omega, rfl, ?_⟩⟩
      have e : pr a = pr b := V.int.inj (of_decide_eq_true e)
      have q : decide (V.int (dg b % dg a) = V.int 0) = lies a b := by
        unfold lies
        rw [decide_eq_true e, Bool.true_and, decide_eq_decide]
        exact ⟨fun z => V.int.inj z, fun z => congrArg V.int z⟩
      show Q (.bl (decide (V.int (dg b % dg a) = V.int 0))) _
      rw [q]
      exact k _ s3
    · have e : ¬ pr a = pr b := fun z => e (decide_eq_true (congrArg V.int z))
      have q : lies a b = false := by
        unfold lies
        rw [decide_eq_false e, Bool.false_and]
      rw [← q]
      exact k _ s3
end
end K64W
set_option Elab.async false
set_option maxRecDepth 100000
set_option maxHeartbeats 4000000
/-! Comprehensions of any kind, cut in three: a loop whatever its turns do, the loop over the layer, the way into the block. -/
namespace K64R
open PySem PySem.Spec PyProof.Rows L2

abbrev Nil0 : Value → Shared → Prop := fun _ _ => False
section
variable {prog : Program} {w : World} {A : Around} {R : Result → Shared → Prop} {s : Shared} {comp tg : Expr} {ifs : List Expr} {lvl : Nat} {p : Pos} {it acc : Value} {env : Env} {body : Sem Unit}
theorem loop_body (shape : compTurn comp lvl it acc env = (do
      standAt p
      match ← pyNext it with
      | none => pure (.done .next)
      | some v =>
        letOwnedTupleGo tg it v
        assign tg env v
        let mut ok := true
        for c in ifs do
          if ok then ok ← isTrue c env (eval c env)
        if ok then body
        again (.compLoop comp lvl it acc env)))
    (hden : (model prog w).den (.compLoop comp lvl it acc env) = (compTurn comp lvl it acc env).onRaise fun x => do noteFrame x env; theTreesLotGoes x) (hun : A.under (.compLoop comp lvl it acc env) = A) (I : Nat → Shared → Prop)
    (turn : ∀ n s, I n s → wpAny (model prog w) A (pyNext it) (fun r s1 => match r with
      | none => R (.ok .next) s1
      | some v => wpAny (model prog w) A (letOwnedTupleGo tg it v) (fun _ s2 => wpAny (model prog w) A (assign tg env v) (fun _ s3 =>
          wpAny (model prog w) A (forIn ifs true fun c r => if r = true then do let ok ← isTrue c env (eval c env); pure (ForInStep.yield ok) else pure (ForInStep.yield r))
            (fun ok s4 => if ok = true then wpAny (model prog w) A body (fun _ s5 => ∃ m, m < n ∧ I m s5) Nil0 s4 else ∃ m, m < n ∧ I m s4) Nil0 s3) Nil0 s2) Nil0 s1) Nil0 s)
    (n : Nat) (h : I n s) : codeAny (model prog w) A (.compLoop comp lvl it acc env) R s := by
  refine codeAny_loop rfl I (fun n s hI => ?_) n h
  rw [hun, hden, shape]
  refine wpAny_noted (wpAny_bind (wpAny_standAt (wpAny_bind (thnF (turn n s hI) fun r s1 h1 => ?_))))
  cases r with
  | none => exact wpAny_pure h1
  | some v =>
    refine wpAny_bind (thnF h1 fun _ s2 h2 => wpAny_bind (thnF h2 fun _ s3 h3 => wpAny_bind (thnF h3 fun ok s4 h4 => ?_)))
    cases ok with
    | false => exact wpAny_pure ⟨rfl, h4⟩
    | true => exact wpAny_bind (thnF h4 fun _ s5 h5 => wpAny_pure ⟨rfl, h5⟩)
end

section
variable {X : Cx} {comp tg : Expr} {ifs : List Expr} {lvl : Nat} {p : Pos} {it : Addr} {acc : Value} {body : Sem Unit}
theorem wipe_keep {σ2 σb : L2.St} {vs vs1 : List Nat} (e : wipe σ2 vs = wipe σb vs) (hv : ∀ i ∈ vs1, i ∈ vs) (j : Nat) (v : V) (h : (wipe σb vs)[j]? = some (some v)) : (wipe σ2 vs1)[j]? = some (some v) := by
  rw [← e] at h
  obtain ⟨h1, h2⟩ := wipe_some h
  rw [wipe_out fun z => h2 (hv j z)]
  exact h1
theorem loop_inv (hc : X.calm = true) (hx : X.xe = fun _ _ => False)
    (shape : compTurn comp lvl (.ref it) acc X.env = (do
      standAt p
      match ← pyNext (.ref it) with
      | none => pure (.done .next)
      | some v =>
        letOwnedTupleGo tg (.ref it) v
        assign tg X.env v
        let mut ok := true
        for c in ifs do
          if ok then ok ← isTrue c X.env (eval c X.env)
        if ok then body
        again (.compLoop comp lvl (.ref it) acc X.env)))
    (hden : (model X.prog X.w).den (.compLoop comp lvl (.ref it) acc X.env) = (compTurn comp lvl (.ref it) acc X.env).onRaise fun x => do noteFrame x X.env; theTreesLotGoes x) (hun : X.A.under (.compLoop comp lvl (.ref it) acc X.env) = X.A)
    {g : TG} {tt : TT} (pg : PG X tg g) (pt : PTs X ifs tt) {vs vs1 : List Nat} (hv : ∀ i ∈ vs1, i ∈ vs) {BT : L2.St → Hp → (Hp → Prop) → Prop}
    (hb : ∀ pins s σ H N, Inv X pins σ H s → BT σ H N → wpAny (model X.prog X.w) X.A body (fun _ s' => ∃ H', Inv X pins (wipe σ vs1) H' s' ∧ N H') Nil0 s)
    {J : It} {fp : List Addr} {tn : Nat → Heap → Prop} (T : Turn X.prog X.w X.K tg J fp it tn) {pins : List (Addr × Obj)} {σb : L2.St} {Dn : Hp → Prop} {R : Result → Shared → Prop}
    (stat : ∀ H', (∀ b ∈ fp, H' b = none) → ∀ b ∈ fp, FpOk X pins H' b) (W : Nat → Nat → Hp → Prop)
    (turn : ∀ i m H, W i m H → (J.stop i H ∧ Dn H) ∨ (J.go i H ∧ ∃ Nx : Hp → Prop, (∀ H', Nx H' → ∃ m', m' < m ∧ W (i + 1) m' H') ∧ ∀ x H', J.yld i H x H' → g x (wipe σb vs) H' fun σ2 H2 => wipe σ2 vs = wipe σb vs ∧ tt σ2 H2 fun b H3 =>
      if b = true then BT σ2 H3 Nx else Nx H3))
    (hR : ∀ s' H', Inv X pins (wipe σb vs) H' s' → Dn H' → R (.ok .next) s') {s : Shared} {H : Hp} {m : Nat} (I : Inv X pins (wipe σb vs) H s) (st : tn 0 s.heap) (nf : ∀ b ∈ fp, H b = none) (w0 : W 0 m H) :
    codeAny (model X.prog X.w) X.A (.compLoop comp lvl (.ref it) acc X.env) R s := by
  refine loop_body shape hden hun (fun n s' => ∃ i H', Inv X pins (wipe σb vs) H' s' ∧ tn i s'.heap ∧ (∀ b ∈ fp, H' b = none) ∧ W i n H') ?_ m ⟨0, H, I, st, nf, w0⟩
  rintro n s1 ⟨i, H1, I1, st1, nf1, w1⟩
  rcases turn i n H1 w1 with ⟨stop, dn⟩ | ⟨go, Nx, hN, step⟩
  · refine thnF (T.done X rfl rfl rfl hc i pins s1 _ H1 Nil0 I1 (stat _ nf1) st1 stop) fun r s2 ⟨hr, I2⟩ => ?_
    subst hr
    exact hR s2 H1 I2 dn
  · refine thnF (T.item X rfl rfl rfl hc i pins s1 _ H1 Nil0 I1 (stat _ nf1) st1 go) fun r s2 ⟨u, hr, h2⟩ => ?_
    subst hr
    refine thnF h2 fun _ s3 ⟨x, H3, I3, r3, y3, st3, nf3⟩ => ?_
    have I3' := I3.pinned (stat _ nf3) (T.obj _ _ st3)
    have run1 := pg.run _ s3 _ H3 x u _ I3' r3 (step x H3 y3)
    rw [hx] at run1
    refine thnF run1 fun _ s4 ⟨σ4, H4, I4, e4, q4⟩ => ?_
    have run2 := pt.run _ s4 σ4 H4 _ I4 q4
    rw [hx] at run2
    refine thnF run2 fun b s5 ⟨H5, I5, q5⟩ => ?_
    have fin : ∀ {s' : Shared} {H' : Hp} {v1 : List Nat}, (∀ i ∈ v1, i ∈ vs) → Inv X (pins ++ pinsAt fp s3.heap) (wipe σ4 v1) H' s' → Nx H' → ∃ m, m < n ∧ ∃ i H', Inv X pins (wipe σb vs) H' s' ∧ tn i s'.heap ∧ (∀ b ∈ fp, H' b = none) ∧ W i m H' := fun {s' H' v1} hv1 I' nx => by
      obtain ⟨m', hm, w'⟩ := hN H' nx
      have pin' : ∀ b ∈ fp, ∀ o, s3.heap.get? b = some o → s'.heap.get? b = some o ∧ H' b = none := fun b hb o e =>
        ⟨(I'.pin (b, o) (List.mem_append_right _ (List.mem_append_right _ (mem_pinsAt hb e)))).1, (I'.pin (b, o) (List.mem_append_right _ (List.mem_append_right _ (mem_pinsAt hb e)))).2.1⟩
      refine ⟨m', hm, i + 1, H', I'.unpinned.weak ?_ (wipe_keep e4 hv1), T.keep _ _ _ st3 fun b hb o e => (pin' b hb o e).1, fun b hb => ?_, w'⟩
      · rw [← e4, wipe_length, wipe_length]
      · obtain ⟨o, e, _⟩ := T.obj _ _ st3 b hb
        exact (pin' b hb o e).2
    cases b with
    | false => exact fin (v1 := []) (fun _ h => nomatch h) I5 q5
    | true => exact thnF (hb _ s5 σ4 H5 Nx I5 q5) fun _ s6 ⟨H6, I6, nx⟩ => fin hv I6 nx
end

/-! ### the way into a comprehension's block -/
section
variable {X : Cx}
theorem comp_in {pins : List (Addr × Obj)} {s : Shared} {σ : L2.St} {H : Hp} {Q : VK} {comp tg iter : Expr} {ifs : List Expr} {more : List Comprehension} {scope : Scope} {own : List (Str × Nat)} {pos : Pos} {wi : TI} {mk : Sem Value} {ob : Obj} {O0 : Addr → HO}
    {REST : It → Addr → Hp → Prop}
    (hcl : clausesOf comp = ⟨tg, iter, ifs, 0⟩ :: more) (hc : X.calm = true) (hN : X.N.Nodup) (I : Inv X pins σ H s) (hi : PI X tg iter wi) (ok : BlkOk X.N X.env.scope scope own) (hs : ∀ x, foldedSetIterable iter X.env x = pure x)
    (hmk : ∀ {E : Value → Shared → Prop} {Q : Value → Shared → Prop} {s : Shared}, Q (.ref s.heap.objs.size) { s with heap := s.heap.push ob } → wpAny (model X.prog X.w) X.A mk Q E s)
    (hob : ∀ {pins : List (Addr × Obj)} {σ : L2.St} {H : Hp} {s : Shared}, Inv X pins σ H s → ObjOk X.prog X.w (upd H s.heap.objs.size (O0 s.heap.objs.size)) (s.heap.push ob) s.heap.objs.size (O0 s.heap.objs.size))
    (h : wi σ H fun J H1 => ∀ D, H1 D = none → REST J D (upd H1 D (O0 D)))
    (loop : ∀ (s3 : Shared) (H3 : Hp) (cl : List (Str × Addr)) (fp : List Addr) (it D : Addr) (tn : Nat → Heap → Prop) (J : It) (s4 : Shared) (R : Result → Shared → Prop), Inv (X.blk s3 H3 scope (compEnvC scope cl s3.heap.objs.size X.env) fp) [] (wipe σ (own.map (·.2))) H3 s4 →
      Turn X.prog X.w X.K tg J fp it tn → tn 0 s4.heap → (∀ b ∈ fp, H3 b = none) → (∀ H', (∀ b ∈ fp, H' b = none) → ∀ b ∈ fp, FpOk (X.blk s3 H3 scope (compEnvC scope cl s3.heap.objs.size X.env) fp) [] H' b) → REST J D H3 →
      (∀ s' H', Inv (X.blk s3 H3 scope (compEnvC scope cl s3.heap.objs.size X.env) fp) [] (wipe σ (own.map (·.2))) H' s' → Q (.ref D) H' → R (.ok .next) s') →
      codeAny (model X.prog X.w) X.A (.compStart comp 0 (.ref it) (.ref D) (compEnvC scope cl s3.heap.objs.size X.env)) R s4) :
    wpAny (model X.prog X.w) X.A (comprehension comp scope X.env pos mk false (eval iter X.env)) (EP X pins σ Q) X.xe s := by
  have hfree : ∀ y ∈ scope.names, y.2 = .free → ∃ c, X.env.cells.lookup y.1 = some c := fun y hy e => (ok.free y hy e).elim (fun k => I.ok.has _ (.inl k)) fun k => I.ok.has _ (.inr k)
  refine wpAny_comprehension_free (use := none) hcl hs (closure_ok hfree) ok.kind (fun y hy e => by rw [ok.uniq y hy, e]) (thn (hi.run pins s σ H _ I h) fun xv s1 hx => thn hx fun itv s2 h2 => ?_)
  obtain ⟨it, fp, tn, J, H2, e, I2, T, st2, f2, q⟩ := h2
  subst e
  refine hmk (newEnv_comp ?_)
  have big : ∀ b ∈ fp, b < s2.heap.objs.size := fun b hb => by
    obtain ⟨o, e, _⟩ := T.obj _ _ st2 b hb
    exact Heap.lt_size e
  generalize hD : s2.heap.objs.size = D
  have hDn : H2 D = none := I2.hok.fresh (Nat.le_of_eq hD)
  have q0 := q D hDn
  have I3 : Inv X pins σ (upd H2 D (O0 D)) { s2 with heap := s2.heap.push ob } := by
    refine I2.laid (t' := s2.toks) (fun b o e => Heap.get?_push_of_some _ e) (Nat.le_of_eq hD) ?_
    rw [← hD]
    exact hob I2
  have f3 : ∀ b ∈ fp, FpOk X pins (upd H2 D (O0 D)) b ∧ b < (s2.heap.push ob).objs.size := fun b hb => by
    refine ⟨⟨?_, (f2 b hb).2⟩, by rw [Heap.size_push]; exact Nat.lt_succ_of_lt (big b hb)⟩
    rw [upd_ne (by rw [← hD]; exact Nat.ne_of_lt (big b hb))]
    exact (f2 b hb).1
  have st3 : tn 0 (s2.heap.push ob) := T.keep _ _ _ st2 fun b _ o e => Heap.get?_push_of_some _ e
  have I4 := block_start I3 ok hN f3
  have nf3 : ∀ b ∈ fp, (upd H2 D (O0 D)) b = none := fun b hb => (f3 b hb).1.1
  refine loop { s2 with heap := s2.heap.push ob } (upd H2 D (O0 D)) _ fp it D tn J _ (compPost (model X.prog X.w) X.A X.xe none (EP X pins σ Q) (.ref D) (s2.heap.push ob).objs.size) I4 T (T.keep _ _ _ st3 fun b _ o e => pushCells_keeps _ _ _ _ (Heap.get?_push_of_some _ e)) nf3 (fun H' hn b hb => ?_) q0 fun s6 H6 I6 q6 => ?_
  · exact ⟨hn b hb, (I4.ok.exf b hb).1, I4.ok.exfs b hb, .inl hb, fun x c e => (I4.ok.exf b hb).2 x c e, fun p hp => absurd (show p ∈ ([] : List (Addr × Obj)) ++ [] from hp) (by simp)⟩
  · have I7 : Inv X pins σ H6 s6 := I3.call' (ch := fp) I6.os I6.base I6.hok I6.bare fun b hb => ⟨(f3 b hb).1.2.2.2.1, (f3 b hb).1.2.1, (f3 b hb).1.2.2.2.2.1, (f3 b hb).1.2.2.2.2.2⟩
    have nC : H6 (s2.heap.push ob).objs.size = none := I6.free
    obtain ⟨m, hn, _⟩ := I6.loc
    have hn : s6.heap.Ns (s2.heap.push ob).objs.size m := hn
    refine ⟨m, hn, fun h'' sb => ?_⟩
    obtain ⟨f0, f1, _, f3', f4, f5⟩ := I3.fpOk (Nat.le_refl _) nC
    exact ⟨.ref D, H6, I7.turned (t' := s6.toks) (fun b o hb e => (sb.2 b hb).trans e) f0 f1 f3' f4 f5, rfl, q6⟩
end
end K64R
set_option Elab.async false
set_option maxRecDepth 100000
set_option maxHeartbeats 4000000
/-! Set comprehensions of ints; dict comprehensions of two clauses whose keys are tuples. -/
namespace K64R
open PySem PySem.Spec PyProof.Rows L2
section
variable {prog : Program} {w : World} {A : Around} {R : Result → Shared → Prop} {s : Shared} {comp tg iter : Expr} {ifs : List Expr} {lvl : Nat} {it acc : Value} {env : Env}
theorem start_any (hden : (model prog w).den (.compStart comp lvl it acc env) = (compStart comp lvl it acc env).onRaise fun x => do noteFrame x env; standAt theWindowsPlace) (hun : A.under (.compStart comp lvl it acc env) = A)
    (hcl : (clausesOf comp)[lvl]? = some ⟨tg, iter, ifs, 0⟩) (h0 : codeAny (model prog w) A (.compLoop comp lvl it acc env) R s)
    (h : wpAny (model prog w) A (pyIter it) (fun it' s' => codeAny (model prog w) A (.compLoop comp lvl it' acc env) R s') Nil0 s) (hq : ∀ it', (Code.compLoop comp lvl it' acc env).quiet = true) : codeAny (model prog w) A (.compStart comp lvl it acc env) R s := by
  refine codeAny_of_tree ?_
  rw [hun, hden]
  refine wpAny_notedAt ?_
  unfold compStart
  rw [hcl]
  show wpAny _ _ (ask >>= _) _ _ s
  refine wpAny_bind (wpAny_askSetting (wpAny_ite ?_))
  split
  · first
      | exact wpAny_bind (wpAny_pure (wpAny_pure (And.intro (hq _) h0)))
      | exact wpAny_pure (And.intro (hq _) h0)
  · refine wpAny_bind (wpAny_rule ?_)
    first
      | exact wpAny_bind (wpAny_standAt (wpAny_bind (thnF h fun it' s' h' => wpAny_pure (And.intro (hq _) h'))))
      | (show wpAny _ _ (standAt iter.pos >>= _) _ _ s; exact wpAny_bind (wpAny_standAt (wpAny_bind (thnF h fun it' s' h' => wpAny_pure (And.intro (hq _) h')))))
end

section
variable {X : Cx}
/-- {elt for tg in iter if ..}, elt an int: D the new set -/
def tSci (w : World) (wi : TI) (g : TG) (tt : TT) (te : TE) (vs : List Nat) : TE := fun σ H Q => wi σ H fun J H1 => ∀ D, H1 D = none → ∃ W : Nat → Nat → Hp → Prop, (∃ m, W 0 m (upd H1 D (SetO w D (fun _ => false) 0))) ∧ ∀ i m H, W i m H →
  (J.stop i H ∧ Q (.ref D) H) ∨ (J.go i H ∧ ∃ Nx : Hp → Prop, (∀ H', Nx H' → ∃ m', m' < m ∧ W (i + 1) m' H') ∧ ∀ x H', J.yld i H x H' → g x (wipe σ vs) H' fun σ2 H2 => wipe σ2 vs = wipe σ vs ∧ tt σ2 H2 fun b H3 =>
    if b = true then te σ2 H3 fun y H4 => ∃ (k : Int) (S : Int → Bool) (n : Nat), y = .int k ∧ H4 D = some (SetO w D S n) ∧ n + 1 < scanBound ∧ Nx (upd H4 D (SetO w D (fun j => S j || decide (j = k)) (if S k = true then n else n + 1))) else Nx H3)
theorem setO_first (w : World) (P : Program) (H : Hp) (h : Heap) : ObjOk P w (upd H h.objs.size (SetO w h.objs.size (fun _ => false) 0)) (h.push { cls := .type "set", dict := none, data := .set #[] 0 (.fresh 0 0 (!w.params.followText "set-order")) }) h.objs.size (SetO w h.objs.size (fun _ => false) 0) := by
  refine setO_new ?_
  have := setR_new_at (w := w) (ns := []) (h := h.push { cls := .type "set", dict := none, data := .set #[] 0 (.fresh 0 0 (!w.params.followText "set-order")) }) (a := h.objs.size) (Heap.get?_push_size _ rfl)
  simpa using this
theorem pe_sci {elt tg iter : Expr} {ifs : List Expr} {scope : Scope} {own : List (PySem.Str × Nat)} {pos : Pos} {wi : TI} {g : TG} {tt : TT} {te : TE} (hc : X.calm = true) (hN : X.N.Nodup) (hi : PI X tg iter wi) (ok : BlkOk X.N X.env.scope scope own)
    (hg : ∀ (s : Shared) (H : Hp) (C : Addr) (cl : List (PySem.Str × Addr)) (fp : List Addr), PG (X.blk s H scope (compEnvC scope cl C X.env) fp) tg g) (ht : ∀ (s : Shared) (H : Hp) (C : Addr) (cl : List (PySem.Str × Addr)) (fp : List Addr), PTs (X.blk s H scope (compEnvC scope cl C X.env) fp) ifs tt)
    (he : ∀ (s : Shared) (H : Hp) (C : Addr) (cl : List (PySem.Str × Addr)) (fp : List Addr), PE (X.blk s H scope (compEnvC scope cl C X.env) fp) elt te) (hs : ∀ x, foldedSetIterable iter X.env x = pure x := by intro _; rfl) :
    PE X (.SetComp elt [⟨tg, iter, ifs, 0⟩] scope pos) (tSci X.w wi g tt te (own.map (·.2))) := by
  refine ⟨fun pins s σ H Q I h => ?_⟩
  rw [PpSet.eval_SetComp]
  have h : wi σ H fun J H1 => ∀ D, H1 D = none → ∃ W : Nat → Nat → Hp → Prop, (∃ m, W 0 m (upd H1 D (SetO X.w D (fun _ => false) 0))) ∧ ∀ i m H, W i m H → (J.stop i H ∧ Q (.ref D) H) ∨ (J.go i H ∧ ∃ Nx : Hp → Prop, (∀ H', Nx H' → ∃ m', m' < m ∧ W (i + 1) m' H') ∧ ∀ x H', J.yld i H x H' → g x (wipe σ (own.map (·.2))) H' fun σ2 H2 => wipe σ2 (own.map (·.2)) = wipe σ (own.map (·.2)) ∧ tt σ2 H2 fun b H3 =>
    if b = true then te σ2 H3 fun y H4 => ∃ (k : Int) (S : Int → Bool) (n : Nat), y = .int k ∧ H4 D = some (SetO X.w D S n) ∧ n + 1 < scanBound ∧ Nx (upd H4 D (SetO X.w D (fun j => S j || decide (j = k)) (if S k = true then n else n + 1))) else Nx H3) := h
  refine comp_in (REST := fun J D H3 => ∃ W : Nat → Nat → Hp → Prop, (∃ m, W 0 m H3) ∧ ∀ i m H, W i m H → (J.stop i H ∧ Q (.ref D) H) ∨ (J.go i H ∧ ∃ Nx : Hp → Prop, (∀ H', Nx H' → ∃ m', m' < m ∧ W (i + 1) m' H') ∧ ∀ x H', J.yld i H x H' → g x (wipe σ (own.map (·.2))) H' fun σ2 H2 => wipe σ2 (own.map (·.2)) = wipe σ (own.map (·.2)) ∧ tt σ2 H2 fun b H3 =>
    if b = true then te σ2 H3 fun y H4 => ∃ (k : Int) (S : Int → Bool) (n : Nat), y = .int k ∧ H4 D = some (SetO X.w D S n) ∧ n + 1 < scanBound ∧ Nx (upd H4 D (SetO X.w D (fun j => S j || decide (j = k)) (if S k = true then n else n + 1))) else Nx H3)) (comp := .SetComp elt [⟨tg, iter, ifs, 0⟩] scope pos) (O0 := fun D => SetO X.w D (fun _ => false) 0) rfl hc hN I hi ok hs (fun {E Q s} q => PpSet.newSet_ok q) (fun {pins σ H s} _ => setO_first X.w X.prog H s.heap) h fun s3 H3 cl fp it D tn J s4 R I4 T st nf stat q fin => ?_
  obtain ⟨W, ⟨m, w0⟩, turn⟩ := q
  have loop := loop_inv (X := X.blk s3 H3 scope (compEnvC scope cl s3.heap.objs.size X.env) fp) (comp := .SetComp elt [⟨tg, iter, ifs, 0⟩] scope pos) (acc := .ref D) hc rfl (PpSet.compTurn_set elt tg iter ifs scope pos (.ref it) (.ref D) _) rfl rfl (hg s3 H3 _ cl fp) (ht s3 H3 _ cl fp)
    (vs := own.map (·.2)) (vs1 := []) (fun _ z => nomatch z) (BT := fun σ2 H3 Nx => te σ2 H3 fun y H4 => ∃ (k : Int) (S : Int → Bool) (n : Nat), y = .int k ∧ H4 D = some (SetO X.w D S n) ∧ n + 1 < scanBound ∧ Nx (upd H4 D (SetO X.w D (fun j => S j || decide (j = k)) (if S k = true then n else n + 1))))
    (fun pins s σ H N I hw => ?_) T stat W turn fin I4 st nf w0
  · exact PpSet.codeAny_compStart_set loop (T.self X.A 0 _ _ _ st loop)
  · refine wpAny_bind (thn ((he s3 H3 _ cl fp).run pins s σ H _ I hw) fun v s1 ⟨y, H4, I4, r4, k, S, n, ey, hD, room, nx⟩ => wpAny_bind (wpAny_standAt (wpAny_bind ?_)))
    subst ey
    refine thn (mt_sadd pins s1 σ H4 (.ref D) [.int k] (.ref D) [v] (fun _ H' => N H') I4 rfl (.cons r4 .nil) ⟨D, k, S, n, rfl, rfl, hD, room, nx⟩) fun u s2 ⟨_, H5, I5, _, nx⟩ => wpAny_pure ⟨H5, I5, nx⟩
end

/-! ### two clauses, the keys tuples -/
section
variable {X : Cx}
/-- d[k] = v as a comprehension stores it, the key a tuple -/
theorem put_dT {pins : List (Addr × Obj)} {σ : L2.St} {H : Hp} {s : Shared} {E : Value → Shared → Prop} {D b : Addr} {kvs : List (List Key × V)} {k : List Key} {v : V} {r : Value} {Q : Unit → Shared → Prop} (hu : X.A.units + 1 < cLine) (I : Inv X pins σ H s) (hD : H D = some (.dT kvs)) (hb : H b = some (.tup (k.map kV)))
    (hz : kvs.length < sizeLine) (rv : RelV v r) (h : ∀ s', Inv X pins σ (upd H D (.dT (putK kvs k v))) s' → Q () s') : wpAny (model X.prog X.w) X.A (dictSet D (.ref b) r) Q E s := by
  obtain ⟨z, hd, xs, rel, dd⟩ := dt_of I.hok hD
  have hl : (putK kvs k v).length ≤ sizeLine := by have := length_putK kvs k v; omega
  refine wpAny_dictSet_heap (hsz := by rw [← Paired.length rel]; exact z) (show X.A.units < cLine by omega) (key_of I.hok hb) dd fun h' dd' sb => h _ ?_
  obtain ⟨q, es, ep, hq, h2, h3, h4, _, h5⟩ := dd'
  refine d_write I (by rw [hD]; exact True.intro) sb ⟨q, hq⟩ ⟨hl, hd, _, (rel.put k hb rv).keeps fun c ys ec => ?_, q, es, ep, hq, h2, h3, h4, h5⟩
  rw [upd_ne (ne_of ec hD (by intro z; cases z))]
  exact ec
def outBody (comp : Expr) (i1 : Expr) (acc : Value) (env : Env) : Sem Unit := do
  let x ← eval i1 env
  standAt i1.pos
  let x ← foldedSetIterable i1 env x
  let _ ← runOwn (.compStart comp 1 (← holding [x] (pyIter x)) acc env) env
theorem turn_out (kx vx t0 i0 t1 i1 : Expr) (ifs0 ifs1 : List Expr) (scope : Scope) (pos : Pos) (it acc : Value) (env : Env) :
    compTurn (.DictComp kx vx [⟨t0, i0, ifs0, 0⟩, ⟨t1, i1, ifs1, 0⟩] scope pos) 0 it acc env = (do
      standAt i0.pos
      match ← pyNext it with
      | none => pure (.done .next)
      | some v =>
        letOwnedTupleGo t0 it v
        assign t0 env v
        let mut ok := true
        for c in ifs0 do
          if ok then ok ← isTrue c env (eval c env)
        if ok then (outBody (.DictComp kx vx [⟨t0, i0, ifs0, 0⟩, ⟨t1, i1, ifs1, 0⟩] scope pos) i1 acc env)
        again (.compLoop (.DictComp kx vx [⟨t0, i0, ifs0, 0⟩, ⟨t1, i1, ifs1, 0⟩] scope pos) 0 it acc env)) := by
  have flat : compTurn (.DictComp kx vx [⟨t0, i0, ifs0, 0⟩, ⟨t1, i1, ifs1, 0⟩] scope pos) 0 it acc env = (do
      standAt i0.pos
      match ← pyNext it with
      | none => pure (.done .next)
      | some v =>
        letOwnedTupleGo t0 it v
        assign t0 env v
        let mut ok := true
        for c in ifs0 do
          if ok then ok ← isTrue c env (eval c env)
        if ok then
          let x ← eval i1 env
          standAt i1.pos
          let x ← foldedSetIterable i1 env x
          let _ ← runOwn (.compStart (.DictComp kx vx [⟨t0, i0, ifs0, 0⟩, ⟨t1, i1, ifs1, 0⟩] scope pos) 1 (← holding [x] (pyIter x)) acc env) env
        again (.compLoop (.DictComp kx vx [⟨t0, i0, ifs0, 0⟩, ⟨t1, i1, ifs1, 0⟩] scope pos) 0 it acc env)) := by rfl
  rw [flat]
  unfold outBody
  simp only [bind_assoc, pure_bind]
theorem turn_in (kx vx t0 i0 t1 i1 : Expr) (ifs0 ifs1 : List Expr) (scope : Scope) (pos : Pos) (it : Value) (D : Addr) (env : Env) :
    compTurn (.DictComp kx vx [⟨t0, i0, ifs0, 0⟩, ⟨t1, i1, ifs1, 0⟩] scope pos) 1 it (.ref D) env = (do
      standAt i1.pos
      match ← pyNext it with
      | none => pure (.done .next)
      | some v =>
        letOwnedTupleGo t1 it v
        assign t1 env v
        let mut ok := true
        for c in ifs1 do
          if ok then ok ← isTrue c env (eval c env)
        if ok then
          (do
            let kv ← eval kx env
            let vv ← holding [kv] (eval vx env)
            standAt { kx.pos with endLine := vx.pos.endLine, endCol := vx.pos.endCol }
            holding [kv, vv] (dictSet D kv vv))
        again (.compLoop (.DictComp kx vx [⟨t0, i0, ifs0, 0⟩, ⟨t1, i1, ifs1, 0⟩] scope pos) 1 it (.ref D) env)) := by rfl
/-- what a stored pair asks -/
def tPutT (tk tv : TE) (D : Addr) : L2.St → Hp → (Hp → Prop) → Prop := fun σ H N => tk σ H fun y H1 => tv σ H1 fun z H2 => ∃ (q : Addr) (k : List Key) (kvs : List (List Key × V)), y = .ref q ∧ H2 q = some (.tup (k.map kV)) ∧ H2 D = some (.dT kvs) ∧ kvs.length < sizeLine ∧ N (upd H2 D (.dT (putK kvs k z)))
/-- a loop that ends in Dn -/
def tLoop (g : TG) (tt : TT) (vs : List Nat) (σ : L2.St) (BT : L2.St → Hp → (Hp → Prop) → Prop) (Dn : Hp → Prop) (J : It) (H3 : Hp) : Prop := ∃ W : Nat → Nat → Hp → Prop, (∃ m, W 0 m H3) ∧ ∀ i m H, W i m H →
  (J.stop i H ∧ Dn H) ∨ (J.go i H ∧ ∃ Nx : Hp → Prop, (∀ H', Nx H' → ∃ m', m' < m ∧ W (i + 1) m' H') ∧ ∀ x H', J.yld i H x H' → g x (wipe σ vs) H' fun σ2 H2 => wipe σ2 vs = wipe σ vs ∧ tt σ2 H2 fun b H3 => if b = true then BT σ2 H3 Nx else Nx H3)
/-- {k: v for tg in iter if .. for tg1 in iter1 if ..}, the keys tuples -/
def tDc2 (wi : TI) (g : TG) (tt : TT) (wi1 : TI) (g1 : TG) (tt1 : TT) (tk tv : TE) (vs vs1 : List Nat) : TE := fun σ H Q => wi σ H fun J H1 => ∀ D, H1 D = none →
  tLoop g tt vs σ (fun σ2 H3 Nx => wi1 σ2 H3 fun J1 H4 => tLoop g1 tt1 vs1 σ2 (tPutT tk tv D) Nx J1 H4) (fun H => Q (.ref D) H) J (upd H1 D (.dT []))
theorem pe_dc2 {kx vx tg iter tg1 iter1 : Expr} {ifs ifs1 : List Expr} {scope : Scope} {own : List (PySem.Str × Nat)} {vs1 : List Nat} {pos : Pos} {wi wi1 : TI} {g g1 : TG} {tt tt1 : TT} {tk tv : TE} (hc : X.calm = true) (hu : X.A.units + 1 < cLine) (hN : X.N.Nodup) (hi : PI X tg iter wi) (ok : BlkOk X.N X.env.scope scope own) (hv : ∀ i ∈ vs1, i ∈ own.map (·.2))
    (hg : ∀ (s : Shared) (H : Hp) (C : Addr) (cl : List (PySem.Str × Addr)) (fp : List Addr), PG (X.blk s H scope (compEnvC scope cl C X.env) fp) tg g) (ht : ∀ (s : Shared) (H : Hp) (C : Addr) (cl : List (PySem.Str × Addr)) (fp : List Addr), PTs (X.blk s H scope (compEnvC scope cl C X.env) fp) ifs tt)
    (hi1 : ∀ (s : Shared) (H : Hp) (C : Addr) (cl : List (PySem.Str × Addr)) (fp : List Addr), PI (X.blk s H scope (compEnvC scope cl C X.env) fp) tg1 iter1 wi1)
    (hg1 : ∀ (s : Shared) (H : Hp) (C : Addr) (cl : List (PySem.Str × Addr)) (fp : List Addr), PG (X.blk s H scope (compEnvC scope cl C X.env) fp) tg1 g1) (ht1 : ∀ (s : Shared) (H : Hp) (C : Addr) (cl : List (PySem.Str × Addr)) (fp : List Addr), PTs (X.blk s H scope (compEnvC scope cl C X.env) fp) ifs1 tt1)
    (hk : ∀ (s : Shared) (H : Hp) (C : Addr) (cl : List (PySem.Str × Addr)) (fp : List Addr), PE (X.blk s H scope (compEnvC scope cl C X.env) fp) kx tk) (he : ∀ (s : Shared) (H : Hp) (C : Addr) (cl : List (PySem.Str × Addr)) (fp : List Addr), PE (X.blk s H scope (compEnvC scope cl C X.env) fp) vx tv)
    (hs : ∀ x, foldedSetIterable iter X.env x = pure x := by intro _; rfl) (hs1 : ∀ env x, foldedSetIterable iter1 env x = pure x := by intro _ _; rfl) :
    PE X (.DictComp kx vx [⟨tg, iter, ifs, 0⟩, ⟨tg1, iter1, ifs1, 0⟩] scope pos) (tDc2 wi g tt wi1 g1 tt1 tk tv (own.map (·.2)) vs1) := by
  refine ⟨fun pins s σ H Q I h => ?_⟩
  rw [arm_eval_DictComp]
  refine comp_in (REST := fun J D H3 => tLoop g tt (List.map (fun x : PySem.Str × Nat => x.2) own) σ (fun σ2 H3 Nx => wi1 σ2 H3 fun J1 H4 => tLoop g1 tt1 vs1 σ2 (tPutT tk tv D) Nx J1 H4) (fun H => Q (.ref D) H) J H3) (comp := .DictComp kx vx [⟨tg, iter, ifs, 0⟩, ⟨tg1, iter1, ifs1, 0⟩] scope pos) (O0 := fun _ => .dT []) rfl hc hN I hi ok hs
    (fun {E Q s} q => wpAny_newObj_type q (by size_fits)) (fun {pins σ H s} I => dt_empty s.heap I.big) h fun s3 H3 cl fp it D tn J s4 R I4 T st nf stat q fin => ?_
  obtain ⟨W, ⟨m, w0⟩, turn⟩ := q
  have loop := loop_inv (X := X.blk s3 H3 scope (compEnvC scope cl s3.heap.objs.size X.env) fp) (comp := .DictComp kx vx [⟨tg, iter, ifs, 0⟩, ⟨tg1, iter1, ifs1, 0⟩] scope pos) (acc := .ref D) hc rfl (turn_out kx vx tg iter tg1 iter1 ifs ifs1 scope pos (.ref it) (.ref D) _) rfl rfl (hg s3 H3 _ cl fp) (ht s3 H3 _ cl fp)
    (vs := own.map (·.2)) (vs1 := vs1) hv (BT := fun σ2 H3 Nx => wi1 σ2 H3 fun J1 H4 => tLoop g1 tt1 vs1 σ2 (tPutT tk tv D) Nx J1 H4) (fun pins s σ H N I hw => ?_) T stat W turn fin I4 st nf w0
  · exact codeAny_compStart_dict loop (T.self X.A 0 _ _ _ st loop)
  · refine wpAny_bind (thn ((hi1 s3 H3 _ cl fp).run pins s σ H _ I hw) fun xv s1 hx => ?_)
    refine wpAny_bind (wpAny_standAt (wpAny_bind (wpAny_of_eq (hs1 _ xv) (wpAny_bind (wpAny_holding (thn hx fun itv s2 h2 => ?_))))))
    obtain ⟨it1, fp1, tn1, J1, H2, e1, I2, T1, st2, f2, W1, ⟨m1, w1⟩, turn1⟩ := h2
    subst e1
    refine wpAny_bind (wpAny_runOwn ?_)
    rw [Around.mark_none]
    have loop1 := loop_inv (X := X.blk s3 H3 scope (compEnvC scope cl s3.heap.objs.size X.env) fp) (comp := .DictComp kx vx [⟨tg, iter, ifs, 0⟩, ⟨tg1, iter1, ifs1, 0⟩] scope pos) (acc := .ref D) hc rfl (turn_in kx vx tg iter tg1 iter1 ifs ifs1 scope pos (.ref it1) D _) rfl rfl (hg1 s3 H3 _ cl fp) (ht1 s3 H3 _ cl fp)
      (vs := vs1) (vs1 := []) (fun _ z => nomatch z) (BT := tPutT tk tv D) (fun pins s σ H N I hw => ?_) T1 (pins := pins) (σb := σ) (Dn := N) (R := fun r s' => match r with | .ok f => wpAny (model X.prog X.w) X.A (pure ()) (fun _ s' => ∃ H', L2.Inv (X.blk s3 H3 scope (compEnvC scope cl s3.heap.objs.size X.env) fp) pins (wipe σ vs1) H' s' ∧ N H') Nil0 s' | .error e => False) (fun H' hn b hb => ⟨hn b hb, (f2 b hb).2⟩) W1 turn1
      (fun s' H' I' dn => wpAny_pure ⟨H', I', dn⟩) (I2.weak (wipe_length _ _) (fun j v e => (wipe_some e).1)) st2 (fun b hb => (f2 b hb).1) w1
    · refine codeAny_mono (start_any rfl rfl rfl loop1 (T1.self X.A 0 _ _ _ st2 loop1) (fun _ => rfl)) fun r s' hr => ?_
      cases r with
      | ok f => exact hr
      | error e => exact hr.elim
    · refine wpAny_bind (thn ((hk s3 H3 _ cl fp).run pins s σ H _ I hw) fun kv s1 ⟨y, H1, I1, r1, q1⟩ => wpAny_bind (wpAny_holding (thn ((he s3 H3 _ cl fp).run pins s1 σ H1 _ I1 q1) fun vv s2 ⟨z, H2, I2, r2, q, k, kvs, ey, hq, hD, hz, nx⟩ => wpAny_bind (wpAny_standAt (wpAny_holding ?_)))))
      subst ey
      cases r1
      exact put_dT hu I2 hD hq hz r2 fun s' I' => ⟨_, I', nx⟩
end
end K64R
set_option Elab.async false
set_option maxRecDepth 100000
set_option maxHeartbeats 4000000
/-! set(a list of ints), len(a set of tuples), bool(an object with its own __bool__). -/
namespace K64R
open PySem PySem.Spec PyProof.Rows L2
section
variable {P : Program} {w : World} {A : Around} {E : Value → Shared → Prop} {s : Shared}
abbrev set0 (w : World) : Obj := { cls := .type "set", dict := none, data := .set #[] 0 (.fresh 0 0 (!w.params.followText "set-order")) }
/-- what the filling of the new set leaves -/
def Filled (w : World) (s s2 : Shared) (ns : List Int) : Prop := ∃ h' tk c, s2 = { s with heap := h', toks := tk } ∧ SetR w h' s.heap.objs.size (fun j => decide (j ∈ ns)) c ∧ c ≤ ns.length ∧ ∀ b o, s.heap.get? b = some o → h'.get? b = some o
theorem set_init_ints {l : Addr} {items : Array Value} (ns : List Int) (hh : A.handled = none) (hl : s.heap.IsList l items) (hit : IntsAre items.toList ns) (hb : ns.length + 1 < scanBound) :
    codeAny (model P w) A (.call (.builtin "set.__init__") ⟨[.ref s.heap.objs.size, .ref l], []⟩) (wants (fun r s2 => r = .none ∧ Filled w s s2 ns) E) { s with heap := s.heap.push (set0 w) } := by
  have hisz : items.size = ns.length := by simpa using IntsAre.length hit
  have hS : (s.heap.push (set0 w)).get? s.heap.objs.size = some (set0 w) := Heap.get?_push_size _ rfl
  have hT : Shared.TypeIs { s with heap := s.heap.push (set0 w) } (.ref s.heap.objs.size) "set" := ⟨_, hS, rfl⟩
  refine codeAny_call_builtin F.called_set.init.plain F.entry_set_init (check_set_init_1 hT ?_)
  obtain ⟨⟨ocls, odict, odata, oslots⟩, hol, hcl, nl, hdl⟩ := hl
  simp only at hcl hdl
  subst hcl hdl
  have hlS : l < s.heap.objs.size := Heap.lt_size hol
  have hol' : (s.heap.push (set0 w)).get? l = some { cls := .type "list", dict := odict, data := .seq items nl, slots := oslots } := Heap.get?_push_of_some _ hol
  have hl1 : (s.heap.push (set0 w)).IsList l items := ⟨_, hol', rfl, nl, rfl⟩
  have hsls := F.sub_list_set
  have hslf := F.sub_list_frozenset
  have hne : (Value.type "list" == Value.type "dict") = false := by decide
  unfold Builtin.«set.__init__» noKeywords Builtin.Frozenset.updateFrom
  generalize hPI : pyIter = PI
  wp_walk
  subst hPI
  refine wpAny_pyIter_list hl1 (wpAny_bind (wpAny_runValue ?_))
  have hz1 : (s.heap.push (set0 w)).objs.size = s.heap.objs.size + 1 := Heap.size_push ..
  have hneI : l ≠ (s.heap.push (set0 w)).objs.size := by rw [hz1]; exact Nat.ne_of_lt (Nat.lt_succ_of_lt hlS)
  have hSf : s.heap.objs.size ∉ [(s.heap.push (set0 w)).objs.size, l] := by
    rw [hz1]
    intro z
    rcases List.mem_cons.mp z with z | z
    · exact absurd z (Nat.ne_of_lt (Nat.lt_succ_self _))
    · exact absurd (List.mem_singleton.mp z) (Nat.ne_of_gt hlS)
  have hh3 : A.in1.in1.handled = none := by simp [hh]
  have hval : ∀ (i : Nat) (v : Value), items[i]? = some v → ∃ k t, ns[i]? = some k ∧ v = .int k t := fun i v hv => by
    have hi : i < ns.length := by rw [← hisz]; exact (Array.getElem?_eq_some_iff.mp hv).1
    obtain ⟨t, e⟩ := IntsAre.int_at hit i v (by rw [Array.getElem?_toList]; exact hv)
    exact ⟨ns[i], t, List.getElem?_eq_getElem hi, by rw [e, List.getD_eq_getElem?_getD, List.getElem?_eq_getElem hi]; rfl⟩
  refine set_update_ints ((Walks.list hh3 _ l hneI items).toS) s.heap.objs.size hSf ns hisz hb hval (items.size - 0) 0 _ (by omega) (Nat.zero_le _) ?stands ?first ?rest
  case stands => exact ⟨⟨_, Heap.get?_push_size _ rfl, rfl, rfl⟩, hl1.push _⟩
  case first => exact ⟨0, Nat.le_refl 0, setR_new_at (w := w) (Heap.get?_push_of_some _ hS)⟩
  intro s' c' hm hc' hS'
  obtain ⟨h', g2, d', tk', os'⟩ := s'
  obtain rfl : g2 = s.gens := hm.gens
  obtain rfl : d' = s.drawn := hm.drawn
  obtain rfl : os' = s.os := hm.os
  show wpAny _ _ _ _ _ _
  refine wpAny_pure ?_
  show wpAny _ _ (ret Value.none) _ _ _
  rw [hisz] at hc'
  refine wpAny_pure ⟨rfl, h', tk', c', rfl, hS', hc', fun b o e => ?_⟩
  have hb0 : b < s.heap.objs.size := Heap.lt_size e
  refine hm.heap b o (fun z => ?_) (Heap.get?_push_of_some _ (Heap.get?_push_of_some _ e))
  rcases List.mem_cons.mp z with z | z
  · exact absurd z (Nat.ne_of_lt hb0)
  · have z := List.mem_singleton.mp z
    rw [hz1] at z
    exact absurd z (Nat.ne_of_lt (Nat.lt_succ_of_lt hb0))
theorem call_set_listI {l : Addr} {items : Array Value} (ns : List Int) {Q : Value → Shared → Prop} (hh : A.handled = none) (hl : s.heap.IsList l items) (hit : IntsAre items.toList ns) (hb : ns.length + 1 < scanBound)
    (h : ∀ s2, Filled w s s2 ns → Q (.ref s.heap.objs.size) s2) : wpAny (model P w) A (call (.type "set") [.ref l]) Q E s := by
  obtain ⟨c, tl, hmro⟩ := F.called_set.mro
  have hmade := F.called_set.made
  have hsub := F.called_set.sub
  refine wpAny_call (codeAny_of_tree ?_)
  show wpAny _ _ (callAny (.type "set") _) _ _ _
  refine wpAny_pure ⟨Code.quiet_builtin _ (by decide +kernel), codeAny_builtin F.entry_type_call ?_⟩
  rw [Around.under_plain (weight_type_call_type "set" [.ref l] []) rfl]
  have h1 := F.called_set.notType
  have h2 := F.called_set.canCreate
  have hct := F.typeCall_set_1 (.ref l)
  repeat (any_goals (first | assumption | wp_step))
  refine codeAny_mono (code_set_led1 (.ref l) (E := E) (Q₁ := fun obj s₁ => obj = .ref s.heap.objs.size ∧ s₁ = { s with heap := s.heap.push (set0 w) }) ⟨rfl, rfl⟩) fun r s₁ hr => ?_
  match r, hr with
  | .error e, hr => exact hr
  | .ok (.ret obj), hr =>
    obtain ⟨rfl, rfl⟩ := hr
    have hT : Shared.TypeIs { s with heap := s.heap.push (set0 w) } (.ref s.heap.objs.size) "set" := ⟨_, Heap.get?_push_size _ rfl, rfl⟩
    have hli := F.called_set.init.lookup
    have hbi := F.called_set.init.bind (.ref s.heap.objs.size)
    repeat (any_goals (first | assumption | wp_step))
    refine codeAny_mono (set_init_ints (E := E) ns (by simp [hh]) hl hit hb) fun r2 s2 hr2 => ?_
    match r2, hr2 with
    | .error e, hr2 => exact hr2
    | .ok (.ret r), hr2 =>
      obtain ⟨rfl, hF⟩ := hr2
      obtain ⟨h', tk, c', rfl, hS', hc', hk'⟩ := id hF
      repeat (any_goals (first | assumption | wp_step))
      exact h _ hF
    | .ok .next, hr2 => exact hr2.elim
    | .ok .brk, hr2 => exact hr2.elim
    | .ok .cont, hr2 => exact hr2.elim
  | .ok .next, hr => exact hr.elim
  | .ok .brk, hr => exact hr.elim
  | .ok .cont, hr => exact hr.elim
end
section
variable {X : Cx}
/-- set(xs), xs a list of ints -/
def rSetOfI (K : PySem.W.Frag) (w : World) : List V → Hp → VK → Prop := fun xs H Q => ∃ (l : Addr) (ns : List Int), xs = [V.ref l] ∧ SqL K H l (ns.map V.int) ∧ ns.length < 64 ∧
  ∀ a c, H a = none → c ≤ ns.length → Q (.ref a) (upd H a (SetO w a (fun j => decide (j ∈ ns)) c))
theorem cr_setOfI (hc : X.calm = true) : CallR X (.type "set") (rSetOfI X.K X.w) := by
  intro pins s σ H xs us Q I r h
  obtain ⟨l, ns, rfl, hq, h64, q⟩ := h
  rw [Vals.ref1 r]
  obtain ⟨its, rv, pl, hz⟩ := I.list hq
  refine call_set_listI ns (I.ok.hd hc) pl.isList (by simpa using rv.ints) (by unfold scanBound; omega) fun s2 ⟨h', tk, c, e, hS, hc', hk⟩ => ?_
  subst e
  have hn : H s.heap.objs.size = none := I.hok.fresh (Nat.le_refl _)
  exact ⟨.ref s.heap.objs.size, _, I.laid (t' := tk) hk (Nat.le_refl _) (setO_new hS), rfl, q _ c hn hc'⟩
/-- len(s), s a set of tuples of ints -/
theorem call_len_setT : CallR X (.builtin "len") (fun xs H Q => ∃ (a : Addr) (L : List (Addr × List Int)), xs = [V.ref a] ∧ H a = some (SetTO X.prog X.w a L) ∧ (∀ p ∈ L, SqT X.K H p.1 (p.2.map V.int)) ∧ Q (.int ((L.length : Nat) : Int)) H) := by
  intro pins s σ H xs us Q I r h
  obtain ⟨a, L, rfl, ha, ht, q⟩ := h
  rw [Vals.ref1 r]
  have R0 : SetT0 X.prog X.w s.heap a L := (I.hok a _ ha).1
  obtain ⟨es, ep, t, R⟩ := R0.full fun p hp => I.isT (ht p hp)
  obtain ⟨o, ho, hex, hd⟩ := R.ob
  have hn : es.size = L.length := R.size
  refine call_len_set ho hex hd R.fits (by rw [hn]; have := R.few; omega) ⟨.int (L.length : Nat), H, I.tok _, ⟨_, by rw [hn]⟩, q⟩
/-- bool(x), x an instance with its own __bool__ -/
theorem call_boolOwn {CX : CXT} {C f : Addr} {k : Nat} {fd : FuncData} {ps : List PySem.Str} {sp : Sp} {E : XK} (hs : PySem.W.findIn X.K (.ref C) "__bool__" = some (some (.ref f))) (hf : PySem.W.isFn X.K (.ref f) = true)
    (G : FnOk X.prog X.w X.K X.mg X.base CX k f fd ps sp) (hr : Room (k + 2) X.A) (hb : Binds X.K fd ps []) (hx : Passes CX X E) :
    CallR X (.type "bool") (fun xs H Q => ∃ a dx fs, xs = [V.ref a] ∧ H a = some (.ins C dx fs) ∧ sp [V.ref a] H (fun z H' => ∃ b, z = .bl b ∧ Q (.bl b) H') E) := by
  intro pins s σ H xs us Q I r h
  obtain ⟨a, dx, fs, rfl, ha, q⟩ := h
  rw [Vals.ref1 r]
  obtain ⟨mA, O, _⟩ := ins_get I.hok ha
  obtain ⟨od, J, _⟩ := O.look
  obtain ⟨m, hF⟩ := I.fr
  have tr : wpAny (model X.prog X.w) X.A.in1.in1 (truthy (.ref a)) (fun b s' => EP X pins σ Q (.bool b) s') X.xe s := by
    refine PySem.W.truthy_K hF I.mod.kin J hs hf ?_
    have e1 := hb s [.ref a] I.kIn (by have := G.len _ _ _ _ q; simpa using this)
    refine wpAny_call (codeAny_mono (G.run X.A.in1.in1 X.stack s H ⟨[.ref a], []⟩ [.ref a] [.ref a] (fun z H' => ∃ b, z = .bl b ∧ Q (.bl b) H') E ((show Room (k + 1) X.A.in1 from Room.in1 hr).in1) I.env0.in1.in1 e1 (.cons rfl .nil) q) fun r s' hq => ?_)
    match r, hq with
    | .error e, hq => exact hx pins σ H s e s' I hq
    | .ok (.ret u), hq =>
      obtain ⟨v, H', I', rv, b, ev, qb⟩ := I.after hq
      subst ev
      cases rv
      exact ⟨.bl b, H', I', rfl, qb⟩
    | .ok .next, hq => exact False.elim hq
    | .ok .brk, hq => exact False.elim hq
    | .ok .cont, hq => exact False.elim hq
  refine callType_newIn (S := fun A R s => wpAny (model X.prog X.w) A.in1 (truthy (.ref a)) (fun b s' => R (.ok (.ret (.bool b))) s') (fun e s' => R (.error e) s') s) F.called_bool F.newNe_bool (F.typeCall_bool_1 _) (F.newCall_bool_1 _) (fun obj => F.args_object_init_2 obj _) F.entry_bool_new ?_ ?_
  · refine .of_wp fun A R s h => ?_
    obtain ⟨hp, g, d, tk, os⟩ := s
    have f1 := F.conv_sub_bool
    repeat (any_goals (first | assumption | (with_reducible refine wpAny_bind (wpAny_mono h (fun b s' hb => ?_) (fun _ _ x => x))) | wp_step))
    all_goals exact ⟨_, rfl, hb⟩
  · exact wpAny_mono tr (fun b s' hq => ⟨rfl, hq⟩) fun _ _ x => x
end
end K64R
set_option Elab.async false
set_option maxRecDepth 100000
set_option maxHeartbeats 4000000
/-! The rules whose readings speak of the written part, with that part named (for the blocks of comprehensions). -/
namespace K64W
open PySem L2 K64
section
variable {X : Cx} (K : PySem.W.Frag)
theorem fldK {e : Expr} {f : Str} {pos : Pos} {ta : TE} (h : PE X e ta) (hb : attributeBase e f X.env (eval e X.env) = eval e X.env := by rfl) (hK : X.K = K := by rfl) : PE X (.Attribute e f pos) (tFld K ta f) := hK ▸ pe_fld h hb
theorem tupK {pos : Pos} {es : List Expr} {k : Nat} {t : TGs} {n : Nat} (hc : X.calm = true) (h : PGs X es t) (h1 : (assignEach es X.env).length = n := by rfl) (h2 : List.findIdx? (fun x => x.1) (assignEach es X.env) = none := by rfl) (hK : X.K = K := by rfl) :
    PG X (.Tuple es k pos) (gTup K n t) := hK ▸ pg_tup hc h h1 h2
theorem ixlK {a b : Expr} {ta tb : TE} {pos : Pos} (ha : PE X a ta) (hb : PE X b tb) (hi : PlainIx b := by exact fun _ _ => rfl) (hK : X.K = K := by rfl) : PE X (.Subscript a b pos) (tOp (rIxL K) ta tb) := hK ▸ pe_ix ix_list ha hb hi
theorem ixtK {a b : Expr} {ta tb : TE} {pos : Pos} (ha : PE X a ta) (hb : PE X b tb) (hi : PlainIx b := by exact fun _ _ => rfl) (hK : X.K = K := by rfl) : PE X (.Subscript a b pos) (tOp (rIxT K) ta tb) := hK ▸ pe_ix ix_tup ha hb hi
theorem lenK (hK : X.K = K := by rfl) : CallR X (.builtin "len") (fun xs H Q => ∃ p ys, xs = [V.ref p] ∧ (SqL K H p ys ∨ SqT K H p ys) ∧ Q (.int ys.length) H) := hK ▸ call_len_seq
theorem sumK (hc : X.calm = true := by rfl) (hK : X.K = K := by rfl) : CallR X (.builtin "sum") (rSum K) := hK ▸ cr_sum hc
theorem allK (hc : X.calm = true := by rfl) (hK : X.K = K := by rfl) : CallR X (.builtin "all") (rAll K) := hK ▸ cr_all hc
theorem anyK (hc : X.calm = true := by rfl) (hK : X.K = K := by rfl) : CallR X (.builtin "any") (rAny K) := hK ▸ cr_any hc
theorem inK (hK : X.K = K := by rfl) : OpR X (compareOp .In) (rIn K false) := hK ▸ op_in_seq
theorem notInK (hK : X.K = K := by rfl) : OpR X (compareOp .NotIn) (rIn K true) := hK ▸ op_notIn_seq
theorem listK {tg l : Expr} {tl : TE} (h : PE X l tl) (hK : X.K = K := by rfl) : PI X tg l (iList K tl) := hK ▸ pi_list h
theorem tplK {tg l : Expr} {tl : TE} (h : PE X l tl) (hK : X.K = K := by rfl) : PI X tg l (iTup K tl) := hK ▸ pi_tup h
theorem sortedK (hK : X.K = K := by rfl) : CallR X (.builtin "sorted") (rSorted K) := hK ▸ cr_sorted
theorem minK (hc : X.calm = true := by rfl) (hK : X.K = K := by rfl) : CallR X (.builtin "min") (rMin K) := hK ▸ cr_min hc
theorem isiK (hK : X.K = K := by rfl) : CallR X (.builtin "isinstance") (rIsi K) := hK ▸ call_isi
theorem catTK (hK : X.K = K := by rfl) : OpR X (binaryOp .Add) (rCatT K) := hK ▸ op_catT
theorem eqDK (hu : X.A.units + 64 < cLine) (hK : X.K = K := by rfl) : OpR X (compareOp .Eq) (rEqD K) := hK ▸ op_eqD hu
end
end K64W
/-! K64 mathematics, part 5: shapes as they are given, and sorted. -/
namespace K64
/-- a shape's pairs, in any order -/
structure Sh0 (L : List Pr) : Prop where
  nd : (keys L).Nodup
  sz : ∀ p ∈ L, p.1 ∈ SIZES
  pos : ∀ p ∈ L, 1 ≤ p.2 ∧ p.2 ≤ 10 ^ 30
theorem Sh0.len {L : List Pr} (h : Sh0 L) : L.length ≤ 27 := by
  have := length_le_of_nodup h.nd (m := SIZES) fun s hs => by
    obtain ⟨p, hp, e⟩ := List.mem_map.mp hs
    rw [← e]; exact h.sz p hp
  simpa [SIZES] using this
def srt (L : List Pr) : List Pr := L.mergeSort fun a b => decide (a.1 ≤ b.1)
theorem srt_perm (L : List Pr) : (srt L).Perm L := List.mergeSort_perm _ _
theorem srt_le (L : List Pr) : (srt L).Pairwise fun a b => a.1 ≤ b.1 := by
  have := List.pairwise_mergeSort (le := fun a b : Pr => decide (a.1 ≤ b.1)) (fun a b c h1 h2 => by simp at *; omega) (fun a b => by simp; omega) L
  exact this.imp fun h => by simpa using h
theorem key_inj {L : List Pr} (h : (keys L).Nodup) : ∀ {p q : Pr}, p ∈ L → q ∈ L → p.1 = q.1 → p = q := by
  induction L with
  | nil => intro p q hp; cases hp
  | cons a l ih =>
    intro p q hp hq e
    have h' : a.1 ∉ keys l ∧ (keys l).Nodup := by
      have : (a.1 :: keys l).Nodup := h
      rw [List.nodup_cons] at this
      exact this
    rcases List.mem_cons.mp hp with e1 | hp
    · rcases List.mem_cons.mp hq with e2 | hq
      · rw [e1, e2]
      · exact absurd (by rw [← e1, e]; exact List.mem_map_of_mem (f := (·.1)) hq) h'.1
    · rcases List.mem_cons.mp hq with e2 | hq
      · exact absurd (by rw [← e2, ← e]; exact List.mem_map_of_mem (f := (·.1)) hp) h'.1
      · exact ih h'.2 hp hq e
theorem srt_unique {L M : List Pr} (hn : (keys L).Nodup) (hp : M.Perm L) (hs : M.Pairwise fun a b => a.1 ≤ b.1) : M = srt L :=
  List.Perm.eq_of_pairwise (le := fun a b : Pr => a.1 ≤ b.1) (fun _ _ ha hb h1 h2 => key_inj hn (hp.mem_iff.mp ha) ((srt_perm L).mem_iff.mp hb) (Int.le_antisymm h1 h2)) hs (srt_le L) (hp.trans (srt_perm L).symm)
theorem perm_keys {L M : List Pr} (h : M.Perm L) : (keys M).Perm (keys L) := h.map _
theorem srt_shp {L : List Pr} (h : Sh0 L) : Shp (srt L) where
  srt := by
    have nd : (keys (K64.srt L)).Nodup := (perm_keys (srt_perm L)).nodup_iff.mpr h.nd
    have nd : (K64.srt L).Pairwise fun a b => a.1 ≠ b.1 := by
      have : ((K64.srt L).map (·.1)).Pairwise (· ≠ ·) := nd
      rwa [List.pairwise_map] at this
    exact (nd.and (srt_le L)).imp fun h => by omega
  pos := fun p hp => (h.pos p ((srt_perm L).mem_iff.mp hp)).1
  sz := fun p hp => h.sz p ((srt_perm L).mem_iff.mp hp)
theorem srt_sh0 {L : List Pr} (h : Sh0 L) : Sh0 (srt L) where
  nd := (perm_keys (srt_perm L)).nodup_iff.mpr h.nd
  sz := fun p hp => h.sz p ((srt_perm L).mem_iff.mp hp)
  pos := fun p hp => h.pos p ((srt_perm L).mem_iff.mp hp)
theorem srt_len (L : List Pr) : (srt L).length = L.length := (srt_perm L).length_eq
theorem cnt_srt (L : List Pr) (s : Int) : cnt (srt L) s = cnt L s := tot_perm _ (srt_perm L)
theorem need_srt (L : List Pr) (S : List Int) : need S (srt L) = need S L := tot_perm _ (srt_perm L)
theorem room_srt (L : List Pr) (S : List Int) : room S (srt L) = room S L := tot_perm _ (srt_perm L)
theorem mem_srt {L : List Pr} {p : Pr} : p ∈ srt L ↔ p ∈ L := (srt_perm L).mem_iff
theorem mem_keys_srt {L : List Pr} {s : Int} : s ∈ keys (srt L) ↔ s ∈ keys L := (perm_keys (srt_perm L)).mem_iff
theorem srt_srt {L : List Pr} (h : Sh0 L) : srt (srt L) = srt L := (srt_unique (srt_sh0 h).nd (.refl _) (srt_le L)).symm
theorem cnt_none {L : List Pr} {s : Int} (h : s ∉ keys L) : cnt L s = 0 := tot_none (fun p : Pr => p.1) (fun p => p.2) h
/-- the sorted keys with their counts -/
theorem srt_of_keys {L : List Pr} (hn : (keys L).Nodup) {ns : List Int} (hp : ns.Perm (keys L)) (hs : ns.Pairwise (· ≤ ·)) : ns.map (fun s => (s, cnt L s)) = srt L := by
  refine srt_unique hn ?_ ?_
  · have e : (keys L).map (fun s => (s, cnt L s)) = L := by
      unfold keys
      rw [List.map_map]
      conv => rhs; rw [← List.map_id L]
      refine List.map_congr_left fun p hp => ?_
      show (p.1, cnt L p.1) = p
      rw [cnt_of hn hp]
    have := hp.map (fun s => (s, cnt L s))
    rwa [e] at this
  · rw [List.pairwise_map]
    exact hs
end K64
set_option Elab.async false
set_option maxRecDepth 100000
set_option maxHeartbeats 4000000
/-! The shape: made, its counts, one count. -/
namespace K64W
open PySem L2 K64

/-! ### a dict of ints by its pairs -/
def kvs (L : List Pr) : List (Key × V) := L.map fun p => (Sum.inl p.1, V.int p.2)
theorem kvs_len (L : List Pr) : (kvs L).length = L.length := List.length_map ..
theorem kvs_get {L : List Pr} (hn : (keys L).Nodup) {p : Pr} (hp : p ∈ L) : valV (kvs L) (Sum.inl p.1) = some (V.int p.2) := by
  induction L with
  | nil => cases hp
  | cons q L ih =>
    have hn' : q.1 ∉ keys L ∧ (keys L).Nodup := by
      have : (q.1 :: keys L).Nodup := hn
      rw [List.nodup_cons] at this
      exact this
    show valV ((Sum.inl q.1, V.int q.2) :: kvs L) _ = _
    rcases List.mem_cons.mp hp with e | hp
    · rw [e]; exact valV_pos (p := ((Sum.inl q.1 : Key), V.int q.2)) rfl
    · rw [valV_neg]
      · exact ih hn'.2 hp
      · intro z
        have z : q.1 = p.1 := Sum.inl.inj z
        exact hn'.1 (by rw [z]; exact List.mem_map_of_mem (f := (·.1)) hp)
theorem kvs_no {L : List Pr} {s : Int} (h : s ∉ keys L) : valV (kvs L) (Sum.inl s) = none := by
  induction L with
  | nil => rfl
  | cons q L ih =>
    show valV ((Sum.inl q.1, V.int q.2) :: kvs L) _ = _
    rw [valV_neg]
    · exact ih fun z => h (List.mem_cons_of_mem _ z)
    · intro z
      have z : q.1 = s := Sum.inl.inj z
      exact h (by rw [← z]; exact List.mem_cons_self ..)
theorem kvs_cnt {L : List Pr} (hn : (keys L).Nodup) {s : Int} (h : s ∈ keys L) : valV (kvs L) (Sum.inl s) = some (V.int (cnt L s)) := by
  obtain ⟨p, hp, e⟩ := List.mem_map.mp h
  have e : p.1 = s := e
  rw [← e, kvs_get hn hp, cnt_of hn hp]
theorem kvs_dget {L : List Pr} {H : Hp} {d : Addr} (h : H d = some (.dK (kvs L))) (hn : (keys L).Nodup) {s : Int} (hs : s ∈ keys L) : DGet H d (.int s) (some (.int (cnt L s))) := by
  have := DGet.k (k := Sum.inl s) h
  rw [kvs_cnt hn hs] at this
  exact this
theorem kvs_snoc {L : List Pr} {s c : Int} (h : s ∉ keys L) : putK (kvs L) (Sum.inl s) (V.int c) = kvs (L ++ [(s, c)]) := by
  rw [putK_new _ (kvs_no h)]
  unfold kvs
  rw [List.map_append]
  rfl
theorem kvs_keys (L : List Pr) : (kvs L).map (fun kv => kV kv.1) = (keys L).map V.int := by
  unfold kvs keys
  rw [List.map_map, List.map_map]
  rfl
theorem take_key {L : List Pr} (hn : (keys L).Nodup) {i : Nat} {p : Pr} (h : L[i]? = some p) : p.1 ∉ keys (L.take i) := by
  intro z
  obtain ⟨q, hq, e⟩ := List.mem_map.mp z
  have e2 := key_inj hn (List.mem_of_mem_take hq) (List.mem_of_getElem? h) e
  obtain ⟨j, hj, e3⟩ := List.getElem_of_mem hq
  rw [List.length_take] at hj
  have e4 : L[j]'(by omega) = p := by rw [← e2, ← e3, List.getElem_take]
  obtain ⟨hi, e5⟩ := List.getElem?_eq_some_iff.mp h
  have hn' : L.Nodup := K64.nodup_of_map hn
  have := (List.getElem_inj hn').mp (e4.trans e5.symm)
  omega

section
variable {P : Program} {w : World} {K : PySem.W.Frag} {mg : Str → Option Value} {base : Heap} {D : Ad}
/-- a shape stands at p -/
def IsSh (D : Ad) (H : Hp) (p : Addr) (L : List Pr) : Prop := ∃ dx d, H p = some (.ins D.cSh dx [("own_counts", .ref d)]) ∧ H d = some (.dK (kvs L))
theorem IsSh.same {H H' : Hp} {p : Addr} {L : List Pr} (h : IsSh D H p L) (s : Same H H') : IsSh D H' p L := by
  obtain ⟨dx, d, h1, h2⟩ := h
  exact ⟨dx, d, s _ _ h1, s _ _ h2⟩

theorem b_shInit (T : Txt K mg D) : ∃ ds, Vals [V.int (10 ^ 30)] ds ∧ Binds K D.d_shInit ["self", "counts", "most"] ds :=
  T.F_shInit.binds0 2 (by simp) rfl fun Dd doc pm an cdv ct us ks h1 h2 => by
    match us, h1, ks, h2 with
    | [a, b], _, [k], _ => exact ⟨_, _, _, _, _, _, rfl, rfl, rfl⟩
def spShInit (D : Ad) : Sp := fun vs H Q _ => ∃ (p l dx : Addr) (L : List Pr), vs = [.ref p, .ref l, .int (10 ^ 30)] ∧ H p = some (.ins D.cSh dx []) ∧ Rows H l e2 L ∧ Sh0 L ∧
  ∀ H', SameX p H H' → IsSh D H' p L → Q .non H'
theorem sc_shInit : FnScope ["self", "counts", "most", "known", "size", "count"] ["self", "counts", "most"] (defScope s_shInit) := ⟨rfl, rfl, rfl, by decide +kernel, rfl, by decide +kernel, by decide +kernel⟩
theorem ok_shInit (T : Txt K mg D) : FnOk P w K mg base CX0 3 D.f_shInit D.d_shInit ["self", "counts", "most"] (spShInit D) := by
  refine T.F_shInit.ok sc_shInit (fun vs H Q E h => ?_) (fun cdv A outer s H vs Q E hr h => ?_)
  · obtain ⟨p, l, dx, L, rfl, _⟩ := h
    rfl
  · obtain ⟨p, l, dx, L, rfl, hp, ⟨ks, hl, ht, hks⟩, hL, k⟩ := h
    have hu := hu_of hr
    refine ⟨_, PSs.nox (pss_cons (ps_set (i := 3) sc_shInit.nd rfl (Or.inl rfl) pe_dnewK)
      (pss_cons (ps_for PassesOwn.never rfl (pi_list (pv 1)) (pg_tup rfl (pgs_cons (pg_name (i := 4) sc_shInit.nd rfl (Or.inl rfl)) (pgs_cons (pg_name (i := 5) sc_shInit.nd rfl (Or.inl rfl)) pgs_nil)))
        (pss_cons (ps_if (PW.pt (pw_or (pt_not (pt_val (pe_call (ok_isSize T) hr (by rfl) T.g_isSize T.F_isSize.kp (b_isSize T) .nil pass0 (pa_cons (pv 4) pa_nil)))) (pw_or1 (pt_cmp (pc_din hu (pv 4) (pv 3)))))) pss_never pss_nil)
          (pss_one (ps_dput hu (pv 3) (pv 4) (pv 5) rfl))))
      (pss_cons (ps_for PassesOwn.never rfl (pi_list (pv 1)) (pg_tup rfl (pgs_cons (pg_name (i := 4) sc_shInit.nd rfl (Or.inl rfl)) (pgs_cons (pg_name (i := 5) sc_shInit.nd rfl (Or.inl rfl)) pgs_nil)))
        (pss_one (ps_if (PW.pt (pw_or (pt_not (pt_val (pe_call (ok_isWhole T) (hr.mono (by decide)) (by rfl) T.g_isWhole T.F_isWhole.kp (b_isWhole T) .nil pass0 (pa_cons (pv 5) pa_nil)))) (pw_or1 (pt_not (pt_chain op_le op_le pe_int (pv 5) (pv 2)))))) pss_never pss_nil)))
      (pss_one (ps_fld (pv 0) (pv 3) rfl))))), ?_⟩
    intro d hd
    have npd : p ≠ d := ne_of_none hp hd
    have nld : l ≠ d := ne_of_none hl hd
    refine ⟨_, rfl, l, rfl, ⟨_, SqL.of (by rw [upd_ne nld]; exact hl)⟩, for_list (K := K) (a := l) (xs := ks.map fun p => V.ref p.1)
      (fun i σ H' => ∃ a b, σ = [some (.ref p), some (.ref l), some (.int (10 ^ 30)), some (.ref d), a, b] ∧ SameX d H H' ∧ H' d = some (.dK (kvs (L.take i))))
      ⟨none, none, rfl, (Same.refl H).x.upd, upd_same⟩ (fun i σ H' _ ⟨_, _, _, s, _⟩ => SqL.of (s _ _ nld hl)) ?_ ?_⟩
    · rintro i x σ H' hx ⟨a, b, rfl, s, hd'⟩
      obtain ⟨q, hq, hqm, rfl, hLi⟩ := ks_get hks hx
      have hmem := List.mem_of_getElem? hLi
      have nqd : q.1 ≠ d := ne_of_none (ht q hqm) hd
      refine ⟨q.1, _, rfl, SqT.of (s _ _ nqd (ht q hqm)), rfl, _, _, rfl, _, _, rfl, rfl, ?_⟩
      refine ⟨_, rfl, q.2.1, rfl, hL.sz _ hmem, true, rfl, iteF ⟨_, rfl, _, rfl, d, _, rfl, DGet.k (k := Sum.inl q.2.1) hd', ?_⟩⟩
      rw [kvs_no (take_key hL.nd hLi)]
      refine ⟨false, rfl, iteF ?_⟩
      refine ⟨_, rfl, _, rfl, _, rfl, d, _, rfl, DPut.k (k := Sum.inl q.2.1) hd' ?_, ?_⟩
      · rw [kvs_len, List.length_take]
        have := hL.len
        exact small1000 (by omega)
      · refine ⟨_, _, rfl, s.upd, ?_⟩
        rw [upd_same, kvs_snoc (take_key hL.nd hLi), take_succ_of hLi]
    · rintro σ H' ⟨a, b, rfl, s, hd'⟩
      have hlen : (ks.map fun p => V.ref p.1).length = L.length := by rw [List.length_map, ks_len hks]
      rw [hlen, List.take_length] at hd'
      refine ⟨_, rfl, l, rfl, ⟨_, SqL.of (s _ _ nld hl)⟩, for_list (K := K) (a := l) (xs := ks.map fun p => V.ref p.1)
        (fun i σ H'' => ∃ a b, σ = [some (.ref p), some (.ref l), some (.int (10 ^ 30)), some (.ref d), a, b] ∧ SameX d H H'' ∧ H'' d = some (.dK (kvs L)))
        ⟨a, b, rfl, s, hd'⟩ (fun i σ H' _ ⟨_, _, _, s, _⟩ => SqL.of (s _ _ nld hl)) ?_ ?_⟩
      · rintro i x σ H2 hx ⟨a2, b2, rfl, s2, hd2⟩
        obtain ⟨q, hq, hqm, rfl, hLi⟩ := ks_get hks hx
        have hmem := List.mem_of_getElem? hLi
        obtain ⟨h1, h2⟩ := hL.pos _ hmem
        have nqd : q.1 ≠ d := ne_of_none (ht q hqm) hd
        refine ⟨q.1, _, rfl, SqT.of (s2 _ _ nqd (ht q hqm)), rfl, _, _, rfl, _, _, rfl, rfl, ?_⟩
        refine ⟨_, rfl, _, rfl, true, rfl, iteF ⟨_, rfl, _, _, rfl, rfl, true, congrArg V.bl (decide_eq_true h1), iteT ⟨_, rfl, _, _, rfl, rfl, true, congrArg V.bl (decide_eq_true h2), iteF ?_⟩⟩⟩
        exact ⟨_, _, rfl, s2, hd2⟩
      · rintro σ H2 ⟨a2, b2, rfl, s2, hd2⟩
        refine ⟨_, rfl, _, rfl, p, D.cSh, dx, [], rfl, s2 _ _ npd hp, T.cSh, T.n_own_counts, by show 0 < 1000; decide, ?_⟩
        refine k _ (fun b o hb e => ?_) ⟨dx, d, upd_same, by rw [upd_ne npd.symm]; exact hd2⟩
        rw [upd_ne hb]
        exact s2 b o (ne_of_none e hd) e

/-- the counts, ascending -/
def spShCounts (D : Ad) : Sp := fun vs H Q _ => ∃ (p : Addr) (L : List Pr), vs = [.ref p] ∧ IsSh D H p L ∧ Sh0 L ∧ ∀ H' l, Same H H' → Rows H' l e2 (srt L) → Q (.ref l) H'
theorem sc_shCounts : FnScope ["self", "size"] ["self"] (defScope s_shCounts) := ⟨rfl, rfl, rfl, by decide +kernel, rfl, by decide +kernel, by decide +kernel⟩
theorem ok_shCounts (T : Txt K mg D) : FnOk P w K mg base CX0 1 D.f_shCounts D.d_shCounts ["self"] (spShCounts D) := by
  refine T.F_shCounts.ok sc_shCounts (fun vs H Q E h => ?_) (fun cdv A outer s H vs Q E hr h => ?_)
  · obtain ⟨p, L, rfl, _⟩ := h
    rfl
  · obtain ⟨p, L, rfl, ⟨dx, d, hp, hd⟩, hL, k⟩ := h
    have hu := hu_of hr
    refine ⟨_, pss_one (ps_ret (pe_lc (own := [("size", 1)]) (g := gName 1) (by rfl) sc_shCounts.nd
      (pi_list (pe_callB cr_sorted (by rfl) T.b_sorted (by decide +kernel) (pa_cons (pe_callTy (call_list_dK (by rfl)) (by rfl) T.b_list (by decide +kernel) (pa_cons (pe_fld (pv 0) rfl) pa_nil)) pa_nil)))
      (blkOk_by (N := ["self", "size"]) (sc := defScope s_shCounts) (own := [("size", 1)]) (by decide +kernel))
      (fun _ _ _ _ _ => pg_name (i := 1) sc_shCounts.nd rfl (Or.inl rfl)) (fun _ _ _ _ _ => pts_nil) (fun _ _ _ _ _ => by exact pe_tup (pa_cons (pv 1) (pa_cons (pe_dget (by exact hu) (fldK K (pv 0)) (pv 1) (fun _ _ => rfl)) pa_nil))))), ?_⟩
    refine ⟨_, rfl, p, D.cSh, dx, _, _, rfl, hp, T.cSh, T.n_own_counts, rfl, d, _, rfl, hd, fun l1 hl1 => ?_⟩
    have s1 := same_new (o := .lst ((kvs L).map fun kv => kV kv.1)) hl1
    refine ⟨l1, keys L, rfl, SqL.of (by rw [upd_same, kvs_keys]), ?_, fun ns l2 hperm hsort hl2 => ?_⟩
    · have := hL.len
      show (L.map (·.1)).length < 64
      rw [List.length_map]; omega
    have s2 := s1.new (o := .lst (ns.map V.int)) hl2
    refine ⟨l2, rfl, ⟨_, SqL.of upd_same⟩, fun Dd hDd => ?_⟩
    refine lc_w (walk_list (xs := ns.map V.int)) (GR e2 (mpT (fun s => (s, cnt L s)) ns)) hDd (fun H' s' => SqL.of (s' _ _ upd_same)) (GR.zero (mpT_zero ..)) (fun i x acc H1 H1' hi s3 h1 h2 g y => ?_) (fun acc H1 s3 h1 g => ?_)
    · obtain ⟨rfl, hx⟩ := y
      obtain ⟨n, hn, rfl⟩ := get_map hx
      have s4 := s2.trans s3
      have hmem : n ∈ keys L := hperm.mem_iff.mp (List.mem_of_getElem? hn)
      refine ⟨rfl, ?_⟩
      refine ⟨_, rfl, _, rfl, p, D.cSh, dx, _, _, rfl, s4 _ _ hp, T.cSh, T.n_own_counts, rfl, _, rfl, d, _, rfl, kvs_dget (s4 _ _ hd) hL.nd hmem, ?_⟩
      · refine ⟨by show 2 ≤ sizeLine; decide, fun t ht => ?_⟩
        have st := same_new (o := .tup [.int n, .int (cnt L n)]) ht
        refine LcP.put st s3 hDd h1 h2 (by have := hL.len; rw [List.length_map, hperm.length_eq] at hi; simp at hi; omega) ?_
        exact g.put st (st _ _ h1) (a := (n, cnt L n)) upd_same (mpT_step hn)
    · refine k _ _ (s2.trans s3) (Rows.of g h1 ?_)
      rw [List.length_map, mpT_all]
      exact srt_of_keys hL.nd hperm hsort

/-- one count -/
def spShCount (D : Ad) : Sp := fun vs H Q _ => ∃ (p : Addr) (n : Int) (L : List Pr), vs = [.ref p, .int n] ∧ IsSh D H p L ∧ (keys L).Nodup ∧ n ∈ SIZES ∧ Q (.int (cnt L n)) H
theorem sc_shCount : FnScope ["self", "size"] ["self", "size"] (defScope s_shCount) := ⟨rfl, rfl, rfl, by decide +kernel, rfl, by decide +kernel, by decide +kernel⟩
theorem ok_shCount (T : Txt K mg D) : FnOk P w K mg base CX0 3 D.f_shCount D.d_shCount ["self", "size"] (spShCount D) := by
  refine T.F_shCount.ok sc_shCount (fun vs H Q E h => ?_) (fun cdv A outer s H vs Q E hr h => ?_)
  · obtain ⟨p, n, L, rfl, _⟩ := h
    rfl
  · obtain ⟨p, n, L, rfl, ⟨dx, d, hp, hd⟩, hL, hn, k⟩ := h
    have hu := hu_of hr
    refine ⟨_, pss_one (ps_ret (pe_ifExp (PW.pt (pw_and (pt_val (pe_call (ok_isSize T) hr (by rfl) T.g_isSize T.F_isSize.kp (b_isSize T) .nil pass0 (pa_cons (pv 1) pa_nil))) (pw_and1 (pt_cmp (pc_din hu (pv 1) (pe_fld (pv 0) rfl))))))
      (pe_dget hu (pe_fld (pv 0) rfl) (pv 1) (fun _ _ => rfl)) pe_int)), ?_⟩
    refine ⟨_, rfl, n, rfl, hn, true, rfl, iteT ⟨_, rfl, _, rfl, p, D.cSh, dx, _, _, rfl, hp, T.cSh, T.n_own_counts, rfl, d, _, rfl, DGet.k (k := Sum.inl n) hd, ?_⟩⟩
    by_cases c : n ∈ keys L
    · rw [kvs_cnt hL c]
      refine ⟨true, rfl, iteT ⟨_, rfl, p, D.cSh, dx, _, _, rfl, hp, T.cSh, T.n_own_counts, rfl, _, rfl, d, _, rfl, kvs_dget hd hL c, k⟩⟩
    · rw [kvs_no c]
      refine ⟨false, rfl, iteF ?_⟩
      rw [cnt_none c] at k
      exact k
end
end K64W
set_option Elab.async false
set_option maxRecDepth 100000
set_option maxHeartbeats 4000000
/-! Nested data compared; sums; tuples joined. -/
namespace K64W
open PySem L2 K64

/-! ### lists and tuples of ints, lists of tuples of ints -/
abbrev dInts (ns : List Int) : List PyData := ns.map PyData.int
abbrev dRows (rs : List (List Int)) : List PyData := rs.map fun r => PyData.tuple (dInts r)
theorem ints_can : ∀ ns : List Int, PyData.canLayAll0 (dInts ns) = true
  | [] => rfl
  | n :: ns => by
    show (PyData.canLay0 (.int n) && PyData.canLayAll0 (dInts ns)) = true
    rw [ints_can ns]
    rfl
theorem ints_depth : ∀ ns : List Int, PyData.depthAll (dInts ns) ≤ 1
  | [] => Nat.zero_le _
  | n :: ns => by
    show max (PyData.depth (.int n)) (PyData.depthAll (dInts ns)) ≤ 1
    have h1 : PyData.depth (.int n) ≤ 1 := by simp [PyData.depth]
    have h2 := ints_depth ns
    omega
theorem list_depth (ds : List PyData) : PyData.depth (.list ds) = PyData.depthAll ds + 1 := by simp [PyData.depth, Nat.add_comm]
theorem tuple_depth (ds : List PyData) : PyData.depth (.tuple ds) = PyData.depthAll ds + 1 := by simp [PyData.depth, Nat.add_comm]
theorem rows_can : ∀ rs : List (List Int), PyData.canLayAll0 (dRows rs) = true
  | [] => rfl
  | r :: rs => by
    show (PyData.canLayAll0 (dInts r) && PyData.canLayAll0 (dRows rs)) = true
    rw [rows_can rs, ints_can r]
    rfl
theorem rows_depth : ∀ rs : List (List Int), PyData.depthAll (dRows rs) ≤ 2
  | [] => Nat.zero_le _
  | r :: rs => by
    show max (PyData.depth (.tuple (dInts r))) (PyData.depthAll (dRows rs)) ≤ 2
    have h1 := ints_depth r
    have h2 := rows_depth rs
    rw [tuple_depth]
    omega
theorem shaped_of {d : PyData} (h1 : d.canLay0 = true) (h2 : d.depth ≤ 64) : SeqAt.shaped d = true := by
  unfold SeqAt.shaped
  rw [h1, decide_eq_true h2]
  rfl
theorem sh_ints (ns : List Int) : SeqAt.shaped (.list (dInts ns)) = true := shaped_of (ints_can ns) (by rw [list_depth]; have := ints_depth ns; omega)
theorem sh_intsT (ns : List Int) : SeqAt.shaped (.tuple (dInts ns)) = true := shaped_of (ints_can ns) (by rw [tuple_depth]; have := ints_depth ns; omega)
theorem sh_rows (rs : List (List Int)) : SeqAt.shaped (.list (dRows rs)) = true := shaped_of (rows_can rs) (by rw [list_depth]; have := rows_depth rs; omega)
theorem eqv_same {d : PyData} (h : SeqAt.shaped d = true) : PyData.eqv d d = true := SeqAt.eqv_refl d (SeqAt.canLay_of_shaped h)
section
variable {K : PySem.W.Frag} {H : Hp}
theorem dp_ints : ∀ ns : List Int, DpAll K H (ns.map V.int) (dInts ns)
  | [] => .nil
  | n :: ns => .cons (.int n) (dp_ints ns)
theorem dpL {a : Addr} {ns : List Int} (h : SqL K H a (ns.map V.int)) : Dp K H (.ref a) (.list (dInts ns)) := .lst h (dp_ints ns)
theorem dpT {a : Addr} {ns : List Int} (h : SqT K H a (ns.map V.int)) : Dp K H (.ref a) (.tuple (dInts ns)) := .tup h (dp_ints ns)
theorem dp_rows {α : Type} {e : α → List V} {f : α → List Int} (he : ∀ a, e a = (f a).map V.int) : ∀ ks : List (Addr × α), (∀ p ∈ ks, H p.1 = some (.tup (e p.2))) → DpAll K H (ks.map fun p => V.ref p.1) (dRows ((ks.map (·.2)).map f))
  | [], _ => .nil
  | p :: ks, h => .cons (dpT (SqT.of (by rw [← he]; exact h p (by simp)))) (dp_rows he ks fun q hq => h q (by simp [hq]))
theorem dpRows {α : Type} {e : α → List V} {f : α → List Int} (he : ∀ a, e a = (f a).map V.int) {a : Addr} {L : List α} (h : Rows H a e L) : Dp K H (.ref a) (.list (dRows (L.map f))) := by
  obtain ⟨ks, h1, h2, rfl⟩ := h
  exact .lst (SqL.of h1) (dp_rows he ks h2)
end
abbrev f2 (p : Int × Int) : List Int := [p.1, p.2]
abbrev f3 (p : Int × Int × Int) : List Int := [p.1, p.2.1, p.2.2]

/-! ### sums and truths of lists -/
theorem sum_fm {α : Type} (c : α → Bool) (f : α → Int) (L : List α) : (L.filterMap fun p => if c p = true then some (f p) else none).sum = tot (fun p => if c p = true then f p else 0) L := by
  induction L with
  | nil => rfl
  | cons a L ih =>
    rw [List.filterMap_cons, tot_cons]
    by_cases h : c a = true
    · simp only [h, if_true, List.sum_cons, ih]
    · simp only [h, Bool.false_eq_true, if_false, ih]
      omega
theorem any_map {α : Type} (f : α → Bool) (L : List α) : (L.map f).any id = L.any f := by
  induction L with
  | nil => rfl
  | cons a L ih => simp
theorem all_map {α : Type} (f : α → Bool) (L : List α) : (L.map f).all id = L.all f := by
  induction L with
  | nil => rfl
  | cons a L ih => simp
theorem all_true {α : Type} {f : α → Bool} {L : List α} (h : ∀ a ∈ L, f a = true) : (L.map f).all id = true := by
  rw [all_map, List.all_eq_true]
  exact h
section
variable {X : Cx} (K : PySem.W.Frag)
theorem catAK (hK : X.K = K := by rfl) : OpR X (binaryOp .Add) (rCatA K) := hK ▸ op_catA
theorem slLK (hK : X.K = K := by rfl) : SlR X (rSlL K) := hK ▸ sl_list
theorem neDK (hu : X.A.units + 64 < cLine) (hK : X.K = K := by rfl) : OpR X (compareOp .NotEq) (rNeD K) := hK ▸ op_neD hu
theorem setIK (hc : X.calm = true := by rfl) {w : World} (hw : X.w = w := by rfl) (hK : X.K = K := by rfl) : CallR X (.type "set") (K64R.rSetOfI K w) := hw ▸ hK ▸ K64R.cr_setOfI hc
end
end K64W
set_option Elab.async false
set_option maxRecDepth 100000
set_option maxHeartbeats 4000000
/-! A comprehension by what a turn is worth. -/
namespace K64W
open PySem L2 K64
section
variable {α : Type} {J : It} {n : Nat} {G : Hp → Prop} {Y : Nat → Hp → V → Hp → Prop} {g : TG} {tt : TT} {te : TE} {vs : List Nat} {σ : St} {H1 : Hp} {D : Addr} {Qd : Hp → Prop}
/-- one turn: the target is bound, the test is worth b, the element is worth El -/
def TurnIs (g : TG) (tt : TT) (te : TE) (vs : List Nat) (σ : St) (b : Bool) (El : V → Hp → Prop) (x : V) (H : Hp) : Prop :=
  ∃ σ2, wipe σ2 vs = wipe σ vs ∧ (∀ Q : St → Hp → Prop, Q σ2 H → g x (wipe σ vs) H Q) ∧ (∀ Q : Bool → Hp → Prop, (∀ H2, Same H H2 → Q b H2) → tt σ2 H Q) ∧
    (b = true → ∀ H2, Same H H2 → ∀ Q : VK, (∀ v H3, Same H2 H3 → El v H3 → Q v H3) → te σ2 H2 Q)
theorem lc_gen (wk : Walk J n G Y) (L : List α) (p : α → Bool) (El : α → V → Hp → Prop) (hn : n = L.length) (hsz : L.length ≤ 100000) (hD : H1 D = none) (hG : ∀ H, Same H1 H → G H) (Gd : Nat → List V → Hp → Prop) (h0 : Gd 0 [] (upd H1 D (.lst [])))
    (hY : ∀ i x a H H', L[i]? = some a → Same H1 H → Y i H x H' → Same H H' ∧ TurnIs g tt te vs σ (p a) (El a) x H')
    (put : ∀ i a acc H H' v l, L[i]? = some a → p a = true → Gd i acc H → Same H H' → El a v H' → H' D = some (.lst l) → Gd (i + 1) (acc ++ [v]) (upd H' D (.lst (acc ++ [v]))))
    (skip : ∀ i a acc H H', L[i]? = some a → p a = false → Gd i acc H → Same H H' → Gd (i + 1) acc H')
    (hd : ∀ acc H, Same H1 H → H D = some (.lst acc) → Gd n acc H → Qd H) :
    ∃ W : Nat → Nat → Hp → Prop, (∃ m, W 0 m (upd H1 D (.lst []))) ∧ ∀ i m H, W i m H →
      (J.stop i H ∧ Qd H) ∨ (J.go i H ∧ ∃ Nx : Hp → Prop, (∀ H', Nx H' → ∃ m', m' < m ∧ W (i + 1) m' H') ∧ ∀ x H', J.yld i H x H' → g x (wipe σ vs) H' fun σ2 H2 => wipe σ2 vs = wipe σ vs ∧ tt σ2 H2 fun b H3 =>
        if b = true then te σ2 H3 fun y H4 => ∃ acc, H4 D = some (.lst acc) ∧ acc.length < sizeLine ∧ Nx (upd H4 D (.lst (acc ++ [y]))) else Nx H3) := by
  refine lc_w wk Gd hD hG h0 (fun i x acc H H' hi s h1 h2 g y => ?_) hd
  have hi' : i < L.length := by omega
  obtain ⟨s2, σ2, e, hg, ht, he⟩ := hY i x L[i] H H' (List.getElem?_eq_getElem hi') s y
  refine hg _ ⟨e, ht _ fun H2 s3 => ?_⟩
  cases hp : p L[i] with
  | false =>
    exact LcP.skip (s2.trans s3) s h1 h2 (skip i L[i] acc H H2 (List.getElem?_eq_getElem hi') hp g (s2.trans s3))
  | true =>
    refine he hp H2 s3 _ fun v H3 s4 el => ?_
    have s5 := (s2.trans s3).trans s4
    exact LcP.put s5 s hD h1 h2 (by omega) (put i L[i] acc H H3 v acc (List.getElem?_eq_getElem hi') hp g s5 el (s5 _ _ h1))
/-- the elements are worth data, by F -/
theorem lc_pure {β : Type} (wk : Walk J n G Y) (L : List α) (p : α → Bool) (F : β → V) (f : α → β) (hn : n = L.length) (hsz : L.length ≤ 100000) (hD : H1 D = none) (hG : ∀ H, Same H1 H → G H)
    (hY : ∀ i x a H H', L[i]? = some a → Same H1 H → Y i H x H' → Same H H' ∧ TurnIs g tt te vs σ (p a) (fun v _ => v = F (f a)) x H')
    (hd : ∀ H, Same H1 H → H D = some (.lst (((L.filter p).map f).map F)) → Qd H) :
    ∃ W : Nat → Nat → Hp → Prop, (∃ m, W 0 m (upd H1 D (.lst []))) ∧ ∀ i m H, W i m H →
      (J.stop i H ∧ Qd H) ∨ (J.go i H ∧ ∃ Nx : Hp → Prop, (∀ H', Nx H' → ∃ m', m' < m ∧ W (i + 1) m' H') ∧ ∀ x H', J.yld i H x H' → g x (wipe σ vs) H' fun σ2 H2 => wipe σ2 vs = wipe σ vs ∧ tt σ2 H2 fun b H3 =>
        if b = true then te σ2 H3 fun y H4 => ∃ acc, H4 D = some (.lst acc) ∧ acc.length < sizeLine ∧ Nx (upd H4 D (.lst (acc ++ [y]))) else Nx H3) := by
  refine lc_gen wk L p (fun a v _ => v = F (f a)) hn hsz hD hG (GM F fun i => (flT p L i).map f) (GM.zero (by rw [flT_zero]; rfl)) hY (fun i a acc H H' v l ha hp gd s el _ => ?_) (fun i a acc H H' ha hp gd s => ?_) (fun acc H s h1 gd => hd H s ?_)
  · subst el
    exact gd.put (by rw [flT_yes ha hp, List.map_append]; rfl)
  · exact gd.skip (by rw [flT_no ha hp])
  · have := gd.eq (L := (L.filter p).map f) (by rw [hn, flT_all])
    rw [h1, this]
/-- the elements are tuples -/
theorem lc_rows {β : Type} (wk : Walk J n G Y) (L : List α) (p : α → Bool) (enc : β → List V) (f : α → β) (hn : n = L.length) (hsz : L.length ≤ 100000) (hD : H1 D = none) (hG : ∀ H, Same H1 H → G H)
    (hY : ∀ i x a H H', L[i]? = some a → Same H1 H → Y i H x H' → Same H H' ∧ TurnIs g tt te vs σ (p a) (fun v H3 => ∃ t, v = .ref t ∧ H3 t = some (.tup (enc (f a)))) x H')
    (hd : ∀ H, Same H1 H → Rows H D enc ((L.filter p).map f) → Qd H) :
    ∃ W : Nat → Nat → Hp → Prop, (∃ m, W 0 m (upd H1 D (.lst []))) ∧ ∀ i m H, W i m H →
      (J.stop i H ∧ Qd H) ∨ (J.go i H ∧ ∃ Nx : Hp → Prop, (∀ H', Nx H' → ∃ m', m' < m ∧ W (i + 1) m' H') ∧ ∀ x H', J.yld i H x H' → g x (wipe σ vs) H' fun σ2 H2 => wipe σ2 vs = wipe σ vs ∧ tt σ2 H2 fun b H3 =>
        if b = true then te σ2 H3 fun y H4 => ∃ acc, H4 D = some (.lst acc) ∧ acc.length < sizeLine ∧ Nx (upd H4 D (.lst (acc ++ [y]))) else Nx H3) := by
  refine lc_gen wk L p (fun a v H3 => ∃ t, v = .ref t ∧ H3 t = some (.tup (enc (f a)))) hn hsz hD hG (GR enc fun i => (flT p L i).map f) (GR.zero (by rw [flT_zero]; rfl)) hY (fun i a acc H H' v l ha hp gd s ⟨t, ev, ht⟩ hD' => ?_) (fun i a acc H H' ha hp gd s => ?_) (fun acc H s h1 gd => hd H s ?_)
  · subst ev
    exact gd.put s hD' ht (by rw [flT_yes ha hp, List.map_append]; rfl)
  · exact gd.skip s (by rw [flT_no ha hp])
  · exact Rows.of gd h1 (by rw [hn, flT_all])
/-- the target is one name -/
theorem turn_name {i : Nat} {b : Bool} {El : V → Hp → Prop} {x : V} {H : Hp} (hw : wipe ((wipe σ vs).set i (some x)) vs = wipe σ vs)
    (ht : ∀ Q : Bool → Hp → Prop, (∀ H2, Same H H2 → Q b H2) → tt ((wipe σ vs).set i (some x)) H Q)
    (he : b = true → ∀ H2, Same H H2 → ∀ Q : VK, (∀ v H3, Same H2 H3 → El v H3 → Q v H3) → te ((wipe σ vs).set i (some x)) H2 Q) : TurnIs (gName i) tt te vs σ b El x H :=
  ⟨_, hw, fun _ h => h, ht, he⟩
/-- two names of a pair -/
theorem turn_pair {K : PySem.W.Frag} {i j : Nat} {b : Bool} {El : V → Hp → Prop} {t : Addr} {y z : V} {H : Hp} (h : SqT K H t [y, z]) (hw : wipe (((wipe σ vs).set i (some y)).set j (some z)) vs = wipe σ vs)
    (ht : ∀ Q : Bool → Hp → Prop, (∀ H2, Same H H2 → Q b H2) → tt (((wipe σ vs).set i (some y)).set j (some z)) H Q)
    (he : b = true → ∀ H2, Same H H2 → ∀ Q : VK, (∀ v H3, Same H2 H3 → El v H3 → Q v H3) → te (((wipe σ vs).set i (some y)).set j (some z)) H2 Q) :
    TurnIs (gTup K 2 (gCons (gName i) (gCons (gName j) gNil))) tt te vs σ b El (.ref t) H :=
  ⟨_, hw, fun _ hq => ⟨t, _, rfl, h, rfl, _, _, rfl, _, _, rfl, rfl, hq⟩, ht, he⟩
/-- three of a triple -/
theorem turn_tri {K : PySem.W.Frag} {i j l : Nat} {b : Bool} {El : V → Hp → Prop} {t : Addr} {y z u : V} {H : Hp} (h : SqT K H t [y, z, u]) (hw : wipe ((((wipe σ vs).set i (some y)).set j (some z)).set l (some u)) vs = wipe σ vs)
    (ht : ∀ Q : Bool → Hp → Prop, (∀ H2, Same H H2 → Q b H2) → tt ((((wipe σ vs).set i (some y)).set j (some z)).set l (some u)) H Q)
    (he : b = true → ∀ H2, Same H H2 → ∀ Q : VK, (∀ v H3, Same H2 H3 → El v H3 → Q v H3) → te ((((wipe σ vs).set i (some y)).set j (some z)).set l (some u)) H2 Q) :
    TurnIs (gTup K 3 (gCons (gName i) (gCons (gName j) (gCons (gName l) gNil)))) tt te vs σ b El (.ref t) H :=
  ⟨_, hw, fun _ hq => ⟨t, _, rfl, h, rfl, _, _, rfl, _, _, rfl, _, _, rfl, rfl, hq⟩, ht, he⟩
theorem yes_of {σ2 : St} {H : Hp} : ∀ Q : Bool → Hp → Prop, (∀ H2, Same H H2 → Q true H2) → tYes σ2 H Q := fun _ h => h _ (Same.refl _)
theorem filter_yes {L : List α} : (L.filter fun _ => true) = L := List.filter_eq_self.mpr fun _ _ => rfl
end
section
variable {α : Type} {K : PySem.W.Frag} {a : Addr}
/-- the source: a list of data by F -/
theorem src_list {β : Type} {F : β → V} {L : List β} {i : Nat} {H H' : Hp} {x : V} {b : β} (hb : L[i]? = some b) (y : YAt (L.map F) i H x H') : H' = H ∧ x = F b := by
  obtain ⟨rfl, hx⟩ := y
  obtain ⟨c, hc, rfl⟩ := get_map hx
  rw [hb] at hc
  cases hc
  exact ⟨rfl, rfl⟩
/-- the source: a list of tuples -/
theorem src_rows {β : Type} {ks : List (Addr × β)} {L : List β} (hk : ks.map (·.2) = L) {i : Nat} {H H' : Hp} {x : V} {b : β} (hb : L[i]? = some b) (y : YAt (ks.map fun p => V.ref p.1) i H x H') : H' = H ∧ ∃ p, p ∈ ks ∧ x = V.ref p.1 ∧ p.2 = b := by
  obtain ⟨rfl, hx⟩ := y
  obtain ⟨p, _, hm, rfl, hp⟩ := ks_get hk hx
  rw [hb] at hp
  cases hp
  exact ⟨rfl, p, hm, rfl, rfl⟩
end
end K64W
set_option Elab.async false
set_option maxRecDepth 100000
set_option maxHeartbeats 4000000
/-! room_for, chosen_sizes. -/
namespace K64W
open PySem L2 K64
section
variable {P : Program} {w : World} {K : PySem.W.Frag} {mg : Str → Option Value} {base : Heap} {D : Ad}

def spRoom (K : PySem.W.Frag) (D : Ad) : Sp := fun vs H Q _ => ∃ (t p : Addr) (S : List Int) (L : List Pr), vs = [.ref t, .ref p] ∧ SqT K H t (S.map V.int) ∧ S.length ≤ 30 ∧ (∀ s ∈ S, s ∈ SIZES) ∧ IsSh D H p L ∧ Sh0 L ∧ ∀ H', Same H H' → Q (.int (room S L)) H'
abbrev nRoom : List Str := ["sizes", "other", "great", "count", "size"]
theorem sc_roomFor : FnScope nRoom ["sizes", "other"] (defScope s_roomFor) := ⟨rfl, rfl, rfl, by decide +kernel, rfl, by decide +kernel, by decide +kernel⟩
theorem ok_roomFor (T : Txt K mg D) : FnOk P w K mg base CX0 4 D.f_roomFor D.d_roomFor ["sizes", "other"] (spRoom K D) := by
  refine T.F_roomFor.ok sc_roomFor (fun vs H Q E h => ?_) (fun cdv A outer s H vs Q E hr h => ?_)
  · obtain ⟨t, p, S, L, rfl, _⟩ := h
    rfl
  · obtain ⟨t, p, S, L, rfl, ht, hS30, hSz, hp, hL, k⟩ := h
    have hr1 : Room 1 _ := hr.mono (by decide)
    refine ⟨_, pss_one (ps_ret (pe_callB (sumK K) (by rfl) T.b_sum (by decide +kernel) (pa_cons (pe_lc (own := [("great", 2), ("count", 3)]) (g := gTup K 2 (gCons (gName 2) (gCons (gName 3) gNil))) (by rfl) sc_roomFor.nd
      (pi_list (pe_meth0 (pv 1) T.cSh T.M_shCounts (ok_shCounts T) hr1 (b_shCounts T) .nil pass0))
      (blkOk_by (N := nRoom) (sc := defScope s_roomFor) (own := [("great", 2), ("count", 3)]) (by decide +kernel))
      (fun _ _ _ _ _ => by exact tupK K rfl (pgs_cons (pg_name (i := 2) sc_roomFor.nd rfl (Or.inr rfl)) (pgs_cons (pg_name (i := 3) sc_roomFor.nd rfl (Or.inl rfl)) pgs_nil)))
      (fun _ _ _ _ _ => by exact pts_one (pt_val (pe_callB (anyK K) (by rfl) T.b_any (by decide +kernel) (pa_cons (pe_lc (own := [("size", 4)]) (g := gName 4) (by rfl) sc_roomFor.nd (tplK K (pv 0))
        (blkOk_by (N := nRoom) (sc := relS _ (defScope s_roomFor)) (own := [("size", 4)]) (by decide +kernel))
        (fun _ _ _ _ _ => pg_name (i := 4) sc_roomFor.nd rfl (Or.inl rfl)) (fun _ _ _ _ _ => pts_nil)
        (fun _ _ _ _ _ => by exact pe_call (ok_liesIn T) hr (by rfl) T.g_liesIn T.F_liesIn.kp (b_liesIn T) .nil pass0 (pa_cons (pv 4) (pa_cons (pv 2) pa_nil)))) pa_nil))))
      (fun _ _ _ _ _ => pv 3)) pa_nil))), ?_⟩
    refine ⟨_, rfl, ?_⟩
    obtain ⟨dx, d, hp1, hp2⟩ := id hp
    refine ⟨p, dx, _, rfl, hp1, rfl, p, L, rfl, hp, hL, fun H1 l s1 hR => ?_⟩
    obtain ⟨ks, hl, hks, hks2⟩ := hR
    have hlen := hL.len
    refine ⟨l, rfl, ⟨_, SqL.of hl⟩, fun Dd hDd => ?_⟩
    refine lc_pure (walk_list (xs := ks.map fun p => V.ref p.1)) (srt L) (fun q => S.any fun s => lies s q.1) V.int (fun q => q.2) (by rw [List.length_map, ks_len hks2]) (by rw [srt_len]; omega) hDd (fun H' s' => SqL.of (s' _ _ hl))
      (fun i x a H2 H2' ha s2 y => ?_) (fun H2 s2 h2 => ?_)
    · obtain ⟨rfl, q, hq, rfl, rfl⟩ := src_rows hks2 ha y
      have hmem := mem_srt.mp (List.mem_of_getElem? ha)
      refine ⟨Same.refl _, turn_pair (SqT.of (s2 _ _ (hks q hq))) rfl (fun Q' hQ => ?_) (fun hb H3 s3 Q' hQ => ⟨_, rfl, hQ _ _ (Same.refl _) rfl⟩)⟩
      refine ⟨_, rfl, t, rfl, ⟨_, (s1.trans s2).seqT ht⟩, fun De hDe => ?_⟩
      refine lc_pure (walk_tup (xs := S.map V.int)) S (fun _ => true) V.bl (fun s => lies s q.2.1) (List.length_map ..) (by omega) hDe (fun H' s' => (s1.trans (s2.trans s')).seqT ht)
        (fun i x a H3 H3' ha' s3 y => ?_) (fun H3 s3 h3 => ?_)
      · obtain ⟨rfl, rfl⟩ := src_list ha' y
        refine ⟨Same.refl _, turn_name rfl yes_of fun _ H4 s4 Q2 hQ2 => ?_⟩
        exact ⟨_, rfl, _, rfl, a, q.2.1, rfl, hSz a (List.mem_of_getElem? ha'), hL.sz _ hmem, fun H5 s5 => hQ2 _ _ s5 rfl⟩
      · refine ⟨De, (S.filter fun _ => true).map fun s => lies s q.2.1, rfl, SqL.of h3, ?_⟩
        rw [any_map, filter_yes]
        exact ⟨_, rfl, hQ _ s3⟩
    · refine ⟨Dd, ((srt L).filter fun q => S.any fun s => lies s q.1).map fun q => q.2, rfl, SqL.of h2, ?_⟩
      have e : (((srt L).filter fun q => S.any fun s => lies s q.1).map fun q => q.2).sum = room S L := by
        rw [tot_sum, tot_filter, ← room_srt]
        rfl
      rw [e]
      exact k _ (s1.trans s2)

/-- all choices among some sizes -/
def spChosen (K : PySem.W.Frag) : Sp := fun vs H Q _ => ∃ (l : Addr) (S : List Int), vs = [.ref l] ∧ SqL K H l (S.map V.int) ∧ S.length ≤ 8 ∧ ∀ H' r, Same H H' → Rows H' r eI (chosen S) → Q (.ref r) H'
abbrev nChosen : List Str := ["sizes", "found", "size", "row"]
theorem sc_chosenSizes : FnScope nChosen ["sizes"] (defScope s_chosenSizes) := ⟨rfl, rfl, rfl, by decide +kernel, rfl, by decide +kernel, by decide +kernel⟩
theorem lots_len : ∀ (l : List Int) (F : List (List Int)), (l.foldl (fun f s => f ++ f.map fun r => r ++ [s]) F).length = F.length * 2 ^ l.length
  | [], F => by simp
  | s :: l, F => by
    rw [List.foldl_cons, lots_len l, List.length_append, List.length_map, List.length_cons, Nat.pow_succ]
    rw [Nat.mul_comm (2 ^ l.length) 2, ← Nat.mul_assoc, Nat.mul_two]
theorem lots_take {l : List Int} {i : Nat} {s : Int} (h : l[i]? = some s) : lots (l.take (i + 1)) = lots (l.take i) ++ (lots (l.take i)).map fun r => r ++ [s] := by
  unfold lots
  rw [take_succ_of h, List.foldl_append]
  rfl
theorem lots_le {l : List Int} (h : l.length ≤ 8) (i : Nat) : (lots (l.take i)).length ≤ 256 := by
  unfold lots
  rw [lots_len, List.length_take]
  have : 2 ^ (min i l.length) ≤ 2 ^ 8 := Nat.pow_le_pow_right (by decide) (by omega)
  simp only [List.length_singleton, Nat.one_mul]
  omega
theorem cut_one (xs : List V) : cutV xs (some 1) none = xs.drop 1 := by
  unfold cutV
  rw [HT.sIx_none, show (some 1 : Option Int) = some ((1 : Nat) : Int) from rfl, HT.sIx_nat]
  by_cases h : 1 ≤ xs.length
  · rw [Nat.min_eq_left h, List.take_of_length_le (by rw [List.length_drop]; omega)]
  · have : xs = [] := List.eq_nil_of_length_eq_zero (by omega)
    rw [this]
    rfl
theorem ok_chosenSizes (T : Txt K mg D) : FnOk P w K mg base CX0 1 D.f_chosenSizes D.d_chosenSizes ["sizes"] (spChosen K) := by
  refine T.F_chosenSizes.ok sc_chosenSizes (fun vs H Q E h => ?_) (fun cdv A outer s H vs Q E hr h => ?_)
  · obtain ⟨l, S, rfl, _⟩ := h
    rfl
  · obtain ⟨l, S, rfl, hl, hS8, k⟩ := h
    refine ⟨_, pss_cons (ps_set (i := 1) sc_chosenSizes.nd rfl (Or.inl rfl) (pe_lst (pa_cons (pe_tup pa_nil) pa_nil)))
      (pss_cons (ps_for PassesOwn.never rfl (pi_list (pv 0)) (pg_name (i := 2) sc_chosenSizes.nd rfl (Or.inr rfl))
        (pss_one (ps_set (i := 1) sc_chosenSizes.nd rfl (Or.inl rfl) (pe_op op_cat (pv 1) (pe_lc (own := [("row", 3)]) (g := gName 3) (by rfl) sc_chosenSizes.nd (pi_list (pv 1))
          (blkOk_by (N := nChosen) (sc := defScope s_chosenSizes) (own := [("row", 3)]) (by decide +kernel))
          (fun _ _ _ _ _ => pg_name (i := 3) sc_chosenSizes.nd rfl (Or.inl rfl)) (fun _ _ _ _ _ => pts_nil)
          (fun _ _ _ _ _ => by exact pe_op (catAK K) (pv 3) (pe_tup (pa_cons (pv 2) pa_nil))))))))
      (pss_one (ps_ret (pe_slice sl_list (pv 1) (po_some pe_int) po_none)))), ?_⟩
    refine ⟨by show 0 ≤ sizeLine; decide, fun t ht => ⟨by show 1 ≤ sizeLine; decide, fun f hf => ?_⟩⟩
    have s1 := (same_new (o := .tup []) ht).new (o := .lst [.ref t]) hf
    have R0 : Rows (upd (upd H t (.tup [])) f (.lst [.ref t])) f eI (lots (S.take 0)) := by
      refine ⟨[(t, [])], upd_same, fun p hp => ?_, rfl⟩
      rw [List.mem_singleton.mp hp]
      exact (same_new hf) _ _ upd_same
    refine ⟨_, rfl, l, rfl, ⟨_, s1.seq hl⟩, for_list (K := K) (a := l) (xs := S.map V.int) (fun i σ H' => ∃ (a : Addr) (v : Option V), σ = [some (.ref l), some (.ref a), v, none] ∧ Same H H' ∧ Rows H' a eI (lots (S.take i)))
      ⟨f, none, rfl, s1, R0⟩ (fun i σ H' _ ⟨_, _, _, s, _⟩ => s.seq hl) ?_ ?_⟩
    · rintro i x σ H2 hx ⟨a, v, rfl, s2, ks, ha, hks, hk2⟩
      obtain ⟨n, hn, rfl⟩ := get_map hx
      have hlt := lots_le hS8 i
      have hkl := ks_len hk2
      refine ⟨_, rfl, _, rfl, a, rfl, ⟨_, SqL.of ha⟩, fun Dd hDd => ?_⟩
      refine lc_rows (walk_list (xs := ks.map fun p => V.ref p.1)) (lots (S.take i)) (fun _ => true) eI (fun r => r ++ [n]) (by rw [List.length_map, hkl]) (by omega) hDd (fun H' s' => SqL.of (s' _ _ ha))
        (fun j x r H3 H3' hr' s3 y => ?_) (fun H3 s3 R3 => ?_)
      · obtain ⟨rfl, q, hq, rfl, rfl⟩ := src_rows hk2 hr' y
        refine ⟨Same.refl _, turn_name rfl yes_of fun _ H4 s4 Q2 hQ2 => ?_⟩
        have hq4 := s4 _ _ (s3 _ _ (hks q hq))
        refine ⟨_, rfl, _, rfl, by show 1 ≤ sizeLine; decide, fun u hu => ?_⟩
        have s5 := same_new (o := .tup [.int n]) hu
        have hrow : q.2.length ≤ 8 := by
          have h1 : q.2 ∈ lots (S.take i) := by rw [← hk2]; exact List.mem_map_of_mem hq
          have h2 := (mem_lots.mp h1).length_le
          rw [List.length_take] at h2
          omega
        refine ⟨q.1, u, q.2.map V.int, [.int n], rfl, rfl, SqT.of (s5 _ _ hq4), SqT.of upd_same, ?_, fun e => ?_, fun _ e => (by cases e), fun _ _ z hz => ?_⟩
        · rw [List.length_map]
          exact Nat.le_of_lt (small1000 (by simp; omega))
        · refine hQ2 _ _ s5 ⟨u, rfl, ?_⟩
          have e2 : q.2 = [] := List.map_eq_nil_iff.mp e
          rw [e2]
          exact upd_same
        · refine hQ2 _ _ (s5.new hz) ⟨z, rfl, ?_⟩
          rw [upd_same]
          simp [eI]
      · obtain ⟨ks3, h3, hks3, hk3⟩ := R3
        rw [filter_yes] at hk3
        have hlt3 : ks3.length ≤ 256 := by rw [ks_len hk3, List.length_map]; exact hlt
        refine ⟨a, Dd, _, _, rfl, rfl, s3 _ _ ha, h3, ?_, fun z hz => ?_⟩
        · rw [List.length_map, List.length_map, hkl]
          exact Nat.le_of_lt (small1000 (by omega))
        · refine ⟨z, _, rfl, (s2.trans s3).new hz, ks ++ ks3, ?_, fun p hp => ?_, ?_⟩
          · rw [upd_same, List.map_append]
          · rcases List.mem_append.mp hp with h | h
            · exact (same_new hz) _ _ (s3 _ _ (hks p h))
            · exact (same_new hz) _ _ (hks3 p h)
          · rw [List.map_append, hk2, hk3, lots_take hn]
    · rintro σ H2 ⟨a, v, rfl, s2, ks, ha, hks, hk2⟩
      rw [List.length_map, List.take_length] at hk2
      refine ⟨_, rfl, _, rfl, a, _, rfl, SqL.of ha, fun z hz => ?_⟩
      rw [cut_one]
      refine k _ _ (s2.new hz) ⟨ks.drop 1, ?_, fun p hp => (same_new hz) _ _ (hks p (List.mem_of_mem_drop hp)), ?_⟩
      · rw [upd_same, List.map_drop]
      · rw [List.map_drop, hk2]
        rfl
end
end K64W
/-! K64 mathematics, part 6: tallies; rows in order. -/
namespace K64
/-- in its place, or at the end -/
def putP (T : List Pr) (s x : Int) : List Pr := if s ∈ keys T then T.map (fun p => if p.1 = s then (p.1, x) else p) else T ++ [(s, x)]
theorem keys_map (T : List Pr) (s x : Int) : keys (T.map fun p => if p.1 = s then (p.1, x) else p) = keys T := by
  unfold keys
  rw [List.map_map]
  refine List.map_congr_left fun p _ => ?_
  show (if p.1 = s then (p.1, x) else p).1 = p.1
  split <;> rfl
theorem putP_nd {T : List Pr} (h : (keys T).Nodup) (s x : Int) : (keys (putP T s x)).Nodup := by
  unfold putP
  split
  · rw [keys_map]; exact h
  · rename_i c
    show ((T ++ [(s, x)]).map (·.1)).Nodup
    rw [List.map_append, List.nodup_append]
    refine ⟨h, by simp, fun a ha b hb => ?_⟩
    have hb : b = s := by simpa using hb
    intro e
    exact c (by rw [← hb, ← e]; exact ha)
theorem putP_mem {T : List Pr} {s x k : Int} : k ∈ keys (putP T s x) ↔ k = s ∨ k ∈ keys T := by
  unfold putP
  split
  · rename_i c
    rw [keys_map]
    constructor
    · exact .inr
    · rintro (rfl | h)
      · exact c
      · exact h
  · show k ∈ (T ++ [(s, x)]).map (·.1) ↔ _
    rw [List.map_append, List.mem_append]
    simp [or_comm]
theorem cnt_cons (p : Pr) (T : List Pr) (k : Int) : cnt (p :: T) k = (if p.1 = k then p.2 else 0) + cnt T k := rfl
theorem putP_cnt {T : List Pr} (h : (keys T).Nodup) (s x k : Int) : cnt (putP T s x) k = if k = s then x else cnt T k := by
  unfold putP
  split
  · rename_i c
    by_cases e : k = s
    · subst e
      rw [if_pos rfl]
      obtain ⟨p, hp, e⟩ := List.mem_map.mp c
      have e : p.1 = k := e
      have hm : (k, x) ∈ T.map fun p => if p.1 = k then (p.1, x) else p := List.mem_map.mpr ⟨p, hp, by rw [if_pos e, e]⟩
      exact cnt_of (by rw [keys_map]; exact h) hm
    · rw [if_neg e]
      unfold cnt
      rw [tot_map]
      refine tot_congr fun p _ => ?_
      by_cases q : p.1 = s
      · rw [if_pos q]
        have : ¬ s = k := fun z => e z.symm
        simp [q, this]
      · rw [if_neg q]
  · rename_i c
    unfold cnt
    rw [tot_append]
    by_cases e : k = s
    · subst e
      rw [if_pos rfl]
      have := cnt_none c
      unfold cnt at this
      rw [this]; simp
    · rw [if_neg e]
      have : ¬ s = k := fun z => e z.symm
      simp [this]
theorem putP_len (T : List Pr) (s x : Int) : (putP T s x).length ≤ T.length + 1 := by
  unfold putP
  split
  · simp
  · simp
/-- the sums of a list's last numbers by a name of each -/
def tally (f : Tri → Int) (M : List Tri) : List Pr := M.foldl (fun T r => putP T (f r) (cnt T (f r) + r.2.2)) []
theorem tally_snoc (f : Tri → Int) (M : List Tri) (r : Tri) : tally f (M ++ [r]) = putP (tally f M) (f r) (cnt (tally f M) (f r) + r.2.2) := by
  unfold tally
  rw [List.foldl_append]
  rfl
theorem snoc_ind {α : Type} {P : List α → Prop} (h0 : P []) (hs : ∀ l a, P l → P (l ++ [a])) (l : List α) : P l := by
  have : ∀ m : List α, P m.reverse := by
    intro m
    induction m with
    | nil => exact h0
    | cons a m ih => rw [List.reverse_cons]; exact hs _ _ ih
  have := this l.reverse
  rwa [List.reverse_reverse] at this
theorem tally_nd (f : Tri → Int) (M : List Tri) : (keys (tally f M)).Nodup := by
  refine snoc_ind (P := fun M => (keys (tally f M)).Nodup) List.nodup_nil (fun l a ih => ?_) M
  show (keys (tally f (l ++ [a]))).Nodup
  rw [tally_snoc]; exact putP_nd ih _ _
theorem tally_mem (f : Tri → Int) (M : List Tri) (k : Int) : k ∈ keys (tally f M) ↔ ∃ r ∈ M, f r = k := by
  refine snoc_ind (P := fun M => k ∈ keys (tally f M) ↔ ∃ r ∈ M, f r = k) (by
    constructor
    · intro h; cases h
    · rintro ⟨r, h, _⟩; cases h) (fun l a ih => ?_) M
  show k ∈ keys (tally f (l ++ [a])) ↔ _
  rw [tally_snoc, putP_mem, ih]
  constructor
  · rintro (rfl | ⟨r, h, e⟩)
    · exact ⟨a, by simp, rfl⟩
    · exact ⟨r, by simp [h], e⟩
  · rintro ⟨r, h, e⟩
    rcases List.mem_append.mp h with h | h
    · exact .inr ⟨r, h, e⟩
    · rw [List.mem_singleton.mp h] at e
      exact .inl e.symm
theorem tally_cnt (f : Tri → Int) (M : List Tri) (k : Int) : cnt (tally f M) k = tot (fun r => if f r = k then r.2.2 else 0) M := by
  refine snoc_ind (P := fun M => cnt (tally f M) k = tot (fun r => if f r = k then r.2.2 else 0) M) rfl (fun l a ih => ?_) M
  show cnt (tally f (l ++ [a])) k = _
  rw [tally_snoc, putP_cnt (tally_nd f l), tot_append]
  by_cases e : k = f a
  · rw [if_pos e, ← e, ih]
    simp [e]
  · rw [if_neg e, ih]
    have : ¬ f a = k := fun z => e z.symm
    simp [this]
theorem tally_len (f : Tri → Int) (M : List Tri) : (tally f M).length ≤ M.length := by
  refine snoc_ind (P := fun M => (tally f M).length ≤ M.length) (Nat.le_refl _) (fun l a ih => ?_) M
  show (tally f (l ++ [a])).length ≤ (l ++ [a]).length
  rw [tally_snoc]
  have := putP_len (tally f l) (f a) (cnt (tally f l) (f a) + a.2.2)
  rw [List.length_append]
  simp only [List.length_singleton]
  omega
theorem perm_of_mem {l m : List Int} (h1 : l.Nodup) (h2 : m.Nodup) (h : ∀ a, a ∈ l ↔ a ∈ m) : l.Perm m := (List.perm_ext_iff_of_nodup h1 h2).mpr h

/-! ### rows in order -/
def lexT (r q : Tri) : Prop := r.1 < q.1 ∨ (r.1 = q.1 ∧ r.2.1 < q.2.1)
theorem ve_len {A B : List Pr} {M : List Tri} (h : VE A B M) : M.length ≤ A.length * B.length := by
  have nd : (M.map fun r => (r.1, r.2.1)).Nodup := by
    show List.Pairwise _ _
    rw [List.pairwise_map]
    refine h.srt.imp fun {a b} hab e => ?_
    injection e with e1 e2
    rcases hab with z | z <;> omega
  have := length_le_of_nodup nd (m := (keys A).flatMap fun a => (keys B).map fun b => (a, b)) fun p hp => by
    obtain ⟨r, hr, rfl⟩ := List.mem_map.mp hp
    obtain ⟨_, _, h1, h2⟩ := h.row r hr
    exact List.mem_flatMap.mpr ⟨r.1, h1, List.mem_map.mpr ⟨r.2.1, h2, rfl⟩⟩
  rw [List.length_map] at this
  refine Nat.le_trans this ?_
  have : ∀ l : List Int, (l.flatMap fun a => (keys B).map fun b => (a, b)).length = l.length * B.length := by
    intro l
    induction l with
    | nil => simp
    | cons a l ih => rw [List.flatMap_cons, List.length_append, ih, List.length_cons, Nat.add_mul]; simp [keys]; omega
  rw [this]
  simp [keys]
/-- the bound of the numbers of rows -/
def BB : Int := 10 ^ 31
theorem ve_bnd {L N : List Pr} {M : List Tri} (hL : Sh0 L) (hN : Sh0 N) (h : VE (srt L) (srt N) M) : ∀ r ∈ M, (0 ≤ r.1 ∧ r.1 < BB) ∧ (0 ≤ r.2.1 ∧ r.2.1 < BB) ∧ (1 ≤ r.2.2 ∧ r.2.2 < BB) := by
  intro r hr
  obtain ⟨hl, h1, h2, h3⟩ := h.row r hr
  have b1 : ∀ {T : List Pr}, Sh0 T → ∀ s ∈ keys (srt T), 0 ≤ s ∧ s < BB := fun {T} hT s hs => by
    obtain ⟨p, hp, e⟩ := List.mem_map.mp hs
    have e : p.1 = s := e
    have := sizes_ok s (e ▸ hT.sz p (mem_srt.mp hp))
    unfold BB
    omega
  refine ⟨b1 hL _ h2, b1 hN _ h3, h1, ?_⟩
  obtain ⟨p, hp, e⟩ := List.mem_map.mp h3
  have e : p.1 = r.2.1 := e
  have hg := h.given p hp
  have hp2 := (hN.pos p (mem_srt.mp hp)).2
  have pos : ∀ q ∈ M, 0 ≤ (if q.2.1 = p.1 then q.2.2 else 0) := fun q hq => by
    have := (h.row q hq).2.1
    split <;> omega
  have := tot_ge pos hr
  rw [if_pos e.symm, hg] at this
  unfold BB
  omega
/-- pairs in order -/
theorem prs_unique {L M : List Pr} (hn : (keys L).Nodup) (hp : M.Perm L) (hs : M.Pairwise fun a b => a.1 * BB + a.2 ≤ b.1 * BB + b.2) (hb : ∀ p ∈ L, 0 ≤ p.2 ∧ p.2 < BB) : M = srt L := by
  refine srt_unique hn hp (hs.imp_of_mem fun {a b} ha hb' h => ?_)
  have h1 := hb a (hp.mem_iff.mp ha)
  have h2 := hb b (hp.mem_iff.mp hb')
  by_cases c : a.1 ≤ b.1
  · exact c
  · exfalso
    have : (b.1 + 1) * BB ≤ a.1 * BB := Int.mul_le_mul_of_nonneg_right (by omega) (by unfold BB; omega)
    rw [Int.add_mul] at this
    omega
def cod (r : Tri) : Int := (r.1 * BB + r.2.1) * BB + r.2.2
theorem cod_lt {r q : Tri} (h : lexT r q) (h1 : 0 ≤ r.2.1 ∧ r.2.1 < BB) (h2 : 0 ≤ q.2.1 ∧ q.2.1 < BB) (h3 : 0 ≤ r.2.2 ∧ r.2.2 < BB) (h4 : 0 ≤ q.2.2 ∧ q.2.2 < BB) : cod r < cod q := by
  unfold cod
  have hB : 0 ≤ BB := by unfold BB; omega
  have e : r.1 * BB + r.2.1 + 1 ≤ q.1 * BB + q.2.1 := by
    rcases h with h | ⟨h, h'⟩
    · have : (r.1 + 1) * BB ≤ q.1 * BB := Int.mul_le_mul_of_nonneg_right (by omega) hB
      rw [Int.add_mul] at this
      omega
    · rw [h]; omega
  have : (r.1 * BB + r.2.1 + 1) * BB ≤ (q.1 * BB + q.2.1) * BB := Int.mul_le_mul_of_nonneg_right e hB
  rw [Int.add_mul] at this
  omega
/-- rows in order, sorted again, are what they were -/
theorem rows_unique {M L : List Tri} (hs : L.Pairwise lexT) (hb : ∀ r ∈ L, (0 ≤ r.2.1 ∧ r.2.1 < BB) ∧ (0 ≤ r.2.2 ∧ r.2.2 < BB)) (hp : M.Perm L) (hc : M.Pairwise fun r q => cod r ≤ cod q) : M = L := by
  have hs2 : L.Pairwise fun r q => cod r < cod q := hs.imp_of_mem fun {r q} hr hq h => cod_lt h (hb r hr).1 (hb q hq).1 (hb r hr).2 (hb q hq).2
  have inj : ∀ {l : List Tri}, l.Pairwise (fun r q => cod r < cod q) → ∀ {r q : Tri}, r ∈ l → q ∈ l → cod r = cod q → r = q := by
    intro l
    induction l with
    | nil => intro _ r q hr; cases hr
    | cons a l ih =>
      intro hl r q hr hq e
      rw [List.pairwise_cons] at hl
      rcases List.mem_cons.mp hr with e1 | hr
      · rcases List.mem_cons.mp hq with e2 | hq
        · rw [e1, e2]
        · have := hl.1 q hq
          rw [e1] at e; omega
      · rcases List.mem_cons.mp hq with e2 | hq
        · have := hl.1 r hr
          rw [e2] at e; omega
        · exact ih hl.2 hr hq e
  exact List.Perm.eq_of_pairwise (le := fun r q : Tri => cod r ≤ cod q) (fun a b ha hb h1 h2 => inj hs2 (hp.mem_iff.mp ha) hb (Int.le_antisymm h1 h2)) hc (hs2.imp fun h => Int.le_of_lt h) hp
end K64
set_option Elab.async false
set_option maxRecDepth 100000
set_option maxHeartbeats 4000000
/-! Lists of tuples sorted; dicts that tally; a dict walked under its lock. -/
namespace K64W
open PySem L2 K64

/-! ### sorted of tuples -/
theorem perm_map {α β : Type} {f : α → β} {ys zs : List β} (h : ys.Perm zs) : ∀ ks : List α, zs = ks.map f → ∃ ks' : List α, ks'.Perm ks ∧ ys = ks'.map f := by
  induction h with
  | nil =>
    intro ks e
    exact ⟨[], by rw [List.map_eq_nil_iff.mp e.symm], rfl⟩
  | @cons a l1 l2 _ ih =>
    intro ks e
    cases ks with
    | nil => cases e
    | cons k ks =>
      rw [List.map_cons] at e
      injection e with e1 e2
      obtain ⟨ks', hp, e3⟩ := ih ks e2
      exact ⟨k :: ks', hp.cons k, by rw [List.map_cons, e1, e3]⟩
  | swap a b l =>
    intro ks e
    match ks, e with
    | k1 :: k2 :: ks, e =>
      rw [List.map_cons, List.map_cons] at e
      injection e with e1 e2
      injection e2 with e2 e3
      exact ⟨k2 :: k1 :: ks, .swap _ _ _, by rw [List.map_cons, List.map_cons, e1, e2, e3]⟩
  | trans _ _ h1 h2 =>
    intro ks e
    obtain ⟨k1, p1, e1⟩ := h2 ks e
    obtain ⟨k2, p2, e2⟩ := h1 k1 e1
    exact ⟨k2, p2.trans p1, e2⟩
theorem sortU_of {K : PySem.W.Frag} {α : Type} {enc : α → List V} (toI : α → List Int) (he : ∀ a, enc a = (toI a).map V.int) {d : Nat} {B : Int} {H : Hp} {a : Addr} {L : List α} (h : Rows H a enc L) (hlen : L.length < 64) (hb : ∀ x ∈ L, (toI x).length = d ∧ TS.Bd B (toI x)) {Q : VK}
    (k : ∀ (L' : List α) (H' : Hp) (p : Addr), L'.Perm L → L'.Pairwise (fun x y => TS.code B (toI x) ≤ TS.code B (toI y)) → Same H H' → Rows H' p enc L' → Q (.ref p) H') : rSortU K d B [V.ref a] H Q := by
  obtain ⟨ks, h1, h2, h3⟩ := h
  have tup : ∀ p ∈ ks, TupI K H (V.ref p.1) (toI p.2) := fun p hp => ⟨p.1, rfl, SqT.of (by rw [← he]; exact h2 p hp)⟩
  have memL : ∀ p ∈ ks, p.2 ∈ L := fun p hp => by rw [← h3]; exact List.mem_map_of_mem hp
  refine ⟨a, _, rfl, SqL.of h1, by rw [List.length_map, ks_len h3]; exact hlen, fun x hx => ?_, fun ys p hp hs hn => ?_⟩
  · obtain ⟨q, hq, rfl⟩ := List.mem_map.mp hx
    exact ⟨_, tup q hq, (hb _ (memL q hq)).1, (hb _ (memL q hq)).2⟩
  · obtain ⟨ks', hp', e⟩ := perm_map hp ks rfl
    subst e
    refine k (ks'.map (·.2)) _ p ?_ ?_ (same_new hn) ⟨ks', upd_same, fun q hq => (same_new hn) _ _ (h2 q (hp'.mem_iff.mp hq)), rfl⟩
    · rw [← h3]; exact hp'.map _
    · rw [List.pairwise_map] at hs ⊢
      exact hs.imp_of_mem fun {x y} hx hy h => h _ _ (tup x (hp'.mem_iff.mp hx)) (tup y (hp'.mem_iff.mp hy))
theorem code3 (B a b c : Int) : TS.code B [a, b, c] = (a * B + b) * B + c := by
  simp [TS.code, Int.pow_succ, Int.add_mul, Int.mul_assoc]
  omega
theorem code2 (B a b : Int) : TS.code B [a, b] = a * B + b := by simp [TS.code, Int.pow_succ]

/-! ### dicts that tally -/
theorem kvs_any (T : List Pr) (s : Int) : ((kvs T).any fun kv => decide (kv.1 = (Sum.inl s : Key))) = decide (s ∈ keys T) := by
  rw [valV_any]
  by_cases h : s ∈ keys T
  · rw [decide_eq_true h]
    have : (kvs T).any (fun kv => decide (kv.1 = (Sum.inl s : Key))) = true := by
      obtain ⟨p, hp, e⟩ := List.mem_map.mp h
      have e : p.1 = s := e
      exact List.any_eq_true.mpr ⟨(Sum.inl p.1, V.int p.2), List.mem_map.mpr ⟨p, hp, rfl⟩, by simp [e]⟩
    rw [← valV_any]; exact this
  · rw [kvs_no h, decide_eq_false h]
    rfl
theorem kvs_put (T : List Pr) (s x : Int) : putK (kvs T) (Sum.inl s) (V.int x) = kvs (putP T s x) := by
  unfold putK putP
  rw [kvs_any]
  by_cases h : s ∈ keys T
  · rw [if_pos (decide_eq_true h), if_pos h]
    unfold kvs
    rw [List.map_map, List.map_map]
    refine List.map_congr_left fun p _ => ?_
    show (if (Sum.inl p.1 : Key) = Sum.inl s then (Sum.inl p.1, V.int x) else (Sum.inl p.1, V.int p.2)) = (Sum.inl (if p.1 = s then (p.1, x) else p).1, V.int (if p.1 = s then (p.1, x) else p).2)
    by_cases e : p.1 = s
    · rw [if_pos (by rw [e]), if_pos e]
    · rw [if_neg (fun z => e (Sum.inl.inj z)), if_neg e]
  · rw [if_neg (by simpa using h), if_neg h]
    unfold kvs
    rw [List.map_append]
    rfl
theorem kvs_getD {T : List Pr} (hn : (keys T).Nodup) (s : Int) : (valV (kvs T) (Sum.inl s)).getD (.int 0) = V.int (cnt T s) := by
  by_cases h : s ∈ keys T
  · rw [kvs_cnt hn h]; rfl
  · rw [kvs_no h, cnt_none h]; rfl
section
variable {X : Cx}
/-- d.get(k, x): its form -/
theorem m2 {o e f : Expr} {m : Str} {apos cpos : Pos} (h1 : attributeBase o m X.env (eval o X.env) = eval o X.env := by rfl)
    (h2 : ((((backTo cpos (starEach [e, f] X.env)).all fun x => !x.1) && (backToKw cpos (keywordEach [] X.env)).all fun x => x.1.isSome) && decide (([e, f].length + ([] : List Keyword).length + if ([] : List Keyword).isEmpty = true then 0 else 1) < 30)) = true := by rfl)
    (h3 : (apos.endLine == cpos.line) = true := by rfl) (h4 : backTo cpos (starEach [e, f] X.env) = [(false, eval e X.env), (false, eval f X.env)] := by rfl) : M2 X o m apos e f cpos := ⟨h1, h2, h3, h4⟩
end

theorem inV_yes {n : Int} {ns : List Int} (h : n ∈ ns) : inV (V.int n) (ns.map V.int) = true := by
  unfold inV
  rw [List.any_eq_true]
  exact ⟨V.int n, List.mem_map_of_mem h, by simp [eqV]⟩
theorem inV_no {n : Int} {ns : List Int} (h : n ∉ ns) : inV (V.int n) (ns.map V.int) = false := by
  unfold inV
  rw [List.any_eq_false]
  intro v hv
  obtain ⟨m, hm, rfl⟩ := List.mem_map.mp hv
  have : ¬ m = n := fun e => h (e ▸ hm)
  have : ¬ n = m := fun e => h (e.symm ▸ hm)
  simp_all [eqV]
theorem flat_ints (ns : List Int) : (ns.map V.int).all flatV = true := by
  rw [List.all_eq_true]
  intro v hv
  obtain ⟨z, _, rfl⟩ := List.mem_map.mp hv
  rfl
theorem asc_unique {l m : List Int} (hl : l.Pairwise (· < ·)) (hm : m.Pairwise (· < ·)) (h : ∀ k, k ∈ l ↔ k ∈ m) : l = m :=
  List.Perm.eq_of_pairwise (le := fun a b : Int => a ≤ b) (fun _ _ _ _ h1 h2 => Int.le_antisymm h1 h2) (hl.imp fun h => Int.le_of_lt h) (hm.imp fun h => Int.le_of_lt h)
    (perm_of_mem (hl.imp fun h => by omega) (hm.imp fun h => by omega) h)

theorem dictPK {X : Cx} (K : PySem.W.Frag) (hc : X.calm = true := by rfl) (hK : X.K = K := by rfl) : CallR X (.type "dict") (fun xs H Q => ∃ a ps kvs, xs = [V.ref a] ∧ SqL K H a (List.map V.ref ps) ∧ Paired (fun p (kv : Key × V) => SqT K H p [kV kv.1, kv.2]) ps kvs ∧ ∀ p, H p = none → Q (.ref p) (upd H p (.dK (mergeK [] kvs)))) := hK ▸ call_dictP hc

/-! ### the lock -/
theorem lock_x {H : Hp} {d : Addr} {o : HO} : SameX d H (upd H d o) := fun b u n e => by rw [upd_ne n]; exact e
theorem lock_back {H H' : Hp} {d : Addr} {o u : HO} (h : H d = some u) (s : Same (upd H d o) H') : Same H (upd H' d u) := fun b v e => by
  by_cases hb : b = d
  · subst hb
    rw [h] at e; cases e
    exact upd_same
  · rw [upd_ne hb]
    exact s _ _ (by rw [upd_ne hb]; exact e)
theorem lock_in {H H' : Hp} {d b : Addr} {o u v : HO} (h : H d = some u) (s : Same (upd H d o) H') (hb : H b = some v) (ne : v ≠ u) : H' b = some v := s _ _ (by rw [upd_ne (ne_of hb h ne)]; exact hb)
end K64W
set_option Elab.async false
set_option maxRecDepth 100000
set_option maxHeartbeats 4000000
/-! Blocked and Embedding. -/
namespace K64W
open PySem L2 K64
section
variable {P : Program} {w : World} {K : PySem.W.Frag} {mg : Str → Option Value} {base : Heap} {D : Ad}

/-! ### Blocked -/
abbrev bf (kd : Str) (t : Addr) : List (Str × V) := [("own_kind", V.str kd), ("own_sizes", V.ref t)]
def IsBl (D : Ad) (H : Hp) (p : Addr) (kd : Str) (S : List Int) : Prop := ∃ dx t, H p = some (.ins D.cBl dx (bf kd t)) ∧ H t = some (.tup (S.map V.int))
theorem IsBl.same {H H' : Hp} {p : Addr} {kd : Str} {S : List Int} (h : IsBl D H p kd S) (s : Same H H') : IsBl D H' p kd S := by
  obtain ⟨dx, t, h1, h2⟩ := h
  exact ⟨dx, t, s _ _ h1, s _ _ h2⟩
def spBlInit (D : Ad) : Sp := fun vs H Q _ => ∃ (p t dx : Addr) (kd : Str) (S : List Int), vs = [.ref p, .str kd, .ref t] ∧ H p = some (.ins D.cBl dx []) ∧ H t = some (.tup (S.map V.int)) ∧ ∀ H', SameX p H H' → IsBl D H' p kd S → Q .non H'
theorem sc_blInit : FnScope ["self", "kind", "sizes"] ["self", "kind", "sizes"] (defScope s_blInit) := ⟨rfl, rfl, rfl, by decide +kernel, rfl, by decide +kernel, by decide +kernel⟩
theorem ok_blInit (T : Txt K mg D) : FnOk P w K mg base CX0 1 D.f_blInit D.d_blInit ["self", "kind", "sizes"] (spBlInit D) := by
  refine T.F_blInit.ok sc_blInit (fun vs H Q E h => ?_) (fun cdv A outer s H vs Q E hr h => ?_)
  · obtain ⟨p, t, dx, kd, S, rfl, _⟩ := h
    rfl
  · obtain ⟨p, t, dx, kd, S, rfl, hp, ht, k⟩ := h
    have npt : t ≠ p := ne_of ht hp (by intro z; cases z)
    refine ⟨_, pss_cons (ps_fld (pv 0) (pv 1) rfl) (pss_one (ps_fld (pv 0) (pe_callTy call_tuple_of (by rfl) T.b_tuple (by decide +kernel) (pa_cons (pv 2) pa_nil)) rfl)), ?_⟩
    refine ⟨_, rfl, _, rfl, p, D.cBl, dx, [], rfl, hp, T.cBl, T.n_own_kind, by show 0 < 1000; decide, ?_⟩
    have ht' : (upd H p (.ins D.cBl dx (putF "own_kind" (.str kd) []))) t = some (.tup (S.map V.int)) := by rw [upd_ne npt]; exact ht
    refine ⟨_, rfl, t, _, rfl, .inr ⟨SqT.of ht', _, rfl, p, D.cBl, dx, _, rfl, upd_same, T.cBl, T.n_own_sizes, by show 1 < 1000; decide, ?_⟩⟩
    refine k _ ((lock_x (H := H)).upd) ⟨dx, t, by rw [upd_same]; rfl, by rw [upd_ne npt]; exact ht'⟩
def spBlKind (D : Ad) : Sp := fun vs H Q _ => ∃ (p : Addr) (kd : Str) (S : List Int), vs = [.ref p] ∧ IsBl D H p kd S ∧ Q (.str kd) H
theorem sc_blKind : FnScope ["self"] ["self"] (defScope s_blKind) := ⟨rfl, rfl, rfl, by decide +kernel, rfl, by decide +kernel, by decide +kernel⟩
theorem ok_blKind (T : Txt K mg D) : FnOk P w K mg base CX0 1 D.f_blKind D.d_blKind ["self"] (spBlKind D) := by
  refine T.F_blKind.ok sc_blKind (fun vs H Q E h => ?_) (fun cdv A outer s H vs Q E hr h => ?_)
  · obtain ⟨p, kd, S, rfl, _⟩ := h
    rfl
  · obtain ⟨p, kd, S, rfl, ⟨dx, t, hp, ht⟩, k⟩ := h
    exact ⟨_, pss_one (ps_ret (pe_fld (pv 0) rfl)), _, rfl, p, D.cBl, dx, _, _, rfl, hp, T.cBl, T.n_own_kind, rfl, k⟩
def spBlSizes (D : Ad) : Sp := fun vs H Q _ => ∃ (p : Addr) (kd : Str) (S : List Int), vs = [.ref p] ∧ IsBl D H p kd S ∧ ∀ t, H t = some (.tup (S.map V.int)) → Q (.ref t) H
theorem sc_blSizes : FnScope ["self"] ["self"] (defScope s_blSizes) := ⟨rfl, rfl, rfl, by decide +kernel, rfl, by decide +kernel, by decide +kernel⟩
theorem ok_blSizes (T : Txt K mg D) : FnOk P w K mg base CX0 1 D.f_blSizes D.d_blSizes ["self"] (spBlSizes D) := by
  refine T.F_blSizes.ok sc_blSizes (fun vs H Q E h => ?_) (fun cdv A outer s H vs Q E hr h => ?_)
  · obtain ⟨p, kd, S, rfl, _⟩ := h
    rfl
  · obtain ⟨p, kd, S, rfl, ⟨dx, t, hp, ht⟩, k⟩ := h
    exact ⟨_, pss_one (ps_ret (pe_fld (pv 0) rfl)), _, rfl, p, D.cBl, dx, _, _, rfl, hp, T.cBl, T.n_own_sizes, rfl, k t ht⟩
def spConst (b : Bool) : Sp := fun vs H Q _ => ∃ v : V, vs = [v] ∧ Q (.bl b) H
theorem sc_blBool : FnScope ["self"] ["self"] (defScope s_blBool) := ⟨rfl, rfl, rfl, by decide +kernel, rfl, by decide +kernel, by decide +kernel⟩
theorem ok_blBool (T : Txt K mg D) : FnOk P w K mg base CX0 1 D.f_blBool D.d_blBool ["self"] (spConst false) := by
  refine T.F_blBool.ok sc_blBool (fun vs H Q E h => ?_) (fun cdv A outer s H vs Q E hr h => ?_)
  · obtain ⟨v, rfl, _⟩ := h
    rfl
  · obtain ⟨v, rfl, k⟩ := h
    exact ⟨_, pss_one (ps_ret pe_bl), k⟩
theorem sc_emBool : FnScope ["self"] ["self"] (defScope s_emBool) := ⟨rfl, rfl, rfl, by decide +kernel, rfl, by decide +kernel, by decide +kernel⟩
theorem ok_emBool (T : Txt K mg D) : FnOk P w K mg base CX0 1 D.f_emBool D.d_emBool ["self"] (spConst true) := by
  refine T.F_emBool.ok sc_emBool (fun vs H Q E h => ?_) (fun cdv A outer s H vs Q E hr h => ?_)
  · obtain ⟨v, rfl, _⟩ := h
    rfl
  · obtain ⟨v, rfl, k⟩ := h
    exact ⟨_, pss_one (ps_ret pe_bl), k⟩

/-- what a Blocked says of two shapes -/
def BlOk (L M : List Pr) (kd : Str) (S : List Int) : Prop :=
  (kd = "none" ∧ ∃ g, S = [g] ∧ g ∈ keys M ∧ ∀ s ∈ keys L, lies s g = false) ∨ (kd = "few" ∧ (∀ s ∈ S, s ∈ keys L) ∧ S.Pairwise (· < ·) ∧ room S M < need S L)
def spBlHolds (D : Ad) : Sp := fun vs H Q _ => ∃ (p a b : Addr) (kd : Str) (S : List Int) (L M : List Pr), vs = [.ref p, .ref a, .ref b] ∧ IsBl D H p kd S ∧ IsSh D H a L ∧ IsSh D H b M ∧ Sh0 L ∧ Sh0 M ∧ BlOk L M kd S ∧ ∀ H', Same H H' → Q (.bl true) H'
abbrev nBlHolds : List Str := ["self", "one", "other", "smalls", "size", "count"]
theorem sc_blHolds : FnScope nBlHolds ["self", "one", "other"] (defScope s_blHolds) := ⟨rfl, rfl, rfl, by decide +kernel, rfl, by decide +kernel, by decide +kernel⟩
theorem ok_blHolds (T : Txt K mg D) : FnOk P w K mg base CX0 5 D.f_blHolds D.d_blHolds ["self", "one", "other"] (spBlHolds D) := by
  refine T.F_blHolds.ok sc_blHolds (fun vs H Q E h => ?_) (fun cdv A outer s H vs Q E hr h => ?_)
  · obtain ⟨p, a, b, kd, S, L, M, rfl, _⟩ := h
    rfl
  · obtain ⟨p, a, b, kd, S, L, M, rfl, hp, ha, hb, hL, hM, hok, k⟩ := h
    have hu := hu_of hr
    have hu64 := hr.units
    have hr1 : Room 1 _ := hr.mono (by decide)
    have hr3 : Room 3 _ := hr.mono (by decide)
    refine ⟨_, pss_cons (ps_set (i := 3) sc_blHolds.nd rfl (Or.inr rfl) (pe_lc (own := [("size", 4), ("count", 5)]) (g := gTup K 2 (gCons (gName 4) (gCons (gName 5) gNil))) (by rfl) sc_blHolds.nd
        (pi_list (pe_meth0 (pv 1) T.cSh T.M_shCounts (ok_shCounts T) hr1 (b_shCounts T) .nil pass0))
        (blkOk_by (N := nBlHolds) (sc := defScope s_blHolds) (own := [("size", 4), ("count", 5)]) (by decide +kernel))
        (fun _ _ _ _ _ => by exact tupK K rfl (pgs_cons (pg_name (i := 4) sc_blHolds.nd rfl (Or.inl rfl)) (pgs_cons (pg_name (i := 5) sc_blHolds.nd rfl (Or.inl rfl)) pgs_nil)))
        (fun _ _ _ _ _ => pts_nil) (fun _ _ _ _ _ => pv 4)))
      (pss_cons (ps_if (pt_cmpR op_eq (pe_fld (pv 0) rfl) pe_str (nomark _))
        (pss_cons (ps_if (PW.pt (pw_or (pt_cmpR op_ne (pe_callB call_len_seq (by rfl) T.b_len (by decide +kernel) (pa_cons (pe_fld (pv 0) rfl) pa_nil)) pe_int (nomark _))
            (pw_or1 (pt_cmpR op_eq (pe_meth (pv 2) T.cSh T.M_shCount (ok_shCount T) hr3 (b_shCount T) .nil pass0 (pa_cons (pe_ix ix_tup (pe_fld (pv 0) rfl) pe_int (fun _ _ => rfl)) pa_nil)) pe_int (nomark _))))) (pss_one (ps_ret pe_bl)) pss_nil)
          (pss_one (ps_ret (pe_not (pe_callB (cr_any rfl) (by rfl) T.b_any (by decide +kernel) (pa_cons (pe_lc (own := [("size", 4)]) (g := gName 4) (by rfl) sc_blHolds.nd (pi_list (pv 3))
            (blkOk_by (N := nBlHolds) (sc := defScope s_blHolds) (own := [("size", 4)]) (by decide +kernel))
            (fun _ _ _ _ _ => pg_name (i := 4) sc_blHolds.nd rfl (Or.inl rfl)) (fun _ _ _ _ _ => pts_nil)
            (fun _ _ _ _ _ => by exact pe_call (ok_liesIn T) hr3 (by rfl) T.g_liesIn T.F_liesIn.kp (b_liesIn T) .nil pass0 (pa_cons (pv 4) (pa_cons (ixtK K (fldK K (pv 0)) pe_int) pa_nil)))) pa_nil)))))) pss_nil)
      (pss_cons (ps_if (PW.pt (pw_or (pt_cmpR op_ne (pe_fld (pv 0) rfl) pe_str (nomark _)) (pw_or1 (pt_not (pt_val (pe_callB (cr_all rfl) (by rfl) T.b_all (by decide +kernel) (pa_cons (pe_lc (own := [("size", 4)]) (g := gName 4) (by rfl) sc_blHolds.nd (pi_tup (pe_fld (pv 0) rfl))
            (blkOk_by (N := nBlHolds) (sc := defScope s_blHolds) (own := [("size", 4)]) (by decide +kernel))
            (fun _ _ _ _ _ => pg_name (i := 4) sc_blHolds.nd rfl (Or.inl rfl)) (fun _ _ _ _ _ => pts_nil)
            (fun _ _ _ _ _ => by exact pe_cmpR (inK K) (pv 4) (pv 3) (by rfl))) pa_nil))))))) (pss_one (ps_ret pe_bl)) pss_nil)
      (pss_cons (ps_if (pt_cmpR (op_neD hu64) (pe_callTy call_list_of (by rfl) T.b_list (by decide +kernel) (pa_cons (pe_fld (pv 0) rfl) pa_nil))
            (pe_callB (cr_sortedSet rfl) (by rfl) T.b_sorted (by decide +kernel) (pa_cons (pe_callTy (K64R.cr_setOfI rfl) (by rfl) T.b_set (by decide +kernel) (pa_cons (pe_callTy call_list_of (by rfl) T.b_list (by decide +kernel) (pa_cons (pe_fld (pv 0) rfl) pa_nil)) pa_nil)) pa_nil)) (nomark _))
          (pss_one (ps_ret pe_bl)) pss_nil)
      (pss_one (ps_ret (pe_cmpR op_gt (pe_callB (cr_sum rfl) (by rfl) T.b_sum (by decide +kernel) (pa_cons (pe_lc (own := [("size", 4)]) (g := gName 4) (by rfl) sc_blHolds.nd (pi_tup (pe_fld (pv 0) rfl))
            (blkOk_by (N := nBlHolds) (sc := defScope s_blHolds) (own := [("size", 4)]) (by decide +kernel))
            (fun _ _ _ _ _ => pg_name (i := 4) sc_blHolds.nd rfl (Or.inl rfl)) (fun _ _ _ _ _ => pts_nil)
            (fun _ _ _ _ _ => by exact pe_meth (pv 1) T.cSh T.M_shCount (ok_shCount T) hr3 (b_shCount T) .nil pass0 (pa_cons (pv 4) pa_nil))) pa_nil))
          (pe_call (ok_roomFor T) hr (by rfl) T.g_roomFor T.F_roomFor.kp (b_roomFor T) .nil pass0 (pa_cons (pe_fld (pv 0) rfl) (pa_cons (pv 2) pa_nil))) (nomark _))))))), ?_⟩
    obtain ⟨dxa, da, ha1, ha2⟩ := id ha
    refine ⟨_, rfl, a, dxa, _, rfl, ha1, rfl, a, L, rfl, ha, hL, fun H1 l s1 ⟨ks, hl, hks, hks2⟩ => ?_⟩
    have hlen := hL.len
    refine ⟨l, rfl, ⟨_, SqL.of hl⟩, fun Dd hDd => ?_⟩
    refine lc_pure (walk_list (xs := ks.map fun p => V.ref p.1)) (srt L) (fun _ => true) V.int (fun q => q.1) (by rw [List.length_map, ks_len hks2]) (by rw [srt_len]; omega) hDd (fun H' s' => SqL.of (s' _ _ hl))
      (fun i x q H2 H2' hq s2 y => ?_) (fun H2 s2 h2 => ?_)
    · obtain ⟨rfl, r, hr', rfl, rfl⟩ := src_rows hks2 hq y
      exact ⟨Same.refl _, turn_pair (SqT.of (s2 _ _ (hks r hr'))) rfl yes_of fun _ H3 s3 Q' hQ => ⟨_, rfl, hQ _ _ (Same.refl _) rfl⟩⟩
    rw [filter_yes] at h2
    have s12 := s1.trans s2
    have hp2 := hp.same s12
    obtain ⟨dx, t, hp3, ht3⟩ := hp2
    have memS : ∀ {n : Int}, n ∈ keys (srt L) → n ∈ keys L := fun h => mem_keys_srt.mp h
    have szL : ∀ n ∈ keys L, n ∈ SIZES := fun n hn => by
      obtain ⟨q, hq, e⟩ := List.mem_map.mp hn
      rw [← show q.1 = n from e]; exact hL.sz _ hq
    have h2 : H2 Dd = some (.lst ((keys (srt L)).map V.int)) := h2
    refine ⟨_, rfl, p, D.cBl, dx, _, _, rfl, hp3, T.cBl, T.n_own_kind, rfl, rfl, _, rfl, ?_⟩
    rcases hok with ⟨rfl, g, rfl, hg, hno⟩ | ⟨rfl, hin, hasc, hlt⟩
    · -- none
      have szg : g ∈ SIZES := by
        obtain ⟨q, hq, e⟩ := List.mem_map.mp hg
        rw [← show q.1 = g from e]; exact hM.sz _ hq
      obtain ⟨dxb, db, hb1, hb2⟩ := hb.same s12
      refine iteT ⟨_, rfl, p, D.cBl, dx, _, _, rfl, hp3, T.cBl, T.n_own_sizes, rfl, t, _, rfl, .inr (SqT.of ht3), rfl, _, rfl, iteF ?_⟩
      refine ⟨_, rfl, b, dxb, _, rfl, hb1, rfl, _, rfl, p, D.cBl, dx, _, _, rfl, hp3, T.cBl, T.n_own_sizes, rfl, t, _, 0, _, rfl, rfl, SqT.of ht3, atI_nat (j := 0) rfl, ?_⟩
      refine ⟨b, g, M, rfl, ⟨dxb, db, hb1, hb2⟩, hM.nd, szg, rfl, _, rfl, ?_⟩
      have hc : ¬ cnt M g = 0 := by
        obtain ⟨q, hq, e⟩ := List.mem_map.mp hg
        rw [← show q.1 = g from e, cnt_of hM.nd hq]
        have := (hM.pos q hq).1
        omega
      rw [decide_eq_false (fun z => hc (V.int.inj z))]
      refine iteF ⟨_, rfl, Dd, rfl, ⟨_, SqL.of h2⟩, fun De hDe => ?_⟩
      refine lc_pure (walk_list (xs := (keys (srt L)).map V.int)) (keys (srt L)) (fun _ => true) V.bl (fun s => lies s g) (List.length_map ..) (by simp [keys, srt_len]; omega) hDe (fun H' s' => SqL.of (s' _ _ h2))
        (fun i x n H3 H3' hn s3 y => ?_) (fun H3 s3 h3 => ?_)
      · obtain ⟨rfl, rfl⟩ := src_list hn y
        refine ⟨Same.refl _, turn_name rfl yes_of fun _ H4 s4 Q' hQ => ?_⟩
        exact ⟨_, rfl, _, rfl, p, D.cBl, dx, _, _, rfl, s4 _ _ (s3 _ _ hp3), T.cBl, T.n_own_sizes, rfl, t, _, 0, _, rfl, rfl, SqT.of (s4 _ _ (s3 _ _ ht3)), atI_nat (j := 0) rfl,
          n, g, rfl, szL n (memS (List.mem_of_getElem? hn)), szg, fun H5 s5 => hQ _ _ s5 rfl⟩
      · refine ⟨De, _, rfl, SqL.of h3, _, rfl, ?_⟩
        rw [any_map, filter_yes]
        have : ((keys (srt L)).any fun s => lies s g) = false := by
          rw [List.any_eq_false]
          intro n hn
          rw [hno n (memS hn)]
          simp
        rw [this]
        exact k _ (s12.trans s3)
    · -- few
      have szS : ∀ n ∈ S, n ∈ SIZES := fun n hn => szL n (hin n hn)
      have ndS : S.Nodup := hasc.imp fun h => by omega
      have lenS : S.length ≤ 27 := by
        have := length_le_of_nodup ndS hin
        have e : (keys L).length = L.length := List.length_map ..
        omega
      refine iteF ⟨_, rfl, p, D.cBl, dx, _, _, rfl, hp3, T.cBl, T.n_own_kind, rfl, rfl, _, rfl, iteF ?_⟩
      refine ⟨_, rfl, p, D.cBl, dx, _, _, rfl, hp3, T.cBl, T.n_own_sizes, rfl, t, rfl, ⟨_, SqT.of ht3⟩, fun De hDe => ?_⟩
      refine lc_pure (walk_tup (xs := S.map V.int)) S (fun _ => true) V.bl (fun _ => true) (List.length_map ..) (by omega) hDe (fun H' s' => SqT.of (s' _ _ ht3)) (fun i x n H3 H3' hn s3 y => ?_) (fun H3 s3 h3 => ?_)
      · obtain ⟨rfl, rfl⟩ := src_list hn y
        refine ⟨Same.refl _, turn_name rfl yes_of fun _ H4 s4 Q' hQ => ?_⟩
        exact ⟨_, rfl, _, rfl, Dd, _, rfl, .inl (SqL.of (s4 _ _ (s3 _ _ h2))), rfl, flat_ints _, hQ _ _ (Same.refl _) (congrArg V.bl (inV_yes (mem_keys_srt.mpr (hin n (List.mem_of_getElem? hn)))))⟩
      · refine ⟨De, _, rfl, SqL.of h3, ?_⟩
        rw [all_true (fun _ _ => rfl)]
        have hp5 := s3 _ _ hp3
        have ht5 := s3 _ _ ht3
        refine ⟨true, rfl, iteF ⟨_, rfl, p, D.cBl, dx, _, _, rfl, hp5, T.cBl, T.n_own_sizes, rfl, t, _, rfl, .inr (SqT.of ht5), fun l4 hl4 => ?_⟩⟩
        have s4 := same_new (o := .lst (S.map V.int)) hl4
        refine ⟨_, rfl, p, D.cBl, dx, _, _, rfl, s4 _ _ hp5, T.cBl, T.n_own_sizes, rfl, t, _, rfl, .inr (SqT.of (s4 _ _ ht5)), fun l5 hl5 => ?_⟩
        have s5 := s4.new (o := .lst (S.map V.int)) hl5
        refine ⟨l5, S, rfl, SqL.of upd_same, by omega, fun a6 c ha6 hc6 => ?_⟩
        have s6 := s5.new (o := SetO w a6 (fun j => decide (j ∈ S)) c) ha6
        refine ⟨a6, _, c, rfl, upd_same, by omega, fun ns l7 hns hmem _ hl7 => ?_⟩
        have s7 := s6.new (o := .lst (ns.map V.int)) hl7
        have ens : ns = S := asc_unique hns hasc fun k => by rw [hmem k]; simp
        subst ens
        have hl4' := (((same_new (o := .lst (ns.map V.int)) hl5).new (o := SetO w a6 (fun j => decide (j ∈ ns)) c) ha6).new (o := .lst (ns.map V.int)) hl7) _ _ (upd_same (H := H3) (a := l4) (o := .lst (ns.map V.int)))
        refine ⟨_, _, dpL (SqL.of hl4'), dpL (SqL.of upd_same), sh_ints _, sh_ints _, _, rfl, ?_⟩
        rw [eqv_same (sh_ints ns)]
        have hp8 := s7 _ _ hp5
        have ht8 := s7 _ _ ht5
        have sA := (s12.trans s3).trans s7
        have ha8 := ha.same sA
        refine iteF ⟨_, rfl, p, D.cBl, dx, _, _, rfl, hp8, T.cBl, T.n_own_sizes, rfl, t, rfl, ⟨_, SqT.of ht8⟩, fun D9 hD9 => ?_⟩
        refine lc_pure (walk_tup (xs := ns.map V.int)) ns (fun _ => true) V.int (fun s => cnt L s) (List.length_map ..) (by omega) hD9 (fun H' s' => SqT.of (s' _ _ ht8)) (fun i x n H9 H9' hn s9 y => ?_) (fun H9 s9 h9 => ?_)
        · obtain ⟨rfl, rfl⟩ := src_list hn y
          refine ⟨Same.refl _, turn_name rfl yes_of fun _ H10 s10 Q' hQ => ?_⟩
          obtain ⟨dx1, d1, g1, g2⟩ := ha8.same (s9.trans s10)
          exact ⟨_, rfl, a, dx1, _, rfl, g1, rfl, _, rfl, a, n, L, rfl, ⟨dx1, d1, g1, g2⟩, hL.nd, szS n (List.mem_of_getElem? hn), hQ _ _ (Same.refl _) rfl⟩
        · refine ⟨D9, _, rfl, SqL.of h9, ?_⟩
          rw [filter_yes, tot_sum, tot_cnt ndS]
          refine ⟨_, rfl, p, D.cBl, dx, _, _, rfl, s9 _ _ hp8, T.cBl, T.n_own_sizes, rfl, _, rfl, ?_⟩
          refine ⟨t, b, ns, M, rfl, SqT.of (s9 _ _ ht8), by omega, szS, hb.same (sA.trans s9), hM, fun H11 s11 => ?_⟩
          refine ⟨_, _, rfl, rfl, ?_⟩
          have e : decide (room ns M < need ns L) = true := decide_eq_true hlt
          show Q (.bl (decide (room ns M < need ns L))) H11
          rw [e]
          exact k _ ((sA.trans s9).trans s11)
end
end K64W
set_option Elab.async false
set_option maxRecDepth 100000
set_option maxHeartbeats 4000000
/-! Embedding. -/
namespace K64W
open PySem L2 K64
section
variable {P : Program} {w : World} {K : PySem.W.Frag} {mg : Str → Option Value} {base : Heap} {D : Ad}
def IsEm (D : Ad) (H : Hp) (p : Addr) (M : List Tri) : Prop := ∃ dx l, H p = some (.ins D.cEm dx [("own_amounts", .ref l)]) ∧ Rows H l e3 M
theorem IsEm.same {H H' : Hp} {p : Addr} {M : List Tri} (h : IsEm D H p M) (s : Same H H') : IsEm D H' p M := by
  obtain ⟨dx, l, h1, h2⟩ := h
  exact ⟨dx, l, s _ _ h1, h2.same s⟩
/-- the bounds of a triple's numbers -/
def TriB (M : List Tri) : Prop := ∀ r ∈ M, (0 ≤ r.1 ∧ r.1 < BB) ∧ (0 ≤ r.2.1 ∧ r.2.1 < BB) ∧ (1 ≤ r.2.2 ∧ r.2.2 < BB)
theorem f3_eq (r : Tri) : e3 r = (f3 r).map V.int := rfl
theorem f3_bd {M : List Tri} (h : TriB M) : ∀ r ∈ M, (f3 r).length = 3 ∧ TS.Bd BB (f3 r) := fun r hr => by
  obtain ⟨h1, h2, h3⟩ := h r hr
  refine ⟨rfl, fun m hm => ?_⟩
  simp only [f3, List.mem_cons, List.not_mem_nil, or_false] at hm
  rcases hm with rfl | rfl | rfl <;> omega
/-- sorted(rows), rows in order -/
theorem sort_tri {H : Hp} {a : Addr} {M : List Tri} (h : Rows H a e3 M) (hlen : M.length < 64) (hs : M.Pairwise lexT) (hb : TriB M) {Q : VK} (k : ∀ (H' : Hp) (p : Addr), Same H H' → Rows H' p e3 M → Q (.ref p) H') : rSortU K 3 BB [V.ref a] H Q := by
  refine sortU_of f3 f3_eq h hlen (f3_bd hb) fun L' H' p hp hc s R => ?_
  have e : L' = M := rows_unique hs (fun r hr => ⟨(hb r hr).2.1, by have := (hb r hr).2.2; omega⟩) hp (hc.imp fun {r q} h => by
    rw [code3, code3] at h
    exact h)
  subst e
  exact k H' p s R
def spEmInit (D : Ad) : Sp := fun vs H Q _ => ∃ (p l dx : Addr) (M : List Tri), vs = [.ref p, .ref l] ∧ H p = some (.ins D.cEm dx []) ∧ Rows H l e3 M ∧ M.length < 64 ∧ M.Pairwise lexT ∧ TriB M ∧ ∀ H', SameX p H H' → IsEm D H' p M → Q .non H'
theorem sc_emInit : FnScope ["self", "amounts"] ["self", "amounts"] (defScope s_emInit) := ⟨rfl, rfl, rfl, by decide +kernel, rfl, by decide +kernel, by decide +kernel⟩
theorem ok_emInit (T : Txt K mg D) : FnOk P w K mg base CX0 1 D.f_emInit D.d_emInit ["self", "amounts"] (spEmInit D) := by
  refine T.F_emInit.ok sc_emInit (fun vs H Q E h => ?_) (fun cdv A outer s H vs Q E hr h => ?_)
  · obtain ⟨p, l, dx, M, rfl, _⟩ := h
    rfl
  · obtain ⟨p, l, dx, M, rfl, hp, hR, hlen, hs, hb, k⟩ := h
    refine ⟨_, pss_one (ps_fld (pv 0) (pe_callB (cr_sortT (d := 3) (B := BB) (by decide)) (by rfl) T.b_sorted (by decide +kernel) (pa_cons (pv 1) pa_nil)) rfl), ?_⟩
    refine ⟨_, rfl, ?_⟩
    dsimp only [tNil]
    refine sort_tri hR hlen hs hb fun H' q s' R => ?_
    have hp' := s' _ _ hp
    obtain ⟨ks, h1, h2, h3⟩ := R
    refine ⟨_, rfl, p, D.cEm, dx, [], rfl, hp', T.cEm, T.n_own_amounts, by show 0 < 1000; decide, ?_⟩
    refine k _ (fun b o hb e => by rw [upd_ne hb]; exact s' b o e) ⟨dx, q, upd_same, ks, ?_, fun r hr => ?_, h3⟩
    · rw [upd_ne (ne_of h1 hp' (by intro z; cases z))]; exact h1
    · rw [upd_ne (ne_of (h2 r hr) hp' (by intro z; cases z))]; exact h2 r hr
def spEmAmounts (D : Ad) : Sp := fun vs H Q _ => ∃ (p : Addr) (M : List Tri), vs = [.ref p] ∧ IsEm D H p M ∧ ∀ H' l, Same H H' → Rows H' l e3 M → Q (.ref l) H'
theorem sc_emAmounts : FnScope ["self"] ["self"] (defScope s_emAmounts) := ⟨rfl, rfl, rfl, by decide +kernel, rfl, by decide +kernel, by decide +kernel⟩
theorem ok_emAmounts (T : Txt K mg D) : FnOk P w K mg base CX0 1 D.f_emAmounts D.d_emAmounts ["self"] (spEmAmounts D) := by
  refine T.F_emAmounts.ok sc_emAmounts (fun vs H Q E h => ?_) (fun cdv A outer s H vs Q E hr h => ?_)
  · obtain ⟨p, M, rfl, _⟩ := h
    rfl
  · obtain ⟨p, M, rfl, ⟨dx, l, hp, ks, h1, h2, h3⟩, k⟩ := h
    refine ⟨_, pss_one (ps_ret (pe_callTy call_list_of (by rfl) T.b_list (by decide +kernel) (pa_cons (pe_fld (pv 0) rfl) pa_nil))), ?_⟩
    exact ⟨_, rfl, p, D.cEm, dx, _, _, rfl, hp, T.cEm, T.n_own_amounts, rfl, l, _, rfl, .inl (SqL.of h1), fun l2 hl2 => k _ _ (same_new hl2) ⟨ks, upd_same, fun r hr => (same_new hl2) _ _ (h2 r hr), h3⟩⟩

/-- a dict of pairs, by its rows -/
theorem paired_rows {K : PySem.W.Frag} {H : Hp} : ∀ ks : List (Addr × Pr), (∀ p ∈ ks, H p.1 = some (.tup (e2 p.2))) → Paired (fun p (kv : Key × V) => SqT K H p [kV kv.1, kv.2]) (ks.map (·.1)) (kvs (ks.map (·.2)))
  | [], _ => .nil
  | p :: ks, h => .cons (SqT.of (h p (by simp))) (paired_rows ks fun q hq => h q (by simp [hq]))
theorem merge_kvs : ∀ (L T : List Pr), (keys (T ++ L)).Nodup → mergeK (kvs T) (kvs L) = kvs (T ++ L)
  | [], T, _ => by rw [List.append_nil]; rfl
  | p :: L, T, h => by
    have e : T ++ p :: L = (T ++ [p]) ++ L := by simp
    have hno : p.1 ∉ keys T := by
      have : ((T ++ p :: L).map (·.1)).Nodup := h
      rw [List.map_append, List.nodup_append] at this
      exact fun z => this.2.2 _ z p.1 (by simp) rfl
    show mergeK (putK (kvs T) (Sum.inl p.1) (V.int p.2)) (kvs L) = _
    rw [kvs_snoc hno, e]
    exact merge_kvs L (T ++ [p]) (by rw [← e]; exact h)
theorem merge_nil {L : List Pr} (h : (keys L).Nodup) : mergeK [] (kvs L) = kvs L := merge_kvs L [] h
theorem ve_gcnt {L N : List Pr} {M : List Tri} (hN : Sh0 N) (hV : VE (srt L) (srt N) M) {k : Int} (hk : k ∈ keys N) : cnt (tally (fun r => r.2.1) M) k = cnt N k := by
  obtain ⟨p, hp, e⟩ := List.mem_map.mp hk
  have e : p.1 = k := e
  subst e
  rw [tally_cnt, hV.given p (mem_srt.mpr hp), cnt_of hN.nd hp]
theorem ve_gkeys {L N : List Pr} {M : List Tri} (hN : Sh0 N) (hV : VE (srt L) (srt N) M) (k : Int) : k ∈ keys (tally (fun r => r.2.1) M) ↔ k ∈ keys N := by
  rw [tally_mem]
  constructor
  · rintro ⟨r, hr, rfl⟩
    exact mem_keys_srt.mp (hV.row r hr).2.2.2
  · intro hk
    obtain ⟨p, hp, e⟩ := List.mem_map.mp hk
    have e : p.1 = k := e
    subst e
    have h1 := hV.given p (mem_srt.mpr hp)
    have h2 := (hN.pos p hp).1
    apply Classical.byContradiction
    intro hno
    rw [tot_zero fun r hr => if_neg fun z => hno ⟨r, hr, z⟩] at h1
    omega
theorem ve_ukeys {L N : List Pr} {M : List Tri} (hV : VE (srt L) (srt N) M) {k : Int} (hk : k ∈ keys (tally (fun r => r.1) M)) : k ∈ keys L := by
  rw [tally_mem] at hk
  obtain ⟨r, hr, rfl⟩ := hk
  exact mem_keys_srt.mp (hV.row r hr).2.2.1
theorem ve_ucnt {L N : List Pr} {M : List Tri} (hV : VE (srt L) (srt N) M) {p : Pr} (hp : p ∈ srt L) : p.2 ≤ cnt (tally (fun r => r.1) M) p.1 := by
  rw [tally_cnt]
  exact hV.used p hp
def spEmHolds (D : Ad) : Sp := fun vs H Q _ => ∃ (p a b : Addr) (M : List Tri) (L N : List Pr), vs = [.ref p, .ref a, .ref b] ∧ IsEm D H p M ∧ IsSh D H a L ∧ IsSh D H b N ∧ Sh0 L ∧ Sh0 N ∧ VE (srt L) (srt N) M ∧ M.length ≤ 60 ∧ ∀ H', Same H H' → Q (.bl true) H'
abbrev nEmHolds : List Str := ["self", "one", "other", "size", "great", "amount", "used", "given", "count"]
theorem sc_emHolds : FnScope nEmHolds ["self", "one", "other"] (defScope s_emHolds) := ⟨rfl, rfl, rfl, by decide +kernel, rfl, by decide +kernel, by decide +kernel⟩
theorem ok_emHolds (T : Txt K mg D) : FnOk P w K mg base CX0 5 D.f_emHolds D.d_emHolds ["self", "one", "other"] (spEmHolds D) := by
  refine T.F_emHolds.ok sc_emHolds (fun vs H Q E h => ?_) (fun cdv A outer s H vs Q E hr h => ?_)
  · obtain ⟨p, a, b, M, L, N, rfl, _⟩ := h
    rfl
  · obtain ⟨p, a, b, M, L, N, rfl, hp, ha, hb, hL, hN, hV, hM60, k⟩ := h
    have hu := hu_of hr
    have hu64 := hr.units
    have hr1 : Room 1 _ := hr.mono (by decide)
    have hr2 : Room 2 _ := hr.mono (by decide)
    have hr3 : Room 3 _ := hr.mono (by decide)
    refine ⟨_, pss_cons (ps_for PassesOwn.never rfl (pi_list (pe_fld (pv 0) rfl)) (pg_tup rfl (pgs_cons (pg_name (i := 3) sc_emHolds.nd rfl (Or.inl rfl)) (pgs_cons (pg_name (i := 4) sc_emHolds.nd rfl (Or.inl rfl)) (pgs_cons (pg_name (i := 5) sc_emHolds.nd rfl (Or.inl rfl)) pgs_nil))))
        (pss_one (ps_if (PW.pt (pw_or (pt_not (pt_val (pe_call (ok_isSize T) hr2 (by rfl) T.g_isSize T.F_isSize.kp (b_isSize T) .nil pass0 (pa_cons (pv 3) pa_nil))))
          (pw_or (pt_not (pt_val (pe_call (ok_isSize T) hr2 (by rfl) T.g_isSize T.F_isSize.kp (b_isSize T) .nil pass0 (pa_cons (pv 4) pa_nil))))
          (pw_or (pt_not (pt_val (pe_call (ok_liesIn T) hr3 (by rfl) T.g_liesIn T.F_liesIn.kp (b_liesIn T) .nil pass0 (pa_cons (pv 3) (pa_cons (pv 4) pa_nil)))))
          (pw_or1 (pt_cmpR op_lt (pv 5) pe_int (nomark _))))))) (pss_one (ps_ret pe_bl)) pss_nil)))
      (pss_cons (ps_asg (pe_tup (pa_cons pe_dnewK (pa_cons pe_dnewK pa_nil))) (pg_tup rfl (pgs_cons (pg_name (i := 6) sc_emHolds.nd rfl (Or.inr rfl)) (pgs_cons (pg_name (i := 7) sc_emHolds.nd rfl (Or.inr rfl)) pgs_nil))))
      (pss_cons (ps_for PassesOwn.never rfl (pi_list (pe_fld (pv 0) rfl)) (pg_tup rfl (pgs_cons (pg_name (i := 3) sc_emHolds.nd rfl (Or.inl rfl)) (pgs_cons (pg_name (i := 4) sc_emHolds.nd rfl (Or.inl rfl)) (pgs_cons (pg_name (i := 5) sc_emHolds.nd rfl (Or.inl rfl)) pgs_nil))))
        (pss_cons (ps_dput hu (pv 6) (pv 3) (pe_op op_add (pe_dget2 hu (pv 6) (pv 3) pe_int m2) (pv 5)) rfl)
        (pss_one (ps_dput hu (pv 7) (pv 4) (pe_op op_add (pe_dget2 hu (pv 7) (pv 4) pe_int m2) (pv 5)) rfl))))
      (pss_cons (ps_if (pt_not (pt_val (pe_callB (cr_all rfl) (by rfl) T.b_all (by decide +kernel) (pa_cons (pe_lock (pe_lc (own := [("size", 3)]) (g := gName 3) (by rfl) sc_emHolds.nd (pi_keys (pv 6))
            (blkOk_by (N := nEmHolds) (sc := defScope s_emHolds) (own := [("size", 3)]) (by decide +kernel))
            (fun _ _ _ _ _ => pg_name (i := 3) sc_emHolds.nd rfl (Or.inl rfl)) (fun _ _ _ _ _ => pts_nil)
            (fun _ _ _ _ _ => by exact pe_cmp (pc_din (by exact hu) (pv 3) (pe_callTy (dictPK K) (by rfl) T.b_dict (by decide +kernel) (pa_cons (pe_meth0 (pv 1) T.cSh T.M_shCounts (ok_shCounts T) hr1 (b_shCounts T) .nil pass0) pa_nil))) (by rfl)))) pa_nil)))) (pss_one (ps_ret pe_bl)) pss_nil)
      (pss_cons (ps_if (pt_not (pt_val (pe_callB (cr_all rfl) (by rfl) T.b_all (by decide +kernel) (pa_cons (pe_lc (own := [("size", 3), ("count", 8)]) (g := gTup K 2 (gCons (gName 3) (gCons (gName 8) gNil))) (by rfl) sc_emHolds.nd
            (pi_list (pe_meth0 (pv 1) T.cSh T.M_shCounts (ok_shCounts T) hr1 (b_shCounts T) .nil pass0))
            (blkOk_by (N := nEmHolds) (sc := defScope s_emHolds) (own := [("size", 3), ("count", 8)]) (by decide +kernel))
            (fun _ _ _ _ _ => by exact tupK K rfl (pgs_cons (pg_name (i := 3) sc_emHolds.nd rfl (Or.inl rfl)) (pgs_cons (pg_name (i := 8) sc_emHolds.nd rfl (Or.inl rfl)) pgs_nil))) (fun _ _ _ _ _ => pts_nil)
            (fun _ _ _ _ _ => by exact pe_cmpR op_ge (pe_dget2 (by exact hu) (pv 6) (pv 3) pe_int m2) (pv 8) (nomark _))) pa_nil)))) (pss_one (ps_ret pe_bl)) pss_nil)
      (pss_one (ps_ret (pe_cmpR (op_eqD hu64) (pe_lc (own := [("size", 3)]) (g := gName 3) (by rfl) sc_emHolds.nd (pi_list (pe_callB cr_sorted (by rfl) T.b_sorted (by decide +kernel) (pa_cons (pe_callTy (call_list_dK (by rfl)) (by rfl) T.b_list (by decide +kernel) (pa_cons (pv 7) pa_nil)) pa_nil)))
            (blkOk_by (N := nEmHolds) (sc := defScope s_emHolds) (own := [("size", 3)]) (by decide +kernel))
            (fun _ _ _ _ _ => pg_name (i := 3) sc_emHolds.nd rfl (Or.inl rfl)) (fun _ _ _ _ _ => pts_nil)
            (fun _ _ _ _ _ => by exact pe_tup (pa_cons (pv 3) (pa_cons (pe_dget (by exact hu) (pv 7) (pv 3) (fun _ _ => rfl)) pa_nil))))
          (pe_meth0 (pv 2) T.cSh T.M_shCounts (ok_shCounts T) hr1 (b_shCounts T) .nil pass0) (nomark _)))))))), ?_⟩
    obtain ⟨dx, l, hp1, ks, hl, hks, hks2⟩ := id hp
    have hklen := ks_len hks2
    have hbnd := ve_bnd hL hN hV
    have szK : ∀ {T : List Pr}, Sh0 T → ∀ n ∈ keys T, n ∈ SIZES := fun {T} hT n hn => by
      obtain ⟨q, hq, e⟩ := List.mem_map.mp hn
      rw [← show q.1 = n from e]; exact hT.sz _ hq
    -- the first loop: each triple is right
    refine ⟨_, rfl, p, D.cEm, dx, _, _, rfl, hp1, T.cEm, T.n_own_amounts, rfl, l, rfl, ⟨_, SqL.of hl⟩, for_list (K := K) (a := l) (xs := ks.map fun p => V.ref p.1)
      (fun i σ H' => ∃ v1 v2 v3, σ = [some (.ref p), some (.ref a), some (.ref b), v1, v2, v3, none, none, none] ∧ Same H H') ⟨none, none, none, rfl, Same.refl H⟩ (fun i σ H' _ ⟨_, _, _, _, s⟩ => SqL.of (s _ _ hl)) ?_ ?_⟩
    · rintro i x σ H1 hx ⟨v1, v2, v3, rfl, s1⟩
      obtain ⟨q, hq, hqm, rfl, hMi⟩ := ks_get hks2 hx
      have hmem := List.mem_of_getElem? hMi
      obtain ⟨h1, h2, h3, h4⟩ := hV.row _ hmem
      have z1 := szK hL _ (mem_keys_srt.mp h3)
      have z2 := szK hN _ (mem_keys_srt.mp h4)
      refine ⟨q.1, _, rfl, SqT.of (s1 _ _ (hks q hqm)), rfl, _, _, rfl, _, _, rfl, _, _, rfl, rfl, ?_⟩
      refine ⟨_, rfl, q.2.1, rfl, z1, true, rfl, iteF ⟨_, rfl, q.2.2.1, rfl, z2, true, rfl, iteF ⟨_, rfl, _, rfl, q.2.1, q.2.2.1, rfl, z1, z2, fun H2 s2 => ⟨_, rfl, ?_⟩⟩⟩⟩
      rw [h1]
      refine iteF ⟨_, rfl, _, _, rfl, rfl, _, rfl, ?_⟩
      rw [decide_eq_false (show ¬ q.2.2.2 < 1 by omega)]
      exact iteF ⟨_, _, _, rfl, s1.trans s2⟩
    rintro σ H1 ⟨v1, v2, v3, rfl, s1⟩
    intro du hdu dg hdg
    refine ⟨by show 2 ≤ sizeLine; decide, fun tu htu => ?_⟩
    have nug : du ≠ dg := fun e => by rw [← e, upd_same] at hdg; cases hdg
    have nut : du ≠ tu := fun e => by rw [← e, upd_ne nug, upd_same] at htu; cases htu
    have ngt : dg ≠ tu := fun e => by rw [← e, upd_same] at htu; cases htu
    have s2 := ((s1.new (o := .dK []) hdu).new (o := .dK []) hdg).new (o := .tup [.ref du, .ref dg]) htu
    have e1 : (upd (upd (upd H1 du (.dK [])) dg (.dK [])) tu (.tup [.ref du, .ref dg])) du = some (.dK []) := by rw [upd_ne nut, upd_ne nug, upd_same]
    have e2 : (upd (upd (upd H1 du (.dK [])) dg (.dK [])) tu (.tup [.ref du, .ref dg])) dg = some (.dK []) := by rw [upd_ne ngt, upd_same]
    refine ⟨tu, _, rfl, SqT.of upd_same, rfl, _, _, rfl, _, _, rfl, rfl, ?_⟩
    have nhu : H du = none := s1.free hdu
    have nhg : H dg = none := by
      have : H1 dg = none := by rw [upd_ne nug.symm] at hdg; exact hdg
      exact s1.free this
    -- the second loop: the tallies
    refine ⟨_, rfl, p, D.cEm, dx, _, _, rfl, s2 _ _ hp1, T.cEm, T.n_own_amounts, rfl, l, rfl, ⟨_, SqL.of (s2 _ _ hl)⟩, for_list (K := K) (a := l) (xs := ks.map fun p => V.ref p.1)
      (fun i σ H' => ∃ v1 v2 v3, σ = [some (.ref p), some (.ref a), some (.ref b), v1, v2, v3, some (.ref du), some (.ref dg), none] ∧ Same H H' ∧ H' du = some (.dK (kvs (tally (fun r => r.1) (M.take i)))) ∧ H' dg = some (.dK (kvs (tally (fun r => r.2.1) (M.take i)))))
      ⟨v1, v2, v3, rfl, s2, e1, e2⟩ (fun i σ H' _ ⟨_, _, _, _, s, _⟩ => SqL.of (s _ _ hl)) ?_ ?_⟩
    · rintro i x σ H2 hx ⟨w1, w2, w3, rfl, s3, hu2, hg2⟩
      obtain ⟨q, hq, hqm, rfl, hMi⟩ := ks_get hks2 hx
      have hti : ∀ f : Tri → Int, (kvs (tally f (M.take i))).length < sizeLine := fun f => by
        rw [kvs_len]
        have := tally_len f (M.take i)
        rw [List.length_take] at this
        exact small1000 (by omega)
      refine ⟨q.1, _, rfl, SqT.of (s3 _ _ (hks q hqm)), rfl, _, _, rfl, _, _, rfl, _, _, rfl, rfl, ?_⟩
      refine ⟨_, rfl, du, rfl, .inl ⟨_, .inl hu2⟩, _, rfl, _, DGet.k (k := Sum.inl q.2.1) hu2, _, rfl, _, _, kvs_getD (tally_nd _ _) _, rfl, _, rfl, _, rfl, du, _, rfl, DPut.k (k := Sum.inl q.2.1) hu2 (hti _), ?_⟩
      rw [kvs_put]
      have hg3 : (upd H2 du (.dK (kvs (putP (tally (fun r => r.1) (M.take i)) q.2.1 (cnt (tally (fun r => r.1) (M.take i)) q.2.1 + q.2.2.2))))) dg = some (.dK (kvs (tally (fun r => r.2.1) (M.take i)))) := by rw [upd_ne nug.symm]; exact hg2
      refine ⟨_, rfl, dg, rfl, .inl ⟨_, .inl hg3⟩, _, rfl, _, DGet.k (k := Sum.inl q.2.2.1) hg3, _, rfl, _, _, kvs_getD (tally_nd _ _) _, rfl, _, rfl, _, rfl, dg, _, rfl, DPut.k (k := Sum.inl q.2.2.1) hg3 (hti _), ?_⟩
      rw [kvs_put]
      refine ⟨_, _, _, rfl, fun c o e => ?_, ?_, ?_⟩
      · rw [upd_ne (ne_of_none e nhg), upd_ne (ne_of_none e nhu)]
        exact s3 _ _ e
      · rw [upd_ne nug, upd_same, take_succ_of hMi, tally_snoc]
      · rw [upd_same, take_succ_of hMi, tally_snoc]
    rintro σ H2 ⟨w1, w2, w3, rfl, s3, hu2, hg2⟩
    rw [List.length_map, hklen, List.take_length] at hu2 hg2
    have hlk : ∀ {o : HO}, Same H (upd H2 du o) := fun {o} => (Same.x s3).upd.same nhu
    refine ⟨du, _, hu2, True.intro, fun od => ?_⟩
    refine ⟨_, rfl, du, od, rfl, .inl ⟨_, upd_same, fun De hDe => ?_⟩⟩
    refine lc_pure walk_keys (keys (tally (fun r => r.1) M)) (fun _ => true) V.bl (fun _ => true) (by rw [kvs_len]; exact (List.length_map ..).symm) (by have := tally_len (fun r => r.1) M; rw [List.length_map]; omega) hDe (fun H' s' => s' _ _ upd_same) (fun i x n H3 H3' hn s4 y => ?_) (fun H3 s4 h3 => ?_)
    · obtain ⟨rfl, kk, v, hkv, rfl⟩ := y
      refine ⟨Same.refl _, ?_⟩
      have hkn : kk = Sum.inl n := by
        obtain ⟨q, hq, e⟩ := get_map hkv
        obtain ⟨q2, hq2, e2⟩ := get_map hn
        rw [hq] at hq2
        cases hq2
        cases e
        rw [e2]
      subst hkn
      refine turn_name rfl yes_of fun _ H4 s5 Q' hQ => ?_
      have s6 := (hlk.trans s4).trans s5
      obtain ⟨dx1, d1, g1, g2⟩ := ha.same s6
      refine ⟨_, rfl, _, rfl, a, dx1, _, rfl, g1, rfl, a, L, rfl, ⟨dx1, d1, g1, g2⟩, hL, fun H5 l5 s7 R5 => ?_⟩
      obtain ⟨ks5, k1, k2, k3⟩ := R5
      refine ⟨l5, _, _, rfl, SqL.of (by rw [k1, List.map_map]; rfl), paired_rows ks5 k2, fun p5 hp5 => ?_⟩
      rw [k3, merge_nil (srt_sh0 hL).nd]
      refine ⟨p5, _, rfl, DGet.k (k := Sum.inl n) upd_same, ?_⟩
      rw [kvs_cnt (srt_sh0 hL).nd (mem_keys_srt.mpr (ve_ukeys hV (List.mem_of_getElem? hn)))]
      exact hQ _ _ (s7.new hp5) rfl
    refine ⟨s4 _ _ upd_same, De, _, rfl, SqL.of (by rw [upd_ne (ne_of h3 (s4 _ _ upd_same) (by intro z; cases z))]; exact h3), ?_⟩
    rw [all_true (fun _ _ => rfl)]
    have s5 := lock_back hu2 s4
    have s6 := s3.trans s5
    have hu3 := s5 _ _ hu2
    have hg3 := s5 _ _ hg2
    generalize upd H3 du (.dK (kvs (tally (fun r => r.1) M))) = H4 at s5 s6 hu3 hg3
    refine ⟨true, rfl, iteF ?_⟩
    -- each is used enough
    obtain ⟨dx1, d1, g1, g2⟩ := ha.same s6
    refine ⟨_, rfl, a, dx1, _, rfl, g1, rfl, a, L, rfl, ⟨dx1, d1, g1, g2⟩, hL, fun H5 l5 s7 R5 => ?_⟩
    obtain ⟨ks5, k1, k2, k3⟩ := R5
    refine ⟨l5, rfl, ⟨_, SqL.of k1⟩, fun De5 hDe5 => ?_⟩
    refine lc_pure (walk_list (xs := ks5.map fun p => V.ref p.1)) (srt L) (fun _ => true) V.bl (fun _ => true) (by rw [List.length_map, ks_len k3]) (by rw [srt_len]; have := hL.len; omega) hDe5 (fun H' s' => SqL.of (s' _ _ k1)) (fun i x q H6 H6' hq s8 y => ?_) (fun H6 s8 h6 => ?_)
    · obtain ⟨rfl, pq, hpq, rfl, rfl⟩ := src_rows k3 hq y
      refine ⟨Same.refl _, turn_pair (SqT.of (s8 _ _ (k2 pq hpq))) rfl yes_of fun _ H7 s9 Q' hQ => ?_⟩
      have hu7 := s9 _ _ (s8 _ _ (s7 _ _ hu3))
      exact ⟨_, rfl, du, rfl, .inl ⟨_, .inl hu7⟩, _, rfl, _, DGet.k (k := Sum.inl pq.2.1) hu7, _, rfl, _, _, kvs_getD (tally_nd _ _) _, rfl, hQ _ _ (Same.refl _) (congrArg V.bl (decide_eq_true (ve_ucnt hV (List.mem_of_getElem? hq))))⟩
    refine ⟨De5, _, rfl, SqL.of h6, ?_⟩
    rw [all_true (fun _ _ => rfl)]
    refine ⟨true, rfl, iteF ?_⟩
    have s9 := s7.trans s8
    have s10 := s6.trans s9
    have hg6 := s9 _ _ hg3
    -- what is given
    refine ⟨_, rfl, dg, _, rfl, hg6, fun l1 hl1 => ?_⟩
    refine ⟨l1, keys (tally (fun r => r.2.1) M), rfl, SqL.of (by rw [upd_same, kvs_keys]), ?_, fun ns l2 hperm hsort hl2 => ?_⟩
    · have := tally_len (fun r => r.2.1) M
      rw [List.length_map]; omega
    have s11 := (same_new (o := .lst ((kvs (tally (fun r => r.2.1) M)).map fun kv => kV kv.1)) hl1).new (o := .lst (ns.map V.int)) hl2
    have hpN : ns.Perm (keys N) := hperm.trans (perm_of_mem (tally_nd _ _) hN.nd (ve_gkeys hN hV))
    refine ⟨l2, rfl, ⟨_, SqL.of upd_same⟩, fun Dd hDd => ?_⟩
    refine lc_rows (walk_list (xs := ns.map V.int)) ns (fun _ => true) K64W.e2 (fun s => (s, cnt N s)) (List.length_map ..) (by rw [hpN.length_eq, List.length_map]; have := hN.len; omega) hDd (fun H' s' => SqL.of (s' _ _ upd_same)) (fun i x n H7 H7' hn s12 y => ?_) (fun H7 s12 R7 => ?_)
    · obtain ⟨rfl, rfl⟩ := src_list hn y
      refine ⟨Same.refl _, turn_name rfl yes_of fun _ H8 s13 Q' hQ => ?_⟩
      have hmem : n ∈ keys N := hpN.mem_iff.mp (List.mem_of_getElem? hn)
      refine ⟨_, rfl, _, rfl, _, rfl, dg, _, rfl, kvs_dget (s13 _ _ (s12 _ _ (s11 _ _ hg6))) (tally_nd _ _) ((ve_gkeys hN hV n).mpr hmem), ?_⟩
      rw [ve_gcnt hN hV hmem]
      exact ⟨by show 2 ≤ sizeLine; decide, fun t ht => hQ _ _ (same_new ht) ⟨t, rfl, upd_same⟩⟩
    rw [filter_yes, srt_of_keys hN.nd hpN hsort] at R7
    have s13 := (s10.trans s11).trans s12
    obtain ⟨dx2, d2, g3, g4⟩ := hb.same s13
    refine ⟨_, rfl, b, dx2, _, rfl, g3, rfl, b, N, rfl, ⟨dx2, d2, g3, g4⟩, hN, fun H9 l9 s14 R9 => ?_⟩
    refine ⟨_, _, dpRows (f := f2) (fun _ => rfl) (R7.same s14), dpRows (f := f2) (fun _ => rfl) R9, sh_rows _, sh_rows _, ?_⟩
    rw [eqv_same (sh_rows _)]
    exact k _ (s13.trans s14)
end
end K64W
set_option Elab.async false
set_option maxRecDepth 100000
set_option maxHeartbeats 4000000
/-! The Giver: what it holds; how it is made. -/
namespace K64W
open PySem L2 K64 K64R

/-! ### dicts given by a function on a list of keys -/
section
variable {α κ : Type} [DecidableEq α] [DecidableEq κ]
def fnK (kf : α → κ) (f : α → V) (ns : List α) : List (κ × V) := ns.map fun n => (kf n, f n)
variable {kf : α → κ} (hk : ∀ a b, kf a = kf b → a = b) {f : α → V} {ns : List α}
theorem fnK_len : (fnK kf f ns).length = ns.length := List.length_map ..
include hk in
theorem fnK_get {n : α} (h : n ∈ ns) : valV (fnK kf f ns) (kf n) = some (f n) := by
  induction ns with
  | nil => cases h
  | cons a l ih =>
    show valV ((kf a, f a) :: fnK kf f l) _ = _
    by_cases e : a = n
    · rw [valV_pos (by rw [e]), e]
    · rw [valV_neg fun z => e (hk _ _ z)]
      exact ih ((List.mem_cons.mp h).resolve_left fun z => e z.symm)
include hk in
theorem fnK_none {n : α} (h : n ∉ ns) : valV (fnK kf f ns) (kf n) = none := by
  induction ns with
  | nil => rfl
  | cons a l ih =>
    show valV ((kf a, f a) :: fnK kf f l) _ = _
    rw [valV_neg fun z => h (by rw [hk _ _ z]; exact List.mem_cons_self ..)]
    exact ih fun z => h (List.mem_cons_of_mem _ z)
include hk in
theorem fnK_put {n : α} (h : n ∈ ns) (v : V) : putK (fnK kf f ns) (kf n) v = fnK kf (fun k => if k = n then v else f k) ns := by
  unfold putK
  rw [valV_any, fnK_get hk h]
  rw [if_pos (show (some (f n)).isSome = true from rfl)]
  unfold fnK
  rw [List.map_map]
  refine List.map_congr_left fun a _ => ?_
  show (if kf a = kf n then (kf a, v) else (kf a, f a)) = (kf a, if a = n then v else f a)
  by_cases e : a = n
  · rw [if_pos (by rw [e]), if_pos e]
  · rw [if_neg (fun z => e (hk _ _ z)), if_neg e]
include hk in
theorem fnK_new {n : α} (h : n ∉ ns) : putK (fnK kf f ns) (kf n) (f n) = fnK kf f (ns ++ [n]) := by
  rw [putK_new _ (fnK_none hk h)]
  unfold fnK
  rw [List.map_append]
  rfl
omit [DecidableEq α] [DecidableEq κ] in
theorem fnK_congr {g : α → V} (h : ∀ a ∈ ns, f a = g a) : fnK kf f ns = fnK kf g ns := List.map_congr_left fun a ha => by rw [h a ha]
end
abbrev gK (f : Int → Int) (ns : List Int) : List (Key × V) := fnK (fun n => (Sum.inl n : Key)) (fun n => V.int (f n)) ns
abbrev kE (e : Ed) : List Key := [Sum.inl e.1, Sum.inl e.2]
abbrev sK (sh : Ed → Int) (E : List Ed) : List (List Key × V) := fnK kE (fun e => V.int (sh e)) E
theorem inlK : ∀ a b : Int, (Sum.inl a : Key) = Sum.inl b → a = b := fun _ _ e => Sum.inl.inj e
theorem kE_inj : ∀ a b : Ed, kE a = kE b → a = b := fun a b e => by
  injection e with e1 e2
  injection e2 with e2 _
  exact Prod.ext (Sum.inl.inj e1) (Sum.inl.inj e2)
theorem kvs_fn {L : List Pr} (hn : (keys L).Nodup) : kvs L = gK (cnt L) (keys L) := by
  unfold kvs gK fnK keys
  rw [List.map_map]
  refine List.map_congr_left fun p hp => ?_
  show (Sum.inl p.1, V.int p.2) = (Sum.inl p.1, V.int (cnt L p.1))
  rw [cnt_of hn hp]

/-! ### any comprehension's loop -/
section
variable {J : It} {n : Nat} {G : Hp → Prop} {Y : Nat → Hp → V → Hp → Prop}
theorem any_it (w : Walk J n G Y) {g : TG} {tt : TT} {vs : List Nat} {σ : L2.St} {BT : L2.St → Hp → (Hp → Prop) → Prop} {Dn : Hp → Prop} {H3 : Hp} (Pv : Nat → Hp → Prop) (h0 : Pv 0 H3) (hG : ∀ i H, i ≤ n → Pv i H → G H)
    (hs : ∀ i x H H', i < n → Pv i H → Y i H x H' → g x (wipe σ vs) H' fun σ2 H2 => wipe σ2 vs = wipe σ vs ∧ tt σ2 H2 fun b H3 => if b = true then BT σ2 H3 (Pv (i + 1)) else Pv (i + 1) H3) (hd : ∀ H, Pv n H → Dn H) :
    tLoop g tt vs σ BT Dn J H3 := by
  refine ⟨fun i m H => m = n - i ∧ i ≤ n ∧ Pv i H, ⟨n, by simp, Nat.zero_le _, h0⟩, ?_⟩
  rintro i m H ⟨rfl, hi, p⟩
  have q := hG i H hi p
  by_cases hlt : i < n
  · refine .inr ⟨w.goes i H hlt q, Pv (i + 1), fun H' p' => ⟨n - (i + 1), by omega, rfl, hlt, p'⟩, fun x H' y => hs i x H H' hlt p (w.yields i H x H' hlt q y)⟩
  · have e : i = n := by omega
    subst e
    exact .inl ⟨w.stops H q, hd H p⟩
end
theorem dc_it {J : It} {n : Nat} {G : Hp → Prop} {Y : Nat → Hp → V → Hp → Prop} (w : Walk J n G Y) {g : TG} {tt : TT} {tk tv : TE} {vs : List Nat} {σ : L2.St} {Dn : Hp → Prop} {H3 : Hp} {D : Addr} (Pv : Nat → Hp → Prop) (h0 : Pv 0 H3) (hG : ∀ i H, i ≤ n → Pv i H → G H)
    (hs : ∀ i x H H', i < n → Pv i H → Y i H x H' → g x (wipe σ vs) H' fun σ2 H2 => wipe σ2 vs = wipe σ vs ∧ tt σ2 H2 fun b H3 => if b = true then tk σ2 H3 fun y H4 => tv σ2 H4 fun z H5 => ∃ kvs k, y = kV k ∧ H5 D = some (.dK kvs) ∧ kvs.length < sizeLine ∧ Pv (i + 1) (upd H5 D (.dK (putK kvs k z))) else Pv (i + 1) H3) (hd : ∀ H, Pv n H → Dn H) :
    ∃ W : Nat → Nat → Hp → Prop, (∃ m, W 0 m H3) ∧ ∀ i m H, W i m H →
  (J.stop i H ∧ Dn H) ∨ (J.go i H ∧ ∃ Nx : Hp → Prop, (∀ H', Nx H' → ∃ m', m' < m ∧ W (i + 1) m' H') ∧ ∀ x H', J.yld i H x H' → g x (wipe σ vs) H' fun σ2 H2 => wipe σ2 vs = wipe σ vs ∧ tt σ2 H2 fun b H3 =>
    if b = true then tk σ2 H3 fun y H4 => tv σ2 H4 fun z H5 => ∃ kvs k, y = kV k ∧ H5 D = some (.dK kvs) ∧ kvs.length < sizeLine ∧ Nx (upd H5 D (.dK (putK kvs k z))) else Nx H3) :=
  any_it (BT := fun σ2 H3 Nx => tk σ2 H3 fun y H4 => tv σ2 H4 fun z H5 => ∃ kvs k, y = kV k ∧ H5 D = some (.dK kvs) ∧ kvs.length < sizeLine ∧ Nx (upd H5 D (.dK (putK kvs k z)))) w Pv h0 hG hs hd
theorem edges_len (A B : List Pr) : (edges A B).length ≤ A.length * B.length := by
  unfold edges
  induction A with
  | nil => simp
  | cons a A ih =>
    rw [List.flatMap_cons, List.length_append, List.length_map, List.length_cons, Nat.add_mul]
    have := List.length_filter_le (fun b : Pr => lies a.1 b.1) B
    omega
theorem edges_snoc {A B : List Pr} {i : Nat} {a : Pr} (h : A[i]? = some a) : edges (A.take (i + 1)) B = edges (A.take i) B ++ (B.filter fun b => lies a.1 b.1).map fun b => (a.1, b.1) := by
  unfold edges
  rw [take_succ_of h, List.flatMap_append]
  simp
section
variable {P : Program} {w : World} {K : PySem.W.Frag} {mg : Str → Option Value} {base : Heap} {D : Ad}
/-- the Giver at p -/
structure GvAt (D : Ad) (H : Hp) (p dn df ds : Addr) (A B : List Int) (E : List Ed) (st : GS) : Prop where
  self : ∃ dx, H p = some (.ins D.cGv dx [("needs", .ref dn), ("free", .ref df), ("shares", .ref ds)])
  nd : H dn = some (.dK (gK st.nd A))
  fr : H df = some (.dK (gK st.fr B))
  sh : H ds = some (.dT (sK st.sh E))
  ne : dn ≠ df
theorem GvAt.same {H H' : Hp} {p dn df ds : Addr} {A B : List Int} {E : List Ed} {st : GS} (g : GvAt D H p dn df ds A B E st) (s : Same H H') : GvAt D H' p dn df ds A B E st :=
  ⟨let ⟨dx, h⟩ := g.self; ⟨dx, s _ _ h⟩, s _ _ g.nd, s _ _ g.fr, s _ _ g.sh, g.ne⟩

def spGvInit (D : Ad) : Sp := fun vs H Q _ => ∃ (p a b dx : Addr) (L N : List Pr), vs = [.ref p, .ref a, .ref b] ∧ H p = some (.ins D.cGv dx []) ∧ IsSh D H a L ∧ IsSh D H b N ∧ Sh0 L ∧ Sh0 N ∧
  ∀ H' dn df ds, SameX p H H' → H dn = none → H df = none → H ds = none → GvAt D H' p dn df ds (keys (srt L)) (keys (srt N)) (edges (srt L) (srt N)) (st0 (srt L) (srt N)) → Q .non H'
abbrev nGvInit : List Str := ["self", "one", "other", "size", "count", "great"]
theorem sc_gvInit : FnScope nGvInit ["self", "one", "other"] (defScope s_gvInit) := ⟨rfl, rfl, rfl, by decide +kernel, rfl, by decide +kernel, by decide +kernel⟩
theorem ok_gvInit (T : Txt K mg D) : FnOk P w K mg base CX0 4 D.f_gvInit D.d_gvInit ["self", "one", "other"] (spGvInit D) := by
  refine T.F_gvInit.ok sc_gvInit (fun vs H Q E h => ?_) (fun cdv A outer s H vs Q E hr h => ?_)
  · obtain ⟨p, a, b, dx, L, N, rfl, _⟩ := h
    rfl
  · obtain ⟨p, a, b, dx, L, N, rfl, hp, ha, hb, hL, hN, k⟩ := h
    have hu := hu_of hr
    have hr1 : Room 1 _ := hr.mono (by decide)
    refine ⟨_, pss_cons (ps_fld (pv 0) (pe_dc (own := [("size", 3), ("count", 4)]) (g := gTup K 2 (gCons (gName 3) (gCons (gName 4) gNil))) (by rfl) sc_gvInit.nd
        (pi_list (pe_meth0 (pv 1) T.cSh T.M_shCounts (ok_shCounts T) hr1 (b_shCounts T) .nil pass0))
        (blkOk_by (N := nGvInit) (sc := defScope s_gvInit) (own := [("size", 3), ("count", 4)]) (by decide +kernel))
        (fun _ _ _ _ _ => by exact tupK K rfl (pgs_cons (pg_name (i := 3) sc_gvInit.nd rfl (Or.inl rfl)) (pgs_cons (pg_name (i := 4) sc_gvInit.nd rfl (Or.inl rfl)) pgs_nil))) (fun _ _ _ _ _ => pts_nil)
        (fun _ _ _ _ _ => pv 3) (fun _ _ _ _ _ => pv 4)) rfl)
      (pss_cons (ps_fld (pv 0) (pe_dc (own := [("size", 3), ("count", 4)]) (g := gTup K 2 (gCons (gName 3) (gCons (gName 4) gNil))) (by rfl) sc_gvInit.nd
        (pi_list (pe_meth0 (pv 2) T.cSh T.M_shCounts (ok_shCounts T) hr1 (b_shCounts T) .nil pass0))
        (blkOk_by (N := nGvInit) (sc := defScope s_gvInit) (own := [("size", 3), ("count", 4)]) (by decide +kernel))
        (fun _ _ _ _ _ => by exact tupK K rfl (pgs_cons (pg_name (i := 3) sc_gvInit.nd rfl (Or.inl rfl)) (pgs_cons (pg_name (i := 4) sc_gvInit.nd rfl (Or.inl rfl)) pgs_nil))) (fun _ _ _ _ _ => pts_nil)
        (fun _ _ _ _ _ => pv 3) (fun _ _ _ _ _ => pv 4)) rfl)
      (pss_one (ps_fld (pv 0) (pe_lock (pe_lock (pe_dc2 (own := [("size", 3), ("great", 5)]) (vs1 := [5]) (g := gName 3) (g1 := gName 5) (by rfl) hu sc_gvInit.nd
        (pi_keys (pe_fld (pv 0) rfl))
        (blkOk_by (N := nGvInit) (sc := defScope s_gvInit) (own := [("size", 3), ("great", 5)]) (by decide +kernel)) (by decide)
        (fun _ _ _ _ _ => pg_name (i := 3) sc_gvInit.nd rfl (Or.inl rfl)) (fun _ _ _ _ _ => pts_nil)
        (fun _ _ _ _ _ => by exact pi_keys (fldK K (pv 0)))
        (fun _ _ _ _ _ => pg_name (i := 5) sc_gvInit.nd rfl (Or.inl rfl))
        (fun _ _ _ _ _ => by exact pts_one (pt_val (pe_call (ok_liesIn T) hr (by rfl) T.g_liesIn T.F_liesIn.kp (b_liesIn T) .nil pass0 (pa_cons (pv 3) (pa_cons (pv 5) pa_nil)))))
        (fun _ _ _ _ _ => pe_tup (pa_cons (pv 3) (pa_cons (pv 5) pa_nil))) (fun _ _ _ _ _ => pe_int)))) rfl))), ?_⟩
    obtain ⟨dxa, da, ha1, ha2⟩ := id ha
    refine ⟨_, rfl, a, dxa, _, rfl, ha1, rfl, a, L, rfl, ha, hL, fun H1 l s1 R1 => ?_⟩
    obtain ⟨ks, hl, hks, hk2⟩ := R1
    refine ⟨l, rfl, ⟨_, SqL.of hl⟩, fun dn hdn => ?_⟩
    refine dc_it (walk_list (xs := ks.map fun p => V.ref p.1)) (fun i H' => Same H1 H' ∧ H' dn = some (.dK (kvs ((srt L).take i)))) ⟨same_new hdn, upd_same⟩ (fun i H' _ ⟨s', _⟩ => SqL.of (s' _ _ hl)) ?_ ?_
    · rintro i x H2 H2' hi ⟨s2, hD2⟩ ⟨rfl, hx⟩
      obtain ⟨q, hq, hqm, rfl, hLi⟩ := ks_get hk2 hx
      have nd := (srt_sh0 hL).nd
      have hlen := (srt_sh0 hL).len
      refine ⟨q.1, _, rfl, SqT.of (s2 _ _ (hks q hqm)), rfl, _, _, rfl, _, _, rfl, rfl, rfl, ?_⟩
      refine ⟨_, rfl, _, rfl, _, Sum.inl q.2.1, rfl, hD2, ?_, ?_, ?_⟩
      · rw [kvs_len, List.length_take]
        exact small1000 (by omega)
      · exact fun b o e => by rw [upd_ne (ne_of_none e hdn)]; exact s2 b o e
      · rw [upd_same, kvs_snoc (take_key nd hLi), take_succ_of hLi]
    rintro H2 ⟨s2, hn⟩
    rw [List.length_map, ks_len hk2, List.take_length, kvs_fn (srt_sh0 hL).nd] at hn
    have sA := (s1.trans s2)
    have hn0 : H dn = none := s1.free hdn
    have hp2 := sA _ _ hp
    refine ⟨_, rfl, p, D.cGv, dx, [], rfl, hp2, T.cGv, T.n_needs, by show 0 < 1000; decide, ?_⟩
    have npn : p ≠ dn := ne_of_none hp hn0
    have sX : SameX p H (upd H2 p (.ins D.cGv dx [("needs", .ref dn)])) := (Same.x sA).upd
    have hp3 : (upd H2 p (.ins D.cGv dx [("needs", .ref dn)])) p = some (.ins D.cGv dx [("needs", .ref dn)]) := upd_same
    have hn3 : (upd H2 p (.ins D.cGv dx [("needs", .ref dn)])) dn = some (.dK (gK (cnt (srt L)) (keys (srt L)))) := by rw [upd_ne npn.symm]; exact hn
    have e1 : putF "needs" (V.ref dn) [] = [(("needs" : Str), V.ref dn)] := rfl
    rw [e1]
    generalize upd H2 p (.ins D.cGv dx [("needs", .ref dn)]) = H3 at sX hp3 hn3 ⊢
    have nap : a ≠ p := ne_of ha1 hp (by intro z; injection z with _ _ z; cases z)
    have hb3 : IsSh D H3 b N := by
      obtain ⟨dxb, db, hb1, hb2⟩ := hb
      exact ⟨dxb, db, sX _ _ (fun z => by rw [z, hp] at hb1; injection hb1 with z; injection z with _ _ z; cases z) hb1, sX _ _ (fun z => by rw [z, hp] at hb2; cases hb2) hb2⟩
    obtain ⟨dxb, db, hb1, hb2⟩ := id hb3
    refine ⟨_, rfl, b, dxb, _, rfl, hb1, rfl, b, N, rfl, hb3, hN, fun H4 l s1 R1 => ?_⟩
    obtain ⟨ks, hl, hks, hk2⟩ := R1
    refine ⟨l, rfl, ⟨_, SqL.of hl⟩, fun df hdf => ?_⟩
    refine dc_it (walk_list (xs := ks.map fun p => V.ref p.1)) (fun i H' => Same H4 H' ∧ H' df = some (.dK (kvs ((srt N).take i)))) ⟨same_new hdf, upd_same⟩ (fun i H' _ ⟨s', _⟩ => SqL.of (s' _ _ hl)) ?_ ?_
    · rintro i x H2 H2' hi ⟨s2, hD2⟩ ⟨rfl, hx⟩
      obtain ⟨q, hq, hqm, rfl, hLi⟩ := ks_get hk2 hx
      have nd := (srt_sh0 hN).nd
      have hlen := (srt_sh0 hN).len
      refine ⟨q.1, _, rfl, SqT.of (s2 _ _ (hks q hqm)), rfl, _, _, rfl, _, _, rfl, rfl, rfl, ?_⟩
      refine ⟨_, rfl, _, rfl, _, Sum.inl q.2.1, rfl, hD2, ?_, ?_, ?_⟩
      · rw [kvs_len, List.length_take]
        exact small1000 (by omega)
      · exact fun b o e => by rw [upd_ne (ne_of_none e hdf)]; exact s2 b o e
      · rw [upd_same, kvs_snoc (take_key nd hLi), take_succ_of hLi]
    rintro H5 ⟨s2, hf⟩
    rw [List.length_map, ks_len hk2, List.take_length, kvs_fn (srt_sh0 hN).nd] at hf
    have sB := (s1.trans s2)
    have hf3 : H3 df = none := s1.free hdf
    have hf0 : H df = none := by
      cases e : H df with
      | none => rfl
      | some o =>
        by_cases z : df = p
        · rw [z, hp3] at hf3; cases hf3
        · rw [sX _ _ z e] at hf3; cases hf3
    have hp5 := sB _ _ hp3
    refine ⟨_, rfl, p, D.cGv, dx, _, rfl, hp5, T.cGv, T.n_free, by show 1 < 1000; decide, ?_⟩
    have e2 : putF "free" (V.ref df) [(("needs" : Str), V.ref dn)] = [(("needs" : Str), V.ref dn), ("free", .ref df)] := rfl
    rw [e2]
    have npf : p ≠ df := ne_of_none hp hf0
    have nnf : dn ≠ df := ne_of_none hn3 hf3
    have sX6 : SameX p H (upd H5 p (.ins D.cGv dx [("needs", .ref dn), ("free", .ref df)])) := (sX.trans (Same.x sB)).upd
    have hp6 : (upd H5 p (.ins D.cGv dx [("needs", .ref dn), ("free", .ref df)])) p = some (.ins D.cGv dx [("needs", .ref dn), ("free", .ref df)]) := upd_same
    have hn6 : (upd H5 p (.ins D.cGv dx [("needs", .ref dn), ("free", .ref df)])) dn = some (.dK (gK (cnt (srt L)) (keys (srt L)))) := by rw [upd_ne npn.symm]; exact sB _ _ hn3
    have hf6 : (upd H5 p (.ins D.cGv dx [("needs", .ref dn), ("free", .ref df)])) df = some (.dK (gK (cnt (srt N)) (keys (srt N)))) := by rw [upd_ne npf.symm]; exact hf
    generalize upd H5 p (.ins D.cGv dx [("needs", .ref dn), ("free", .ref df)]) = H6 at sX6 hp6 hn6 hf6 ⊢
    refine ⟨dn, _, hn6, True.intro, fun od1 => ⟨df, .dK (gK (cnt (srt N)) (keys (srt N))), by rw [upd_ne nnf.symm]; exact hf6, True.intro, fun od2 => ?_⟩⟩
    have hp7 : (upd (upd H6 dn (.frz od1 (.dK (gK (cnt (srt L)) (keys (srt L)))))) df (.frz od2 (.dK (gK (cnt (srt N)) (keys (srt N)))))) p = some (.ins D.cGv dx [("needs", .ref dn), ("free", .ref df)]) := by rw [upd_ne npf, upd_ne npn]; exact hp6
    have hn7 : (upd (upd H6 dn (.frz od1 (.dK (gK (cnt (srt L)) (keys (srt L)))))) df (.frz od2 (.dK (gK (cnt (srt N)) (keys (srt N)))))) dn = some (.frz od1 (.dK (gK (cnt (srt L)) (keys (srt L))))) := by rw [upd_ne nnf, upd_same]
    have hf7 : (upd (upd H6 dn (.frz od1 (.dK (gK (cnt (srt L)) (keys (srt L)))))) df (.frz od2 (.dK (gK (cnt (srt N)) (keys (srt N)))))) df = some (.frz od2 (.dK (gK (cnt (srt N)) (keys (srt N))))) := upd_same
    have back : ∀ {H8 : Hp}, Same (upd (upd H6 dn (.frz od1 (.dK (gK (cnt (srt L)) (keys (srt L)))))) df (.frz od2 (.dK (gK (cnt (srt N)) (keys (srt N)))))) H8 → Same H6 (upd (upd H8 df (.dK (gK (cnt (srt N)) (keys (srt N))))) dn (.dK (gK (cnt (srt L)) (keys (srt L))))) := fun {H8} s8 =>
      lock_back hn6 (lock_back (by rw [upd_ne nnf.symm]; exact hf6) s8)
    have hfree7 : ∀ c, (upd (upd H6 dn (.frz od1 (.dK (gK (cnt (srt L)) (keys (srt L)))))) df (.frz od2 (.dK (gK (cnt (srt N)) (keys (srt N)))))) c = none → H c = none := fun c hc => by
      have c1 : c ≠ df := fun z => by rw [z, hf7] at hc; cases hc
      have c2 : c ≠ dn := fun z => by rw [z, hn7] at hc; cases hc
      have c3 : c ≠ p := fun z => by rw [z, hp7] at hc; cases hc
      rw [upd_ne c1, upd_ne c2] at hc
      cases e : H c with
      | none => rfl
      | some o => rw [sX6 _ _ c3 e] at hc; cases hc
    generalize upd (upd H6 dn (.frz od1 (.dK (gK (cnt (srt L)) (keys (srt L)))))) df (.frz od2 (.dK (gK (cnt (srt N)) (keys (srt N))))) = H7 at hp7 hn7 hf7 back hfree7 ⊢
    have hAl := (srt_sh0 hL).len
    have hBl := (srt_sh0 hN).len
    have szK : ∀ {T : List Pr}, Sh0 T → ∀ n ∈ keys (srt T), n ∈ SIZES := fun {T} hT n hn => by
      obtain ⟨q, hq, e⟩ := List.mem_map.mp hn
      rw [← show q.1 = n from e]; exact (srt_sh0 hT).sz _ hq
    have keyn : ∀ {f : Int → Int} {ns : List Int} {i : Nat} {kk : Key} {v : V}, (gK f ns)[i]? = some (kk, v) → ∃ n, ns[i]? = some n ∧ kk = Sum.inl n := fun {f ns i kk v} h => by
      obtain ⟨n, hn, e⟩ := get_map h
      cases e
      exact ⟨n, hn, rfl⟩
    refine ⟨_, rfl, p, D.cGv, dx, _, _, rfl, hp7, T.cGv, T.n_needs, rfl, dn, od1, rfl, .inl ⟨_, hn7, fun ds hds => ?_⟩⟩
    have bnd : ∀ i, (edges ((srt L).take i) (srt N)).length ≤ 729 := fun i => by
      have h1 := edges_len ((srt L).take i) (srt N)
      have h2 : ((srt L).take i).length * (srt N).length ≤ 27 * 27 := Nat.mul_le_mul (by rw [List.length_take]; omega) hBl
      omega
    refine any_it (walk_keys (kvs := gK (cnt (srt L)) (keys (srt L)))) (fun i H' => Same H7 H' ∧ H' ds = some (.dT (sK (fun _ => 0) (edges ((srt L).take i) (srt N))))) ⟨same_new hds, upd_same⟩ (fun i H' _ ⟨s', _⟩ => s' _ _ hn7) ?_ ?_
    · rintro i x H8 H8' hi ⟨s8, hD8⟩ ⟨rfl, kk, v, hkv, rfl⟩
      obtain ⟨n, hn, rfl⟩ := keyn hkv
      obtain ⟨pn, hpn, rfl⟩ := get_map hn
      refine ⟨rfl, ?_⟩
      refine ⟨_, rfl, p, D.cGv, dx, _, _, rfl, s8 _ _ hp7, T.cGv, T.n_free, rfl, df, od2, rfl, .inl ⟨_, s8 _ _ hf7, ?_⟩⟩
      refine any_it (walk_keys (kvs := gK (cnt (srt N)) (keys (srt N)))) (fun j H' => Same H7 H' ∧ H' ds = some (.dT (sK (fun _ => 0) (edges ((srt L).take i) (srt N) ++ (((srt N).take j).filter fun b => lies pn.1 b.1).map fun b => (pn.1, b.1))))) ⟨s8, by rw [hD8]; simp⟩ (fun i H' _ ⟨s', _⟩ => s' _ _ hf7) ?_ ?_
      · rintro j x H9 H9' hj ⟨s9, hD9⟩ ⟨rfl, kk, v, hkv2, rfl⟩
        obtain ⟨m, hm, rfl⟩ := keyn hkv2
        obtain ⟨pm, hpm, rfl⟩ := get_map hm
        refine ⟨rfl, ?_⟩
        refine ⟨_, rfl, _, rfl, _, _, rfl, szK hL _ (List.mem_of_getElem? hn), szK hN _ (List.mem_of_getElem? hm), fun H10 s10 => ?_⟩
        have hD10 := s10 _ _ hD9
        have sS := s9.trans s10
        cases hlie : lies pn.1 pm.1 with
        | false =>
          refine ⟨_, rfl, iteF ⟨sS, ?_⟩⟩
          rw [hD10, take_succ_of hpm, List.filter_append]
          simp [hlie]
        | true =>
          refine ⟨_, rfl, iteT ?_⟩
          refine ⟨_, rfl, _, rfl, by show 2 ≤ sizeLine; decide, fun t ht => ?_⟩
          have hlen : (edges ((srt L).take i) (srt N) ++ (((srt N).take j).filter fun b => lies pn.1 b.1).map fun b => (pn.1, b.1)).length ≤ 1000 := by
            rw [List.length_append, List.length_map]
            have h1 := bnd i
            have h2 := List.length_filter_le (fun b : Pr => lies pn.1 b.1) ((srt N).take j)
            rw [List.length_take] at h2
            omega
          have hno : (pn.1, pm.1) ∉ edges ((srt L).take i) (srt N) ++ (((srt N).take j).filter fun b => lies pn.1 b.1).map fun b => (pn.1, b.1) := fun z => by
            rcases List.mem_append.mp z with z | z
            · exact take_key (srt_sh0 hL).nd hpn (mem_edges.mp z).1
            · obtain ⟨b, hb, e⟩ := List.mem_map.mp z
              have e : b.1 = pm.1 := (Prod.mk.inj e).2
              exact take_key (srt_sh0 hN).nd hpm (by rw [← e]; exact List.mem_map_of_mem (f := (·.1)) (List.mem_filter.mp hb).1)
          refine ⟨t, kE (pn.1, pm.1), _, rfl, upd_same, (same_new ht) _ _ hD10, ?_, ?_, ?_⟩
          · rw [fnK_len]; exact small1000 (by omega)
          · intro b o e
            rw [upd_ne (ne_of_none e hds)]
            exact (same_new ht) _ _ (sS b o e)
          · rw [upd_same]
            have := fnK_new (f := fun _ : Ed => V.int 0) kE_inj hno
            rw [this, List.append_assoc, take_succ_of hpm, List.filter_append]
            simp [hlie]
      · rintro H9 ⟨s9, hD9⟩
        refine ⟨s9, ?_⟩
        rw [hD9, edges_snoc hpn]
        have : (gK (cnt (srt N)) (keys (srt N))).length = (srt N).length := by rw [fnK_len]; exact List.length_map ..
        rw [this, List.take_length]
    rintro H8 ⟨s8, hD8⟩
    have : (gK (cnt (srt L)) (keys (srt L))).length = (srt L).length := by rw [fnK_len]; exact List.length_map ..
    rw [this, List.take_length] at hD8
    have hs0 : H ds = none := hfree7 ds hds
    have nsf : ds ≠ df := fun z => by rw [z, hf7] at hds; cases hds
    have nsn : ds ≠ dn := fun z => by rw [z, hn7] at hds; cases hds
    have sE := back s8
    refine ⟨s8 _ _ hf7, by rw [upd_ne nnf]; exact s8 _ _ hn7, _, rfl, p, D.cGv, dx, _, rfl, sE _ _ hp6, T.cGv, T.n_shares, by show 2 < 1000; decide, ?_⟩
    have e3 : putF "shares" (V.ref ds) [(("needs" : Str), V.ref dn), ("free", .ref df)] = [(("needs" : Str), V.ref dn), ("free", .ref df), ("shares", .ref ds)] := rfl
    rw [e3]
    refine k _ dn df ds (sX6.trans (Same.x sE)).upd hn0 hf0 hs0 ⟨⟨dx, upd_same⟩, ?_, ?_, ?_, nnf⟩
    · rw [upd_ne npn.symm]; exact sE _ _ hn6
    · rw [upd_ne npf.symm]; exact sE _ _ hf6
    · rw [upd_ne (ne_of_none hp hs0).symm, upd_ne nsn, upd_ne nsf]; exact hD8
end
end K64W
set_option Elab.async false
set_option maxRecDepth 100000
set_option maxHeartbeats 4000000
/-! The Giver: the search for a path. -/
namespace K64W
open PySem L2 K64 K64R

theorem iteT' {b : Bool} {p q : Prop} (h : b = true) (k : p) : if b = true then p else q := by rw [if_pos h]; exact k
theorem iteF' {b : Bool} {p q : Prop} (h : b = false) (k : q) : if b = true then p else q := by rw [if_neg (by rw [h]; decide)]; exact k
/-! ### tuples stay -/
def TSt (H H' : Hp) : Prop := ∀ b l, H b = some (.tup l) → H' b = some (.tup l)
theorem TSt.refl (H : Hp) : TSt H H := fun _ _ h => h
theorem TSt.trans {H H1 H2 : Hp} (a : TSt H H1) (b : TSt H1 H2) : TSt H H2 := fun c l h => b c l (a c l h)
theorem _root_.L2.Same.ts {H H' : Hp} (s : Same H H') : TSt H H' := fun b l h => s _ _ h
theorem tst_upd {H : Hp} {a : Addr} {o o' : HO} (h : H a = some o) (hn : ∀ l, o ≠ .tup l) : TSt H (upd H a o') := fun b l e => by
  rw [upd_ne (fun z => by rw [z, h] at e; cases e; exact hn l rfl)]
  exact e
/-- a tuple of tuples -/
def TRows {α : Type} (H : Hp) (t : Addr) (enc : α → List V) (L : List α) : Prop := ∃ ks : List (Addr × α), H t = some (.tup (ks.map fun p => V.ref p.1)) ∧ (∀ p ∈ ks, H p.1 = some (.tup (enc p.2))) ∧ ks.map (·.2) = L
theorem TRows.ts {α : Type} {H H' : Hp} {t : Addr} {enc : α → List V} {L : List α} (r : TRows H t enc L) (s : TSt H H') : TRows H' t enc L := by
  obtain ⟨ks, h1, h2, h3⟩ := r
  exact ⟨ks, s _ _ h1, fun p hp => s _ _ (h2 p hp), h3⟩
/-- what waits -/
def WAt (H : Hp) (x : V) (p : Int × List Ed) : Prop := ∃ a t, x = .ref a ∧ H a = some (.tup [.int p.1, .ref t]) ∧ TRows H t e2 p.2
theorem WAt.ts {H H' : Hp} {x : V} {p : Int × List Ed} (w : WAt H x p) (s : TSt H H') : WAt H' x p := by
  obtain ⟨a, t, h1, h2, h3⟩ := w
  exact ⟨a, t, h1, s _ _ h2, h3.ts s⟩
theorem paired_mono {α β : Type} {F G : α → β → Prop} (h : ∀ a b, F a b → G a b) : ∀ {l : List α} {m : List β}, Paired F l m → Paired G l m := fun p => by
  induction p with
  | nil => exact .nil
  | cons a _ ih => exact .cons (h _ _ a) ih
theorem paired_snoc {α β : Type} {F : α → β → Prop} {l : List α} {m : List β} {a : α} {b : β} (p : Paired F l m) (h : F a b) : Paired F (l ++ [a]) (m ++ [b]) := by
  induction p with
  | nil => exact .cons h .nil
  | cons x _ ih => exact .cons x ih
theorem paired_len {α β : Type} {F : α → β → Prop} {l : List α} {m : List β} (p : Paired F l m) : l.length = m.length := by
  induction p with
  | nil => rfl
  | cons _ _ ih => simp [ih]
abbrev kK (ns : List Int) : List (Key × V) := fnK (fun n => (Sum.inl n : Key)) (fun _ => V.bl true) ns

/-- the sizes of what waits -/
structure Bds (A : List Int) (m : Nat) (W : Wt) (Kn : List Int) : Prop where
  len : W.length ≤ Kn.length
  nd : Kn.Nodup
  sub : ∀ k ∈ Kn, k ∈ A
  dep : ∀ p ∈ W, p.2.length + m ≤ A.length + 1
theorem Bds.knlen {A : List Int} {m : Nat} {W : Wt} {Kn : List Int} (b : Bds A m W Kn) : Kn.length ≤ A.length := length_le_of_nodup b.nd b.sub
theorem Bds.step {A : List Int} {m : Nat} {W : Wt} {Kn : List Int} (b : Bds A m W Kn) {E : List Ed} (hE : ∀ e ∈ E, e.1 ∈ A) {sh : Ed → Int} {now g : Int} {path : List Ed} (hp : path.length + 1 + m ≤ A.length + 1) {e : Ed} (he : e ∈ E) :
    Bds A m (step1 sh now path g (W, Kn) e).1 (step1 sh now path g (W, Kn) e).2 := by
  unfold step1
  by_cases c : e.2 = g ∧ e.1 ∉ Kn ∧ 0 < sh e
  · rw [if_pos c]
    refine ⟨by simp; exact b.len, ?_, fun k hk => ?_, fun p hp' => ?_⟩
    · show (Kn ++ [e.1]).Nodup
      rw [List.nodup_append]
      refine ⟨b.nd, by simp, fun a ha x hx => ?_⟩
      rw [List.mem_singleton.mp hx]
      exact fun z => c.2.1 (z ▸ ha)
    · rcases List.mem_append.mp hk with h | h
      · exact b.sub k h
      · rw [List.mem_singleton.mp h]; exact hE e he
    · rcases List.mem_append.mp hp' with h | h
      · exact b.dep p h
      · rw [List.mem_singleton.mp h]; simp; omega
  · rw [if_neg c]
    exact b
theorem find_first {α : Type} {p : α → Bool} : ∀ {L : List α} {i : Nat} {a : α}, L[i]? = some a → p a = true → (∀ b ∈ L.take i, p b = false) → L.find? p = some a
  | x :: L, 0, a, h, hp, _ => by
    cases h
    exact List.find?_cons_of_pos hp
  | x :: L, i + 1, a, h, hp, hn => by
    rw [List.find?_cons_of_neg (by rw [hn x (by simp)]; decide)]
    exact find_first (i := i) (by simpa using h) hp fun b hb => hn b (by simp [hb])
theorem gK_dget {H : Hp} {d : Addr} {f : Int → Int} {ns : List Int} {n : Int} (h : H d = some (.dK (gK f ns))) (hn : n ∈ ns) : DGet H d (.int n) (some (.int (f n))) := by
  have := DGet.k (k := Sum.inl n) h
  rw [fnK_get inlK hn] at this
  exact this
/-- path + ((now, great),) -/
theorem cat_path {K : PySem.W.Frag} {σ : L2.St} {H : Hp} {tp : Addr} {path : List Ed} {now g : Int} {Q : VK} (h5 : σ[5]? = some (some (.ref tp))) (h4 : σ[4]? = some (some (.int now))) (h7 : σ[7]? = some (some (.int g))) (hp : TRows H tp e2 path) (hl : path.length ≤ 100)
    (k : ∀ H' t, Same H H' → TRows H' t e2 (path ++ [(now, g)]) → Q (.ref t) H') : tOp (rCatA K) (tVar 5) (tTup (tCons (tTup (tCons (tVar 4) (tCons (tVar 7) tNil))) tNil)) σ H Q := by
  obtain ⟨ks, k1, k2, k3⟩ := hp
  refine ⟨_, h5, _, h4, _, h7, by show 2 ≤ sizeLine; decide, fun t ht => ⟨by show 1 ≤ sizeLine; decide, fun u hu => ?_⟩⟩
  have s1 := (same_new (o := .tup [.int now, .int g]) ht).new (o := .tup [.ref t]) hu
  have ht2 : (upd (upd H t (.tup [.int now, .int g])) u (.tup [.ref t])) t = some (.tup [.int now, .int g]) := (same_new hu) _ _ upd_same
  refine ⟨tp, u, _, _, rfl, rfl, SqT.of (s1 _ _ k1), SqT.of upd_same, ?_, fun e => ?_, fun _ e => (by cases e), fun _ _ z hz => ?_⟩
  · rw [List.length_map, ks_len k3]
    exact Nat.le_of_lt (small1000 (by simp; omega))
  · refine k _ _ s1 ⟨[(t, (now, g))], upd_same, fun p hp => ?_, ?_⟩
    · rw [List.mem_singleton.mp hp]; exact ht2
    · have : ks = [] := List.map_eq_nil_iff.mp e
      rw [← k3, this]; rfl
  · refine k _ _ (s1.new hz) ⟨ks ++ [(t, (now, g))], ?_, fun p hp => ?_, ?_⟩
    · rw [upd_same, List.map_append]; rfl
    · rcases List.mem_append.mp hp with q | q
      · exact (s1.new hz) _ _ (k2 p q)
      · rw [List.mem_singleton.mp q]; exact (same_new hz) _ _ ht2
    · rw [List.map_append, k3]; rfl
/-- the state while the shares are walked -/
structure LK (H H' : Hp) (ds wl kd tp : Addr) (od : Obj) (u : HO) (A : List Int) (m : Nat) (path : List Ed) (ws : List V) (W : Wt) (Kn : List Int) : Prop where
  sx : SameX ds H H'
  lk : H' ds = some (.frz od u)
  wl : H' wl = some (.lst ws)
  kn : H' kd = some (.dK (kK Kn))
  pr : Paired (WAt H') ws W
  bd : Bds A m W Kn
  tp : TRows H' tp e2 path
theorem LK.same {H H' H2 : Hp} {ds wl kd tp : Addr} {od : Obj} {u : HO} {A : List Int} {m : Nat} {path : List Ed} {ws : List V} {W : Wt} {Kn : List Int} (l : LK H H' ds wl kd tp od u A m path ws W Kn) (s : Same H' H2) : LK H H2 ds wl kd tp od u A m path ws W Kn :=
  ⟨fun b o n e => s _ _ (l.sx b o n e), s _ _ l.lk, s _ _ l.wl, s _ _ l.kn, paired_mono (fun _ _ w => w.ts s.ts) l.pr, l.bd, l.tp.ts s.ts⟩
theorem at_zero {x : V} {xs : List V} : atI (x :: xs) 0 = some x := by simp [atI, ixN]
section
variable {P : Program} {w : World} {K : PySem.W.Frag} {mg : Str → Option Value} {base : Heap} {D : Ad}
/-- what the path's search knows of the Giver's lists -/
structure EdOk (A B : List Int) (E : List Ed) : Prop where
  fst : ∀ e ∈ E, e.1 ∈ A
  snd : ∀ e ∈ E, e.2 ∈ B
  la : A.length ≤ 27
  lb : B.length ≤ 27
  le : E.length ≤ 1000
  nd : E.Nodup
def spGvPath (D : Ad) : Sp := fun vs H Q _ => ∃ (p dn df ds : Addr) (size : Int) (A B : List Int) (E : List Ed) (st : GS) (R : List Ed), vs = [.ref p, .int size] ∧ GvAt D H p dn df ds A B E st ∧ EdOk A B E ∧ size ∈ A ∧ bfs E st.sh st.fr (A.length + 1) [(size, [])] [size] = some R ∧ ∀ H' t, Same H H' → TRows H' t e2 R → Q (.ref t) H'
abbrev nGvPath : List Str := ["self", "size", "waiting", "known", "now", "path", "small", "great", "late", "same"]
theorem sc_gvPath : FnScope nGvPath ["self", "size"] (defScope s_gvPath) := ⟨rfl, rfl, rfl, by decide +kernel, rfl, by decide +kernel, by decide +kernel⟩
theorem ok_gvPath (T : Txt K mg D) : FnOk P w K mg base CX0 1 D.f_gvPath D.d_gvPath ["self", "size"] (spGvPath D) := by
  refine T.F_gvPath.ok sc_gvPath (fun vs H Q E h => ?_) (fun cdv A outer s H vs Q E hr h => ?_)
  · obtain ⟨p, dn, df, ds, size, A, B, E, st, R, rfl, _⟩ := h
    rfl
  · obtain ⟨p, dn, df, ds, size, A, B, E, st, R, rfl, hG, hE, hsz, hb, k⟩ := h
    have hu := hu_of hr
    have nd := sc_gvPath.nd
    refine ⟨_, pss_cons (ps_par (i := 2) (j := 3) (by rfl) nd rfl rfl (by decide) rfl rfl (pa_cons (pe_lst (pa_cons (pe_tup (pa_cons (pv 1) (pa_cons (pe_tup pa_nil) pa_nil))) pa_nil)) (pa_cons (pe_disp (pps_cons (pv 1) pe_bl pps_nil) (by rfl) (by rfl) (by intro z; cases z) (by decide)) pa_nil)) (by rfl))
      (pss_cons (ps_while PassesOwn.never (pt_truth (pv 2) (by intro _; rfl))
        (pss_cons (ps_asg (pe_ix ix_list (pv 2) pe_int (fun _ _ => rfl)) (pg_tup rfl (pgs_cons (pg_name (i := 4) nd rfl (Or.inl rfl)) (pgs_cons (pg_name (i := 5) nd rfl (Or.inl rfl)) pgs_nil))))
        (pss_cons (ps_set (i := 2) nd rfl (Or.inl rfl) (pe_slice sl_list (pv 2) (po_some pe_int) po_none))
        (pss_cons (ps_lock (ps_for PassesOwn.never rfl (pi_keys (pe_fld (pv 0) rfl)) (pg_tup rfl (pgs_cons (pg_name (i := 6) nd rfl (Or.inl rfl)) (pgs_cons (pg_name (i := 7) nd rfl (Or.inl rfl)) pgs_nil)))
          (pss_one (ps_if (PW.pt (pw_and (pt_cmpR op_eq (pv 6) (pv 4) (nomark _)) (pw_and1 (pt_cmpR op_gt (pe_dget hu (pe_fld (pv 0) rfl) (pv 7) (fun _ _ => rfl)) pe_int (nomark _)))))
            (pss_one (ps_ret (pe_op op_catA (pv 5) (pe_tup (pa_cons (pe_tup (pa_cons (pv 4) (pa_cons (pv 7) pa_nil))) pa_nil))))) pss_nil))))
        (pss_one (ps_lock (ps_for PassesOwn.never rfl (pi_keys (pe_fld (pv 0) rfl)) (pg_tup rfl (pgs_cons (pg_name (i := 6) nd rfl (Or.inl rfl)) (pgs_cons (pg_name (i := 7) nd rfl (Or.inl rfl)) pgs_nil)))
          (pss_one (ps_if (pt_cmpR op_eq (pv 6) (pv 4) (nomark _))
            (pss_one (ps_for PassesOwn.never rfl (pi_keys (pe_fld (pv 0) rfl)) (pg_tup rfl (pgs_cons (pg_name (i := 8) nd rfl (Or.inl rfl)) (pgs_cons (pg_name (i := 9) nd rfl (Or.inl rfl)) pgs_nil)))
              (pss_one (ps_if (PW.pt (pw_and (pt_cmpR op_eq (pv 9) (pv 7) (nomark _)) (pw_and (pt_cmp (pc_dnotin hu (pv 8) (pv 3))) (pw_and1 (pt_cmpR op_gt (pe_dget hu (pe_fld (pv 0) rfl) (pe_tup (pa_cons (pv 8) (pa_cons (pv 9) pa_nil))) (fun _ _ => rfl)) pe_int (nomark _))))))
                (pss_cons (ps_dput hu (pv 3) (pv 8) pe_bl rfl)
                (pss_one (ps_expr (pe_bm PySem.F.plainAttrs_list PySem.F.slot_list_append PySem.F.type_list_append mt_append (pv 2) (pa_cons (pe_tup (pa_cons (pv 8) (pa_cons (pe_op op_catA (pv 5) (pe_tup (pa_cons (pe_tup (pa_cons (pv 4) (pa_cons (pv 7) pa_nil))) pa_nil))) pa_nil))) pa_nil))))) pss_nil)))) pss_nil)))))))))
      (pss_one (ps_ret (pe_tup pa_nil)))), ?_⟩
    obtain ⟨⟨dx, hp⟩, hn, hf, hs, hne⟩ := id hG
    refine ⟨_, rfl, by show 0 ≤ sizeLine; decide, fun t0 ht0 => ⟨by show 2 ≤ sizeLine; decide, fun t1 ht1 => ⟨by show 1 ≤ sizeLine; decide, fun wl hwl => ?_⟩⟩⟩
    intro kd hkd
    refine ⟨_, rfl, upd_same, [(Sum.inl size, .bl true)], rfl, by show 1 ≤ 15; decide, _, _, rfl, ?_⟩
    have sa := (same_new (o := .tup []) ht0).new (o := .tup [.int size, .ref t0]) ht1
    have hwl0 : H wl = none := sa.free hwl
    have sb := sa.new (o := .lst [.ref t1]) hwl
    have hkd0 : H kd = none := sb.free hkd
    have sc := sb.new (o := .dK []) hkd
    have hW0 : Paired (WAt (upd (upd (upd (upd (upd H t0 (.tup [])) t1 (.tup [.int size, .ref t0])) wl (.lst [.ref t1])) kd (.dK [])) kd (.dK (mergeK [] [(Sum.inl size, .bl true)])))) [V.ref t1] [(size, [])] := by
      have e1 : TSt (upd (upd H t0 (.tup [])) t1 (.tup [.int size, .ref t0])) (upd (upd (upd (upd (upd H t0 (.tup [])) t1 (.tup [.int size, .ref t0])) wl (.lst [.ref t1])) kd (.dK [])) kd (.dK (mergeK [] [(Sum.inl size, .bl true)]))) :=
        ((same_new hwl).new hkd).ts.trans (tst_upd upd_same (by intro l z; cases z))
      exact .cons ⟨t1, t0, rfl, e1 _ _ upd_same, [], e1 _ _ ((same_new ht1) _ _ upd_same), (fun _ h => by cases h), rfl⟩ .nil
    refine ⟨fun m σ H' => ∃ (wl kd : Addr) (ws : List V) (Wq : Wt) (Kn : List Int) (v4 v5 v6 v7 v8 v9 : Option V), σ = [some (.ref p), some (.int size), some (.ref wl), some (.ref kd), v4, v5, v6, v7, v8, v9] ∧ Same H H' ∧ H wl = none ∧ H kd = none ∧ H' wl = some (.lst ws) ∧ H' kd = some (.dK (kK Kn)) ∧ Paired (WAt H') ws Wq ∧ Bds A m Wq Kn ∧ bfs E st.sh st.fr m Wq Kn = some R,
      ⟨A.length + 1, wl, kd, _, _, [size], none, none, none, none, none, none, rfl, fun b o e => by rw [upd_ne (ne_of_none e hkd0)]; exact sc b o e, hwl0, hkd0, ?_, upd_same, hW0, ⟨by simp, by simp, fun k hk => by rw [List.mem_singleton.mp hk]; exact hsz, fun q hq => by rw [List.mem_singleton.mp hq]; simp⟩, hb⟩, ?_⟩
    · have n1 : wl ≠ kd := ne_of_none upd_same hkd
      rw [upd_ne n1, upd_ne n1, upd_same]
    rintro m σ H1 ⟨wl, kd, ws, Wq, Kn, v4, v5, v6, v7, v8, v9, rfl, s1, hwl0, hkd0, hwl, hkd, hW, hB, hbf⟩
    refine ⟨_, rfl, !ws.isEmpty, .inl ⟨ws, SqL.of hwl, rfl⟩, ?_⟩
    cases hW with
    | nil =>
      have hR : R = [] := by
        cases m <;> (unfold bfs at hbf; exact (Option.some.inj hbf).symm)
      subst hR
      exact iteF ⟨by show 0 ≤ sizeLine; decide, fun t ht => k _ t (s1.new ht) ⟨[], upd_same, (fun _ h => by cases h), rfl⟩⟩
    | @cons x np ws r hw hW =>
      obtain ⟨now, path⟩ := np
      cases m with
      | zero => unfold bfs at hbf; cases hbf
      | succ m =>
        refine iteT ⟨_, fun σ' H' h => ⟨m, Nat.lt_succ_self m, h⟩, ?_⟩
        obtain ⟨a, tp, rfl, ha, hpa⟩ := hw
        have hpa : TRows H1 tp e2 path := hpa
        have hpl : path.length + (m + 1) ≤ A.length + 1 := hB.dep (now, path) (by simp)
        have hknl := hB.knlen
        have hwsl := paired_len hW
        have hB1 := hB.len
        have hlA := hE.la
        simp only [List.length_cons] at hB1
        refine ⟨_, rfl, wl, _, 0, _, rfl, rfl, SqL.of hwl, at_zero, a, _, rfl, SqT.of ha, rfl, _, _, rfl, _, _, rfl, rfl, ?_⟩
        refine ⟨_, rfl, _, rfl, wl, _, rfl, SqL.of hwl, fun wl2 hwl2 => ?_⟩
        rw [cut_one]
        have hws2 : (upd H1 wl2 (.lst ((V.ref a :: ws).drop 1))) wl2 = some (.lst ws) := upd_same
        have s2 := s1.new (o := .lst ((V.ref a :: ws).drop 1)) hwl2
        have hw20 : H wl2 = none := s1.free hwl2
        have hkd2 := (same_new (o := .lst ((V.ref a :: ws).drop 1)) hwl2) _ _ hkd
        have hpa2 := hpa.ts (same_new (o := .lst ((V.ref a :: ws).drop 1)) hwl2).ts
        have hW2 := paired_mono (fun _ _ w => w.ts (same_new (o := .lst ((V.ref a :: ws).drop 1)) hwl2).ts) hW
        generalize upd H1 wl2 (.lst ((V.ref a :: ws).drop 1)) = H2 at hws2 s2 hkd2 hpa2 hW2
        have hnw : ∀ {kk : List Key} {v : V} {i : Nat}, (sK st.sh E)[i]? = some (kk, v) → ∃ e, E[i]? = some e ∧ kk = kE e := fun {kk v i} h => by
          obtain ⟨n, hn, e⟩ := get_map h
          cases e
          exact ⟨n, hn, rfl⟩
        have hsl : (sK st.sh E).length = E.length := fnK_len
        -- is a great free?
        refine ⟨ds, .dT (sK st.sh E), s2 _ _ hs, True.intro, fun od => ?_⟩
        have nps : p ≠ ds := ne_of hp hs (by intro z; cases z)
        have nfs : df ≠ ds := ne_of hf hs (by intro z; cases z)
        have hp3 : (upd H2 ds (.frz od (.dT (sK st.sh E)))) p = some (.ins D.cGv dx [("needs", .ref dn), ("free", .ref df), ("shares", .ref ds)]) := by rw [upd_ne nps]; exact s2 _ _ hp
        have hf3 : (upd H2 ds (.frz od (.dT (sK st.sh E)))) df = some (.dK (gK st.fr B)) := by rw [upd_ne nfs]; exact s2 _ _ hf
        have hs3 : (upd H2 ds (.frz od (.dT (sK st.sh E)))) ds = some (.frz od (.dT (sK st.sh E))) := upd_same
        have ts3 : TSt H2 (upd H2 ds (.frz od (.dT (sK st.sh E)))) := tst_upd (s2 _ _ hs) (by intro l z; cases z)
        have back : ∀ {H8 : Hp}, Same (upd H2 ds (.frz od (.dT (sK st.sh E)))) H8 → Same H2 (upd H8 ds (.dT (sK st.sh E))) := fun s8 => lock_back (s2 _ _ hs) s8
        have tsb : ∀ {H8 : Hp}, Same (upd H2 ds (.frz od (.dT (sK st.sh E)))) H8 → TSt H8 (upd H8 ds (.dT (sK st.sh E))) := fun s8 => tst_upd (s8 _ _ hs3) (by intro l z; cases z)
        generalize upd H2 ds (.frz od (.dT (sK st.sh E))) = H3 at hp3 hf3 hs3 ts3 back tsb ⊢
        refine ⟨_, rfl, p, D.cGv, dx, _, _, rfl, hp3, T.cGv, T.n_shares, rfl, ds, od, rfl, .inr ⟨_, hs3, ?_⟩⟩
        refine for_it (walk_keysT (kvs := sK st.sh E)) (fun i σ H' => H' = H3 ∧ ∃ u v, σ = [some (.ref p), some (.int size), some (.ref wl2), some (.ref kd), some (.int now), some (.ref tp), u, v, v8, v9] ∧ ∀ e ∈ E.take i, (decide (e.1 = now) && decide (0 < st.fr e.2)) = false) ⟨rfl, _, _, rfl, by simp⟩ (fun i σ H' _ ⟨e, _⟩ => by rw [e]; exact hs3) ?_ ?_
        · rintro i x σ H' H'' hi ⟨rfl, u, v, rfl, hno⟩ ⟨rfl, kk, kv, q, hkv, rfl, hq⟩
          obtain ⟨e, he, rfl⟩ := hnw hkv
          have hem := List.mem_of_getElem? he
          refine ⟨q, _, rfl, SqT.of hq, rfl, _, _, rfl, _, _, rfl, rfl, ?_⟩
          refine ⟨_, rfl, _, rfl, rfl, _, rfl, ?_⟩
          by_cases c1 : e.1 = now
          · refine iteT' (decide_eq_true (congrArg V.int c1)) ?_
            refine ⟨_, rfl, p, D.cGv, dx, _, _, rfl, hp3, T.cGv, T.n_free, rfl, _, rfl, df, _, rfl, gK_dget hf3 (hE.snd e hem), _, _, rfl, rfl, _, rfl, ?_⟩
            by_cases c2 : 0 < st.fr e.2
            · refine iteT' (decide_eq_true c2) ?_
              refine cat_path rfl rfl rfl (hpa2.ts ts3) (by omega) fun H8 t s8 hR => ?_
              refine ⟨s8 _ _ hs3, ?_⟩
              have hh : hit E st.fr now = some e := find_first he (by rw [decide_eq_true c1, decide_eq_true c2]; rfl) hno
              have hR2 : R = path ++ [(now, e.2)] := by
                unfold bfs at hbf
                rw [hh] at hbf
                exact (Option.some.inj hbf).symm
              rw [hR2] at k
              exact k _ t (s2.trans (back s8)) (hR.ts (tsb s8))
            · refine iteF' (decide_eq_false c2) ?_
              refine ⟨rfl, _, _, rfl, fun f hf => ?_⟩
              rw [take_succ_of he] at hf
              rcases List.mem_append.mp hf with h | h
              · exact hno f h
              · rw [List.mem_singleton.mp h, decide_eq_false c2, Bool.and_false]
          · refine iteF' (decide_eq_false fun z => c1 (V.int.inj z)) ?_
            refine ⟨rfl, _, _, rfl, fun f hf => ?_⟩
            rw [take_succ_of he] at hf
            rcases List.mem_append.mp hf with h | h
            · exact hno f h
            · rw [List.mem_singleton.mp h, decide_eq_false c1, Bool.false_and]
        rintro σ H' ⟨rfl, u, v, rfl, hno⟩
        rw [hsl, List.take_length] at hno
        have hh : hit E st.fr now = none := by
          refine List.find?_eq_none.mpr fun e he => ?_
          rw [hno e he]; decide
        have hbf2 : bfs E st.sh st.fr m (grow E st.sh now path (r, Kn)).1 (grow E st.sh now path (r, Kn)).2 = some R := by
          unfold bfs at hbf
          rw [hh] at hbf
          exact hbf
        refine ⟨hs3, ?_⟩
        have s4 := s2.trans (back (Same.refl _))
        have ts4 := ts3.trans (tsb (Same.refl _))
        have hwl4 := (back (Same.refl _)) _ _ hws2
        have hkd4 := (back (Same.refl _)) _ _ hkd2
        have hpa4 := hpa2.ts ts4
        have hW4 := paired_mono (fun _ _ w => w.ts ts4) hW2
        clear back tsb hs3 hf3 hp3
        generalize upd H' ds (.dT (sK st.sh E)) = H4 at s4 ts4 hwl4 hkd4 hpa4 hW4 ⊢
        clear ts3 od
        -- who can be reached
        refine ⟨ds, .dT (sK st.sh E), s4 _ _ hs, True.intro, fun od => ?_⟩
        have hbm : Bds A m r Kn := ⟨by omega, hB.nd, hB.sub, fun q hq => by have := hB.dep q (by simp [hq]); omega⟩
        have nw2 : wl2 ≠ ds := fun z => by rw [z, hs] at hw20; cases hw20
        have nk2 : kd ≠ ds := fun z => by rw [z, hs] at hkd0; cases hkd0
        have ts5 : TSt H4 (upd H4 ds (.frz od (.dT (sK st.sh E)))) := tst_upd (s4 _ _ hs) (by intro l z; cases z)
        have L0 : LK H (upd H4 ds (.frz od (.dT (sK st.sh E)))) ds wl2 kd tp od (.dT (sK st.sh E)) A m path ws r Kn :=
          ⟨(Same.x s4).upd, upd_same, by rw [upd_ne nw2]; exact hwl4, by rw [upd_ne nk2]; exact hkd4, paired_mono (fun _ _ w => w.ts ts5) hW4, hbm, hpa4.ts ts5⟩
        generalize upd H4 ds (.frz od (.dT (sK st.sh E))) = H5 at L0 ⊢
        refine ⟨_, rfl, p, D.cGv, dx, _, _, rfl, L0.sx _ _ nps hp, T.cGv, T.n_shares, rfl, ds, od, rfl, .inr ⟨_, L0.lk, ?_⟩⟩
        refine for_it (walk_keysT (kvs := sK st.sh E)) (fun i σ H' => ∃ u v u8 u9 ws' st', σ = [some (.ref p), some (.int size), some (.ref wl2), some (.ref kd), some (.int now), some (.ref tp), u, v, u8, u9] ∧ st' = (E.take i).foldl (step2 E st.sh now path) (r, Kn) ∧ LK H H' ds wl2 kd tp od (.dT (sK st.sh E)) A m path ws' st'.1 st'.2) ⟨_, _, _, _, ws, (r, Kn), rfl, rfl, L0⟩ (fun i σ H' _ ⟨_, _, _, _, _, _, _, _, l⟩ => l.lk) ?_ ?_
        · rintro i x σ H6 H6' hi ⟨u, v, u8, u9, ws6, st6, rfl, hst6, L6⟩ ⟨rfl, kk, kv, q, hkv, rfl, hq⟩
          obtain ⟨e, he, rfl⟩ := hnw hkv
          have hem := List.mem_of_getElem? he
          refine ⟨q, _, rfl, SqT.of hq, rfl, _, _, rfl, _, _, rfl, rfl, ?_⟩
          refine ⟨_, rfl, _, rfl, rfl, _, rfl, ?_⟩
          by_cases c1 : e.1 = now
          · refine iteT' (decide_eq_true (congrArg V.int c1)) ?_
            refine ⟨_, rfl, p, D.cGv, dx, _, _, rfl, L6.sx _ _ nps hp, T.cGv, T.n_shares, rfl, ds, od, rfl, .inr ⟨_, L6.lk, ?_⟩⟩
            refine for_it (walk_keysT (kvs := sK st.sh E)) (fun j σ H' => ∃ u8 u9 ws' st', σ = [some (.ref p), some (.int size), some (.ref wl2), some (.ref kd), some (.int now), some (.ref tp), some (.int e.1), some (.int e.2), u8, u9] ∧ st' = (E.take j).foldl (step1 st.sh now path e.2) st6 ∧ LK H H' ds wl2 kd tp od (.dT (sK st.sh E)) A m path ws' st'.1 st'.2) ⟨_, _, ws6, st6, rfl, rfl, L6⟩ (fun i σ H' _ ⟨_, _, _, _, _, _, l⟩ => l.lk) ?_ ?_
            · rintro j x σ H7 H7' hj ⟨w8, w9, ws7, st7, rfl, hst7, L7⟩ ⟨rfl, kk, kv, q2, hkv2, rfl, hq2⟩
              obtain ⟨f, hf7, rfl⟩ := hnw hkv2
              have hfm := List.mem_of_getElem? hf7
              have hst8 : (E.take (j + 1)).foldl (step1 st.sh now path e.2) st6 = step1 st.sh now path e.2 st7 f := by
                rw [take_succ_of hf7, List.foldl_append, ← hst7]; rfl
              have skip : ∀ {H9 : Hp} {u8 u9 : Option V}, ¬ (f.2 = e.2 ∧ f.1 ∉ st7.2 ∧ 0 < st.sh f) → Same H7' H9 → ∃ v8 v9 ws' st', [some (V.ref p), some (.int size), some (.ref wl2), some (.ref kd), some (.int now), some (.ref tp), some (.int e.1), some (.int e.2), u8, u9] = [some (V.ref p), some (.int size), some (.ref wl2), some (.ref kd), some (.int now), some (.ref tp), some (.int e.1), some (.int e.2), v8, v9] ∧ st' = (E.take (j + 1)).foldl (step1 st.sh now path e.2) st6 ∧ LK H H9 ds wl2 kd tp od (.dT (sK st.sh E)) A m path ws' st'.1 st'.2 := fun {H9 u8 u9} hc s9 => by
                refine ⟨u8, u9, ws7, st7, rfl, ?_, L7.same s9⟩
                rw [hst8]
                unfold step1
                rw [if_neg hc]
              refine ⟨q2, _, rfl, SqT.of hq2, rfl, _, _, rfl, _, _, rfl, rfl, ?_⟩
              refine ⟨_, rfl, _, rfl, rfl, _, rfl, ?_⟩
              by_cases d1 : f.2 = e.2
              · refine iteT' (decide_eq_true (congrArg V.int d1)) ?_
                refine ⟨_, rfl, _, rfl, kd, _, rfl, DGet.k (k := Sum.inl f.1) L7.kn, ?_⟩
                by_cases d2 : f.1 ∈ st7.2
                · rw [fnK_get inlK d2]
                  exact ⟨false, rfl, iteF (skip (fun z => z.2.1 d2) (Same.refl _))⟩
                · rw [fnK_none inlK d2]
                  refine ⟨true, rfl, iteT ?_⟩
                  refine ⟨_, rfl, p, D.cGv, dx, _, _, rfl, L7.sx _ _ nps hp, T.cGv, T.n_shares, rfl, _, rfl, _, rfl, by show 2 ≤ sizeLine; decide, fun t ht => ?_⟩
                  have st8 := same_new (o := .tup [kV (Sum.inl f.1), kV (Sum.inl f.2)]) ht
                  refine ⟨ds, V.int (st.sh f), rfl, .inr ⟨sK st.sh E, kE f, t, .inr ⟨od, st8 _ _ L7.lk⟩, rfl, upd_same, (fnK_get (f := fun e => V.int (st.sh e)) kE_inj hfm).symm⟩, _, _, rfl, rfl, _, rfl, ?_⟩
                  by_cases d3 : 0 < st.sh f
                  · refine iteT' (decide_eq_true d3) ?_
                    have L8 := L7.same st8
                    generalize upd H7' t (.tup [kV (Sum.inl f.1), kV (Sum.inl f.2)]) = H8 at L8 ⊢
                    have hk8 := L8.bd.knlen
                    refine ⟨_, rfl, _, rfl, kd, _, rfl, DPut.k (k := Sum.inl f.1) L8.kn (by rw [fnK_len]; exact small1000 (by omega)), ?_⟩
                    rw [fnK_new (f := fun _ : Int => V.bl true) inlK d2]
                    have tsk : TSt H8 (upd H8 kd (.dK (kK (st7.2 ++ [f.1])))) := tst_upd L8.kn (by intro l z; cases z)
                    have nwk : wl2 ≠ kd := ne_of L8.wl L8.kn (by intro z; cases z)
                    refine ⟨_, rfl, .inl ⟨rfl, _, SqL.of (by rw [upd_ne nwk]; exact L8.wl)⟩, _, rfl, ?_⟩
                    refine cat_path rfl rfl rfl (L8.tp.ts tsk) (by omega) fun H9 t9 s9 hR9 => ⟨by show 2 ≤ sizeLine; decide, fun t10 ht10 => ?_⟩
                    have s10 := s9.new (o := .tup [.int f.1, .ref t9]) ht10
                    have hwl10 := s10 _ _ (show (upd H8 kd (.dK (kK (st7.2 ++ [f.1])))) wl2 = some (.lst ws7) by rw [upd_ne nwk]; exact L8.wl)
                    have hwl9 := s9 _ _ (show (upd H8 kd (.dK (kK (st7.2 ++ [f.1])))) wl2 = some (.lst ws7) by rw [upd_ne nwk]; exact L8.wl)
                    have hkd10 := s10 _ _ (upd_same (H := H8) (a := kd) (o := .dK (kK (st7.2 ++ [f.1]))))
                    have hwlen := paired_len L8.pr
                    have hblen := L8.bd.len
                    refine ⟨wl2, ws7, _, rfl, rfl, hwl10, small1000 (by omega), ?_⟩
                    have tsf : TSt H9 (upd (upd H9 t10 (.tup [.int f.1, .ref t9])) wl2 (.lst (ws7 ++ [.ref t10]))) := (same_new ht10).ts.trans (tst_upd hwl10 (by intro l z; cases z))
                    have tsA : TSt H8 (upd (upd H9 t10 (.tup [.int f.1, .ref t9])) wl2 (.lst (ws7 ++ [.ref t10]))) := tsk.trans (s9.ts.trans tsf)
                    refine ⟨_, _, ws7 ++ [.ref t10], (st7.1 ++ [(f.1, path ++ [(now, e.2)])], st7.2 ++ [f.1]), rfl, ?_, ⟨fun b o n eb => ?_, ?_, upd_same, ?_, paired_snoc (paired_mono (fun _ _ w => w.ts tsA) L8.pr) ⟨t10, t9, rfl, ?_, hR9.ts tsf⟩, ?_, L8.tp.ts tsA⟩⟩
                    · rw [hst8]
                      unfold step1
                      rw [if_pos ⟨d1, d2, d3⟩]
                    · rw [upd_ne (ne_of_none eb hw20)]
                      refine s10 _ _ ?_
                      rw [upd_ne (ne_of_none eb hkd0)]
                      exact L8.sx _ _ n eb
                    · rw [upd_ne nw2.symm]
                      refine s10 _ _ ?_
                      rw [upd_ne nk2.symm]
                      exact L8.lk
                    · rw [upd_ne nwk.symm]; exact hkd10
                    · rw [upd_ne (ne_of_none hwl9 ht10).symm]; exact upd_same
                    · have := L8.bd.step (fun e he => hE.fst e he) (sh := st.sh) (now := now) (g := e.2) (path := path) (by omega) hfm
                      unfold step1 at this
                      rw [if_pos ⟨d1, d2, d3⟩] at this
                      exact this
                  · refine iteF' (decide_eq_false d3) ?_
                    exact skip (fun z => d3 z.2.2) st8
              · refine iteF' (decide_eq_false fun z => d1 (V.int.inj z)) ?_
                exact skip (fun z => d1 z.1) (Same.refl _)
            · rintro σ H7 ⟨w8, w9, ws7, st7, rfl, hst7, L7⟩
              rw [hsl, List.take_length] at hst7
              refine ⟨_, _, _, _, ws7, st7, rfl, ?_, L7⟩
              rw [take_succ_of he, List.foldl_append, ← hst6, hst7]
              show _ = step2 E st.sh now path st6 e
              unfold step2
              rw [if_pos c1]
          · refine iteF' (decide_eq_false fun z => c1 (V.int.inj z)) ?_
            refine ⟨_, _, _, _, ws6, st6, rfl, ?_, L6⟩
            rw [take_succ_of he, List.foldl_append, ← hst6]
            show _ = step2 E st.sh now path st6 e
            unfold step2
            rw [if_neg c1]
        · rintro σ H6 ⟨u, v, u8, u9, ws6, st6, rfl, hst6, L6⟩
          rw [hsl, List.take_length] at hst6
          have hst6 : st6 = grow E st.sh now path (r, Kn) := hst6
          refine ⟨L6.lk, ?_⟩
          have tsb : TSt H6 (upd H6 ds (.dT (sK st.sh E))) := tst_upd L6.lk (by intro l z; cases z)
          refine ⟨wl2, kd, ws6, st6.1, st6.2, _, _, _, _, _, _, rfl, fun b o eb => ?_, hw20, hkd0, by rw [upd_ne nw2]; exact L6.wl, by rw [upd_ne nk2]; exact L6.kn, paired_mono (fun _ _ w => w.ts tsb) L6.pr, L6.bd, by rw [hst6]; exact hbf2⟩
          by_cases z : b = ds
          · subst z
            rw [hs] at eb; cases eb
            exact upd_same
          · rw [upd_ne z]; exact L6.sx _ _ z eb
end
end K64W
set_option Elab.async false
set_option maxRecDepth 100000
set_option maxHeartbeats 4000000
/-! The Giver: one use; all that is given. -/
namespace K64W
open PySem L2 K64 K64R
theorem moved_len : ∀ P : List Ed, (moved P).length = P.length - 1
  | [] => rfl
  | [_] => rfl
  | a :: b :: r => by
    have := moved_len (b :: r)
    rw [moved_two, List.length_cons, this]
    simp
theorem moved_get : ∀ (P : List Ed) {i : Nat} {e : Ed}, (moved P)[i]? = some e → ∃ a b, P[i]? = some a ∧ P[i + 1]? = some b ∧ e = (b.1, a.2)
  | [], i, e, h => by simp [moved] at h
  | [_], i, e, h => by simp [moved] at h
  | a :: b :: r, i, e, h => by
    rw [moved_two] at h
    cases i with
    | zero => exact ⟨a, b, rfl, rfl, by simpa using h.symm⟩
    | succ i =>
      obtain ⟨x, y, h1, h2, h3⟩ := moved_get (b :: r) (i := i) (e := e) (by simpa using h)
      exact ⟨x, y, by simpa using h1, by simpa using h2, h3⟩
theorem at_of {xs : List V} {i : Int} {n : Nat} {v : V} (e : i = n) (h : xs[n]? = some v) : atI xs i = some v := by
  have hl := (List.getElem?_eq_some_iff.mp h).1
  unfold atI ixN
  rw [if_pos (by omega), if_pos (by omega)]
  show xs[i.toNat]? = some v
  rw [e]; exact h
theorem at_last {xs : List V} {v : V} : atI (xs ++ [v]) (-1) = some v := by
  unfold atI ixN
  rw [if_neg (by decide), if_pos (by simp; omega)]
  show (xs ++ [v])[(-1 + ((xs ++ [v]).length : Int)).toNat]? = some v
  rw [show (-1 + ((xs ++ [v]).length : Int)).toNat = xs.length by simp; omega]
  simp
theorem sK_bump {sh : Ed → Int} {E : List Ed} {e : Ed} (h : e ∈ E) (d : Int) : putK (sK sh E) (kE e) (V.int (sh e + d)) = sK (bump sh e d) E := by
  rw [fnK_put kE_inj h]
  refine fnK_congr fun a _ => ?_
  show (if a = e then V.int (sh e + d) else V.int (sh a)) = V.int (if a = e then sh e + d else sh a)
  split <;> rfl
theorem gK_dec {f : Int → Int} {ns : List Int} {k : Int} (h : k ∈ ns) (d : Int) : putK (gK f ns) (Sum.inl k) (V.int (f k - d)) = gK (dec f k d) ns := by
  rw [fnK_put inlK h]
  refine fnK_congr fun a _ => ?_
  show (if a = k then V.int (f k - d) else V.int (f a)) = V.int (if a = k then f k - d else f a)
  split <;> rfl
theorem sK_dget {H : Hp} {d t : Addr} {sh : Ed → Int} {E : List Ed} {e : Ed} (h : Rd H d (.dT (sK sh E))) (he : e ∈ E) (ht : H t = some (.tup [.int e.1, .int e.2])) : DGet H d (.ref t) (some (.int (sh e))) :=
  .inr ⟨sK sh E, kE e, t, h, rfl, ht, (fnK_get (f := fun e => V.int (sh e)) kE_inj he).symm⟩
/-- all but the Giver's dicts -/
def S3 (dn df ds : Addr) (H H' : Hp) : Prop := ∀ b o, b ≠ dn → b ≠ df → b ≠ ds → H b = some o → H' b = some o
theorem S3.refl {dn df ds : Addr} {H : Hp} : S3 dn df ds H H := fun _ _ _ _ _ e => e
theorem S3.trans {dn df ds : Addr} {H H1 H2 : Hp} (a : S3 dn df ds H H1) (b : S3 dn df ds H1 H2) : S3 dn df ds H H2 := fun c o h1 h2 h3 e => b c o h1 h2 h3 (a c o h1 h2 h3 e)
theorem s3_of {dn df ds : Addr} {H H' : Hp} (a : Same H H') : S3 dn df ds H H' := fun c o _ _ _ e => a c o e
theorem s3_ds {dn df ds : Addr} {H H' : Hp} (a : SameX ds H H') : S3 dn df ds H H' := fun c o _ _ n e => a c o n e
section
variable {P : Program} {w : World} {K : PySem.W.Frag} {mg : Str → Option Value} {base : Heap} {D : Ad}
def spGvUse (D : Ad) : Sp := fun vs H Q _ => ∃ (p dn df ds : Addr) (size : Int) (A B : List Int) (E : List Ed) (st : GS) (R : List Ed) (last : Int), vs = [.ref p, .int size] ∧ GvAt D H p dn df ds A B E st ∧ EdOk A B E ∧ size ∈ A ∧ bfs E st.sh st.fr (A.length + 1) [(size, [])] [size] = some R ∧ IsPath E st.sh st.fr size R last ∧
  ∀ H', S3 dn df ds H H' → GvAt D H' p dn df ds A B E (st.push size R last (mn (st.nd size :: st.fr last :: (moved R).map st.sh))) → Q .non H'
abbrev nGvUse : List Str := ["self", "size", "path", "moved", "amount", "pair", "at"]
theorem sc_gvUse : FnScope nGvUse ["self", "size"] (defScope s_gvUse) := ⟨rfl, rfl, rfl, by decide +kernel, rfl, by decide +kernel, by decide +kernel⟩
theorem ok_gvUse (T : Txt K mg D) : FnOk P w K mg base CX0 2 D.f_gvUse D.d_gvUse ["self", "size"] (spGvUse D) := by
  refine T.F_gvUse.ok sc_gvUse (fun vs H Q E h => ?_) (fun cdv A outer s H vs Q E hr h => ?_)
  · obtain ⟨p, dn, df, ds, size, A, B, E, st, R, last, rfl, _⟩ := h
    rfl
  · obtain ⟨p, dn, df, ds, size, A, B, E, st, R, last, rfl, hG, hE, hsz, hb, hP, k⟩ := h
    have hu := hu_of hr
    have nd := sc_gvUse.nd
    have hr1 : Room 1 _ := hr.mono (by decide)
    refine ⟨_, pss_cons (ps_set (i := 2) nd rfl (Or.inr rfl) (pe_meth (pv 0) T.cGv T.M_gvPath (ok_gvPath T) hr1 (b_gvPath T) .nil pass0 (pa_cons (pv 1) pa_nil)))
      (pss_cons (ps_setLc (i := 3) (own := [("at", 6)]) (g := gName 6) (by rfl) nd rfl rfl (by rfl) (pi_range1 (by rfl) T.b_range (pa_cons (pe_op op_sub (pe_callB call_len_seq (by rfl) T.b_len (by decide +kernel) (pa_cons (pv 2) pa_nil)) pe_int) pa_nil))
          (blkOk_by (N := nGvUse) (sc := defScope s_gvUse) (own := [("at", 6)]) (by decide +kernel))
          (fun _ _ _ _ _ => pg_name (i := 6) nd rfl (Or.inl rfl)) (fun _ _ _ _ _ => pts_nil)
          (fun _ _ _ _ _ => by exact pe_tup (pa_cons (ixtK K (ixtK K (pv 2) (pe_op op_add (pv 6) pe_int)) pe_int) (pa_cons (ixtK K (ixtK K (pv 2) (pv 6)) pe_int) pa_nil))))
      (pss_cons (ps_set (i := 4) nd rfl (Or.inl rfl) (pe_callB (minK K) (by rfl) T.b_min (by decide +kernel) (pa_cons (pe_op op_cat
          (pe_lst (pa_cons (pe_dget hu (pe_fld (pv 0) rfl) (pv 1) (fun _ _ => rfl)) (pa_cons (pe_dget hu (pe_fld (pv 0) rfl) (pe_ix ix_tup (pe_ix ix_tup (pv 2) (pe_un un_neg pe_int) (fun _ _ => rfl)) pe_int (fun _ _ => rfl)) (fun _ _ => rfl)) pa_nil)))
          (pe_lc (own := [("pair", 5)]) (g := gName 5) (by rfl) nd (pi_list (pv 3))
            (blkOk_by (N := nGvUse) (sc := defScope s_gvUse) (own := [("pair", 5)]) (by decide +kernel))
            (fun _ _ _ _ _ => pg_name (i := 5) nd rfl (Or.inl rfl)) (fun _ _ _ _ _ => pts_nil)
            (fun _ _ _ _ _ => by exact pe_dget (by exact hu) (fldK K (pv 0)) (pv 5) (fun _ _ => rfl)))) pa_nil)))
      (pss_cons (ps_for PassesOwn.never rfl (pi_tup (pv 2)) (pg_name (i := 5) nd rfl (Or.inl rfl)) (pss_one (ps_daug hu (pe_fld (pv 0) rfl) (pv 5) (pv 4) in_add (fun _ _ _ => rfl))))
      (pss_cons (ps_for PassesOwn.never rfl (pi_list (pv 3)) (pg_name (i := 5) nd rfl (Or.inl rfl)) (pss_one (ps_daug hu (pe_fld (pv 0) rfl) (pv 5) (pv 4) in_sub (fun _ _ _ => rfl))))
      (pss_cons (ps_daug hu (pe_fld (pv 0) rfl) (pv 1) (pv 4) in_sub (fun _ _ _ => rfl))
      (pss_one (ps_daug hu (pe_fld (pv 0) rfl) (pe_ix ix_tup (pe_ix ix_tup (pv 2) (pe_un un_neg pe_int) (fun _ _ => rfl)) pe_int (fun _ _ => rfl)) (pv 4) in_sub (fun _ _ _ => rfl)))))))), ?_⟩
    obtain ⟨⟨dx, hp⟩, hn, hf, hs, hne⟩ := id hG
    refine ⟨_, rfl, p, dx, _, rfl, hp, rfl, _, rfl, p, dn, df, ds, size, A, B, E, st, R, rfl, hG, hE, hsz, hb, fun H1 t s1 hR => ?_⟩
    obtain ⟨g0, r0, hRh⟩ := hP.head
    obtain ⟨sl, rl, hRl⟩ := hP.lst
    have hRlen : R.length ≤ 27 := by
      have h1 := length_le_of_nodup hP.nodup (m := A) fun a ha => by
        obtain ⟨e, he, rfl⟩ := List.mem_map.mp ha
        exact hE.fst e (hP.mem e he)
      rw [List.length_map] at h1
      have := hE.la
      omega
    have hRpos : 1 ≤ R.length := by rw [hRh]; simp
    have hmle := moved_len R
    have hMmem : ∀ e ∈ moved R, e ∈ E := fun e he => (hP.mv e he).1
    obtain ⟨ks, ht, hks, hk2⟩ := hR
    have hkl := ks_len hk2
    have hget : ∀ {i : Nat} {e : Ed}, R[i]? = some e → ∃ q, (ks.map fun p => V.ref p.1)[i]? = some (.ref q) ∧ H1 q = some (.tup [.int e.1, .int e.2]) := fun {i e} h => by
      rw [← hk2, List.getElem?_map] at h
      obtain ⟨q, hq, e2⟩ := Option.map_eq_some_iff.mp h
      refine ⟨q.1, by rw [List.getElem?_map, hq]; rfl, ?_⟩
      rw [hks q (List.mem_of_getElem? hq), e2]
    -- the moved ones
    refine ⟨_, rfl, t, _, rfl, .inr (SqT.of ht), _, _, rfl, rfl, _, rfl, by rw [List.length_map]; omega, by rw [List.length_map]; omega, fun lm hlm => ?_⟩
    refine lc_rows walk_range (moved R) (fun _ => true) e2 (fun e => e) (by rw [List.length_map]; omega) (by omega) hlm (fun _ _ => True.intro) (fun i x e H2 H2' he s2 y => ?_) (fun H2 s2 R2 => ?_)
    · obtain ⟨rfl, rfl⟩ := y
      refine ⟨Same.refl _, turn_name rfl yes_of fun _ H3 s3 Q' hQ => ?_⟩
      obtain ⟨a, b, ha, hb, rfl⟩ := moved_get R he
      obtain ⟨qa, ha1, ha2⟩ := hget ha
      obtain ⟨qb, hb1, hb2⟩ := hget hb
      have sT := s2.trans s3
      refine ⟨_, rfl, _, rfl, _, _, rfl, rfl, t, _, _, _, rfl, rfl, SqT.of (sT _ _ ht), at_of (n := i + 1) (by simp) hb1, qb, _, 0, _, rfl, rfl, SqT.of (sT _ _ hb2), at_zero, ?_⟩
      refine ⟨_, rfl, _, rfl, t, _, _, _, rfl, rfl, SqT.of (sT _ _ ht), at_of (n := i) (by simp) ha1, qa, _, 1, _, rfl, rfl, SqT.of (sT _ _ ha2), at_of (n := 1) rfl rfl, by show 2 ≤ sizeLine; decide, fun u hu => ?_⟩
      exact hQ _ _ (same_new hu) ⟨u, rfl, upd_same⟩
    rw [filter_yes, List.map_id'] at R2
    obtain ⟨km, hlm2, hkm, hkm2⟩ := R2
    have hkml := ks_len hkm2
    have s12 := s1.trans s2
    -- the amount
    have hlastE : (sl, last) ∈ E := hP.mem _ (by rw [hRl]; simp)
    have hlastG : ∃ q, (∃ xs, (ks.map fun p => V.ref p.1) = xs ++ [V.ref q]) ∧ H1 q = some (.tup [.int sl, .int last]) := by
      have : ks ≠ [] := fun z => by rw [z] at hkl; simp at hkl; omega
      refine ⟨(ks.getLast this).1, ⟨ks.dropLast.map fun p => V.ref p.1, ?_⟩, ?_⟩
      · conv => lhs; rw [← List.dropLast_concat_getLast this]
        rw [List.map_append]; rfl
      · have h1 := hks _ (List.getLast_mem this)
        have h2 : (ks.getLast this).2 = (sl, last) := by
          have e1 : (ks.map (·.2)).getLast? = some (sl, last) := by rw [hk2, hRl]; simp
          rw [List.getLast?_map, List.getLast?_eq_getLast this] at e1
          simpa using e1
        rw [h1, h2]
    obtain ⟨ql, ⟨xl, hxl⟩, hql⟩ := hlastG
    have ht2 := s2 _ _ ht
    rw [hxl] at ht2
    refine ⟨_, rfl, p, D.cGv, dx, _, _, rfl, s12 _ _ hp, T.cGv, T.n_needs, rfl, _, rfl, dn, _, rfl, gK_dget (s12 _ _ hn) hsz, ?_⟩
    refine ⟨_, rfl, p, D.cGv, dx, _, _, rfl, s12 _ _ hp, T.cGv, T.n_free, rfl, _, rfl, _, rfl, t, _, _, _, rfl, rfl, SqT.of ht2, at_last, ql, _, 1, _, rfl, rfl, SqT.of (s2 _ _ hql), at_of (n := 1) rfl rfl, df, _, rfl, gK_dget (s12 _ _ hf) (hE.snd _ hlastE), ?_⟩
    refine ⟨by show 2 ≤ sizeLine; decide, fun l3 hl3 => ?_⟩
    have s3 := same_new (o := .lst [.int (st.nd size), .int (st.fr last)]) hl3
    refine ⟨_, rfl, lm, rfl, ⟨_, SqL.of (s3 _ _ hlm2)⟩, fun D4 hD4 => ?_⟩
    refine lc_pure (walk_list (xs := km.map fun p => V.ref p.1)) (moved R) (fun _ => true) V.int (fun e => st.sh e) (by rw [List.length_map, hkml]) (by omega) hD4 (fun H' s' => SqL.of (s' _ _ (s3 _ _ hlm2))) (fun i x e H4 H4' he s4 y => ?_) (fun H4 s4 h4 => ?_)
    · obtain ⟨rfl, q, hq, rfl, rfl⟩ := src_rows hkm2 he y
      refine ⟨Same.refl _, turn_name rfl yes_of fun _ H5 s5 Q' hQ => ?_⟩
      have sT := (s3.trans s4).trans s5
      exact ⟨_, rfl, p, D.cGv, dx, _, _, rfl, sT _ _ (s12 _ _ hp), T.cGv, T.n_shares, rfl, _, rfl, ds, _, rfl, sK_dget (.inl (sT _ _ (s12 _ _ hs))) (hMmem _ (List.mem_of_getElem? he)) (sT _ _ (hkm q hq)), hQ _ _ (Same.refl _) rfl⟩
    rw [filter_yes] at h4
    have hl34 := s4 _ _ (upd_same (H := H2) (a := l3) (o := .lst [.int (st.nd size), .int (st.fr last)]))
    refine ⟨l3, D4, _, _, rfl, rfl, hl34, h4, ?_, fun l5 hl5 => ?_⟩
    · rw [List.length_map, List.length_map]
      exact Nat.le_of_lt (small1000 (by simp; omega))
    have s5 := (s3.trans s4).new (o := .lst ([.int (st.nd size), .int (st.fr last)] ++ ((moved R).map fun e => st.sh e).map V.int)) hl5
    refine ⟨l5, st.nd size :: st.fr last :: (moved R).map st.sh, rfl, SqL.of upd_same, by simp, fun d hd hdle => ?_⟩
    have hdm : d = mn (st.nd size :: st.fr last :: (moved R).map st.sh) := mn_eq hd hdle
    rw [← hdm] at k
    clear hdm hd hdle
    have s6 := s12.trans s5
    have hp6 := s6 _ _ hp
    have hn6 := s6 _ _ hn
    have hf6 := s6 _ _ hf
    have hs6 := s6 _ _ hs
    have ht6 := (s2.trans s5) _ _ ht
    have hql6 := (s2.trans s5) _ _ hql
    have hks6 : ∀ q ∈ ks, _ := fun q hq => (s2.trans s5) _ _ (hks q hq)
    have hlm6 := s5 _ _ hlm2
    have hkm6 : ∀ q ∈ km, _ := fun q hq => s5 _ _ (hkm q hq)
    generalize upd H4 l5 (.lst ([.int (st.nd size), .int (st.fr last)] ++ ((moved R).map fun e => st.sh e).map V.int)) = H6 at s6 hp6 hn6 hf6 hs6 ht6 hql6 hks6 hlm6 hkm6 ⊢
    have hsl : ∀ sh : Ed → Int, (sK sh E).length < sizeLine := fun sh => by
      rw [fnK_len]; have := hE.le; exact small1000 (by omega)
    have npd : p ≠ ds := ne_of hp6 hs6 (by intro z; cases z)
    have tup_ne : ∀ {b l}, H6 b = some (HO.tup l) → b ≠ ds := fun h => ne_of h hs6 (by intro z; cases z)
    -- along the path
    refine ⟨_, rfl, t, rfl, ⟨_, SqT.of ht6⟩, for_tup (K := K) (a := t) (xs := ks.map fun p => V.ref p.1)
      (fun i σ H' => ∃ v5, σ = [some (.ref p), some (.int size), some (.ref t), some (.ref lm), some (.int d), v5, none] ∧ SameX ds H6 H' ∧ H' ds = some (.dT (sK (bumps st.sh (R.take i) d) E))) ⟨none, rfl, (Same.refl _).x, hs6⟩ (fun i σ H' _ ⟨_, _, s, _⟩ => SqT.of (s _ _ (tup_ne ht6) ht6)) ?_ ?_⟩
    · rintro i x σ H7 hx ⟨v5, rfl, s7, hs7⟩
      obtain ⟨q, hq, hqm, rfl, hRi⟩ := ks_get hk2 hx
      have hqE := hP.mem _ (List.mem_of_getElem? hRi)
      have hq7 := s7 _ _ (tup_ne (hks6 q hqm)) (hks6 q hqm)
      refine ⟨_, rfl, p, D.cGv, dx, _, _, rfl, s7 _ _ npd hp6, T.cGv, T.n_shares, rfl, _, rfl, ds, _, rfl, sK_dget (.inl hs7) hqE hq7, _, rfl, _, _, rfl, rfl, _, DPut.t (k := kE q.2) hs7 hq7 (hsl _), ?_⟩
      rw [sK_bump hqE]
      refine ⟨_, rfl, s7.upd, ?_⟩
      rw [upd_same, take_succ_of hRi]
      unfold bumps
      rw [List.foldl_append]
      rfl
    rintro σ H7 ⟨v5, rfl, s7, hs7⟩
    rw [List.length_map, hkl, List.take_length] at hs7
    have nmd : lm ≠ ds := ne_of hlm6 hs6 (by intro z; cases z)
    -- back along it
    refine ⟨_, rfl, lm, rfl, ⟨_, SqL.of (s7 _ _ nmd hlm6)⟩, for_list (K := K) (a := lm) (xs := km.map fun p => V.ref p.1)
      (fun i σ H' => ∃ v5, σ = [some (.ref p), some (.int size), some (.ref t), some (.ref lm), some (.int d), v5, none] ∧ SameX ds H6 H' ∧ H' ds = some (.dT (sK (bumps (bumps st.sh R d) ((moved R).take i) (-d)) E))) ⟨v5, rfl, s7, hs7⟩ (fun i σ H' _ ⟨_, _, s, _⟩ => SqL.of (s _ _ nmd hlm6)) ?_ ?_⟩
    · rintro i x σ H8 hx ⟨v5, rfl, s8, hs8⟩
      obtain ⟨q, hq, hqm, rfl, hRi⟩ := ks_get hkm2 hx
      have hqE := hMmem _ (List.mem_of_getElem? hRi)
      have hq7 := s8 _ _ (tup_ne (hkm6 q hqm)) (hkm6 q hqm)
      refine ⟨_, rfl, p, D.cGv, dx, _, _, rfl, s8 _ _ npd hp6, T.cGv, T.n_shares, rfl, _, rfl, ds, _, rfl, sK_dget (.inl hs8) hqE hq7, _, rfl, _, _, rfl, rfl, _, DPut.t (k := kE q.2) hs8 hq7 (hsl _), ?_⟩
      rw [Int.sub_eq_add_neg, sK_bump hqE]
      refine ⟨_, rfl, s8.upd, ?_⟩
      rw [upd_same, take_succ_of hRi]
      have : ∀ (f : Ed → Int) (l : List Ed) (e : Ed) (x : Int), bumps f (l ++ [e]) x = bump (bumps f l x) e x := fun f l e x => by
        unfold bumps; rw [List.foldl_append]; rfl
      rw [this]
    rintro σ H8 ⟨v5, rfl, s8, hs8⟩
    rw [List.length_map, hkml, List.take_length] at hs8
    have nnd : dn ≠ ds := ne_of hn6 hs6 (by intro z; cases z)
    have nfd : df ≠ ds := ne_of hf6 hs6 (by intro z; cases z)
    have npn : p ≠ dn := ne_of hp6 hn6 (by intro z; cases z)
    have npf : p ≠ df := ne_of hp6 hf6 (by intro z; cases z)
    have hA1 : (gK st.nd A).length < sizeLine := by rw [fnK_len]; have := hE.la; exact small1000 (by omega)
    have hB1 : (gK st.fr B).length < sizeLine := by rw [fnK_len]; have := hE.lb; exact small1000 (by omega)
    have hn8 := s8 _ _ nnd hn6
    refine ⟨_, rfl, p, D.cGv, dx, _, _, rfl, s8 _ _ npd hp6, T.cGv, T.n_needs, rfl, _, rfl, dn, _, rfl, gK_dget hn8 hsz, _, rfl, _, _, rfl, rfl, _, DPut.k (k := Sum.inl size) hn8 hA1, ?_⟩
    rw [gK_dec hsz]
    have keep : ∀ {b o}, b ≠ dn → b ≠ ds → H6 b = some o → (upd H8 dn (.dK (gK (dec st.nd size d) A))) b = some o := fun n1 n2 e => by
      rw [upd_ne n1]; exact s8 _ _ n2 e
    have tn : ∀ {b l}, H6 b = some (HO.tup l) → b ≠ dn := fun h => ne_of h hn6 (by intro z; cases z)
    have hf9 := keep hne.symm nfd hf6
    have ht9 := keep (tn ht6) (tup_ne ht6) ht6
    rw [hxl] at ht9
    refine ⟨_, rfl, p, D.cGv, dx, _, _, rfl, keep npn npd hp6, T.cGv, T.n_free, rfl, _, rfl, _, rfl, t, _, _, _, rfl, rfl, SqT.of ht9, at_last, ql, _, 1, _, rfl, rfl, SqT.of (keep (tn hql6) (tup_ne hql6) hql6), at_of (n := 1) rfl rfl, df, _, rfl, gK_dget hf9 (hE.snd _ hlastE), _, rfl, _, _, rfl, rfl, _, DPut.k (k := Sum.inl last) hf9 hB1, ?_⟩
    rw [gK_dec (hE.snd _ hlastE)]
    refine k _ (fun b o n1 n2 n3 e => ?_) ⟨⟨dx, ?_⟩, ?_, upd_same, ?_, hne⟩
    · rw [upd_ne n2]; exact keep n1 n3 (s6 _ _ e)
    · rw [upd_ne npf]; exact keep npn npd hp6
    · rw [upd_ne hne]; exact upd_same
    · rw [upd_ne nfd.symm, upd_ne nnd.symm]; exact hs8
end
end K64W
set_option Elab.async false
set_option maxRecDepth 100000
set_option maxHeartbeats 4000000
/-! The Giver: all that is given. -/
namespace K64W
open PySem L2 K64 K64R
section
variable {P : Program} {w : World} {K : PySem.W.Frag} {mg : Str → Option Value} {base : Heap} {D : Ad}
theorem keys_len (A : List Pr) : (keys A).length = A.length := List.length_map ..
theorem edOk {A B : List Pr} (hA : Shp A) (hB : Shp B) (la : A.length ≤ 27) (lb : B.length ≤ 27) : EdOk (keys A) (keys B) (edges A B) where
  fst := fun e he => (mem_edges.mp he).1
  snd := fun e he => (mem_edges.mp he).2.1
  la := by rw [keys_len]; exact la
  lb := by rw [keys_len]; exact lb
  le := by
    have h1 := edges_len A B
    have h2 : A.length * B.length ≤ 27 * 27 := Nat.mul_le_mul la lb
    omega
  nd := edges_nodup hA hB
def spGvGiven (D : Ad) : Sp := fun vs H Q _ => ∃ (p dn df ds : Addr) (A B : List Pr) (rows : List Tri), vs = [.ref p] ∧ GvAt D H p dn df ds (keys A) (keys B) (edges A B) (st0 A B) ∧ Shp A ∧ Shp B ∧ A.length ≤ 27 ∧ B.length ≤ 27 ∧ bare A B = none ∧ few A B = none ∧ giv A B = some rows ∧
  ∀ H' l, S3 dn df ds H H' → Rows H' l e3 rows → Q (.ref l) H'
abbrev nGvGiven : List Str := ["self", "size", "great", "least", "late"]
theorem sc_gvGiven : FnScope nGvGiven ["self"] (defScope s_gvGiven) := ⟨rfl, rfl, rfl, by decide +kernel, rfl, by decide +kernel, by decide +kernel⟩
theorem ok_gvGiven (T : Txt K mg D) : FnOk P w K mg base CX0 3 D.f_gvGiven D.d_gvGiven ["self"] (spGvGiven D) := by
  refine T.F_gvGiven.ok sc_gvGiven (fun vs H Q E h => ?_) (fun cdv A outer s H vs Q E hr h => ?_)
  · obtain ⟨p, dn, df, ds, A, B, rows, rfl, _⟩ := h
    rfl
  · obtain ⟨p, dn, df, ds, A, B, rows, rfl, hG, hA, hB, la, lb, hba, hfe, hgi, k⟩ := h
    have hu := hu_of hr
    have nd := sc_gvGiven.nd
    have hr2 : Room 2 _ := hr.mono (by decide)
    refine ⟨_, pss_cons (ps_for PassesOwn.never rfl (pi_list (pe_callTy (call_list_dK (by rfl)) (by rfl) T.b_list (by decide +kernel) (pa_cons (pe_fld (pv 0) rfl) pa_nil))) (pg_name (i := 1) nd rfl (Or.inl rfl))
        (pss_one (ps_while PassesOwn.never (pt_cmpR op_gt (pe_dget hu (pe_fld (pv 0) rfl) (pv 1) (fun _ _ => rfl)) pe_int (nomark _))
          (pss_one (ps_expr (pe_meth (pv 0) T.cGv T.M_gvUse (ok_gvUse T) hr2 (b_gvUse T) .nil pass0 (pa_cons (pv 1) pa_nil)))))))
      (pss_cons (ps_for PassesOwn.never rfl (pi_list (pe_callTy (call_list_dK (by rfl)) (by rfl) T.b_list (by decide +kernel) (pa_cons (pe_fld (pv 0) rfl) pa_nil))) (pg_name (i := 2) nd rfl (Or.inr rfl))
        (pss_cons (ps_set (i := 3) nd rfl (Or.inl rfl) (pe_callB (minK K) (by rfl) T.b_min (by decide +kernel) (pa_cons (pe_lock (pe_lc (own := [("size", 1), ("late", 4)]) (g := gTup K 2 (gCons (gName 1) (gCons (gName 4) gNil))) (by rfl) nd (pi_keys (pe_fld (pv 0) rfl))
            (blkOk_by (N := nGvGiven) (sc := defScope s_gvGiven) (own := [("size", 1), ("late", 4)]) (by decide +kernel))
            (fun _ _ _ _ _ => by exact tupK K rfl (pgs_cons (pg_name (i := 1) nd rfl (Or.inl rfl)) (pgs_cons (pg_name (i := 4) nd rfl (Or.inl rfl)) pgs_nil)))
            (fun _ _ _ _ _ => pts_one (pt_cmpR op_eq (pv 4) (pv 2) (nomark _)))
            (fun _ _ _ _ _ => pv 1))) pa_nil)))
        (pss_one (ps_daug hu (pe_fld (pv 0) rfl) (pe_tup (pa_cons (pv 3) (pa_cons (pv 2) pa_nil))) (pe_dget hu (pe_fld (pv 0) rfl) (pv 2) (fun _ _ => rfl)) in_add (fun _ _ _ => rfl)))))
      (pss_one (ps_ret (pe_lock (pe_lc (own := [("size", 1), ("great", 2)]) (g := gTup K 2 (gCons (gName 1) (gCons (gName 2) gNil))) (by rfl) nd (pi_keys (pe_fld (pv 0) rfl))
            (blkOk_by (N := nGvGiven) (sc := defScope s_gvGiven) (own := [("size", 1), ("great", 2)]) (by decide +kernel))
            (fun _ _ _ _ _ => by exact tupK K rfl (pgs_cons (pg_name (i := 1) nd rfl (Or.inl rfl)) (pgs_cons (pg_name (i := 2) nd rfl (Or.inl rfl)) pgs_nil)))
            (fun _ _ _ _ _ => pts_nil)
            (fun _ _ _ _ _ => by exact pe_tup (pa_cons (pv 1) (pa_cons (pv 2) (pa_cons (pe_dget (by exact hu) (fldK K (pv 0)) (pe_tup (pa_cons (pv 1) (pa_cons (pv 2) pa_nil))) (fun _ _ => rfl)) pa_nil))))))))), ?_⟩
    obtain ⟨⟨dx, hp⟩, hn, hf, hs, hne⟩ := id hG
    have hE := edOk hA hB la lb
    generalize hEE : edges A B = E at hG hE hs
    have nps : p ≠ ds := ne_of hp hs (by intro z; cases z)
    have npn : p ≠ dn := ne_of hp hn (by intro z; cases z)
    have npf : p ≠ df := ne_of hp hf (by intro z; cases z)
    have gself : ∀ {H' : Hp}, S3 dn df ds H H' → H' p = some (.ins D.cGv dx [("needs", .ref dn), ("free", .ref df), ("shares", .ref ds)]) := fun s => s _ _ npn npf nps hp
    have gke : ∀ (f : Int → Int) (ns : List Int), (gK f ns).map (fun kv => kV kv.1) = ns.map V.int := fun f ns => by
      show (ns.map _).map _ = _
      rw [List.map_map]; rfl
    have hgi2 : ∃ st, drains E (A.length + 1) (keys A) (st0 A B) = some st ∧ rows = tris E (fin E st.fr (keys B) st.sh) := by
      unfold giv at hgi
      rw [hEE] at hgi
      obtain ⟨st, h1, h2⟩ := Option.map_eq_some_iff.mp hgi
      exact ⟨st, h1, h2.symm⟩
    obtain ⟨stE, hdr, hrows⟩ := hgi2
    have F0 : Fl A B E (st0 A B) := by
      have z1 : ∀ s, row E (st0 A B).sh s = 0 := fun s => tot_zero fun e _ => by show (if _ then (0 : Int) else 0) = 0; split <;> rfl
      have z2 : ∀ s, col E (st0 A B).sh s = 0 := fun s => tot_zero fun e _ => by show (if _ then (0 : Int) else 0) = 0; split <;> rfl
      refine ⟨fun p hp => ?_, fun p hp => ?_, fun p hp => ?_, fun p hp => ?_, fun e _ => Int.le_refl _⟩
      · rw [z1]; show cnt A p.1 + 0 = p.2; rw [cnt_of hA.nodup hp]; omega
      · show 0 ≤ cnt A p.1; rw [cnt_of hA.nodup hp]; have := hA.pos p hp; omega
      · rw [z2]; show cnt B p.1 + 0 = p.2; rw [cnt_of hB.nodup hp]; omega
      · show 0 ≤ cnt B p.1; rw [cnt_of hB.nodup hp]; have := hB.pos p hp; omega
    -- the uses
    refine ⟨_, rfl, p, D.cGv, dx, _, _, rfl, hp, T.cGv, T.n_needs, rfl, dn, _, rfl, hn, fun l1 hl1 => ?_⟩
    rw [gke]
    have hl10 : (upd H l1 (.lst ((keys A).map V.int))) l1 = some (.lst ((keys A).map V.int)) := upd_same
    have s1 : S3 dn df ds H (upd H l1 (.lst ((keys A).map V.int))) := s3_of (same_new hl1)
    have hG1 := hG.same (same_new (o := .lst ((keys A).map V.int)) hl1)
    generalize upd H l1 (.lst ((keys A).map V.int)) = H1 at hl10 s1 hG1 ⊢
    have nl1 : l1 ≠ dn ∧ l1 ≠ df ∧ l1 ≠ ds := ⟨ne_of hl10 hG1.nd (by intro z; cases z), ne_of hl10 hG1.fr (by intro z; cases z), ne_of hl10 hG1.sh (by intro z; cases z)⟩
    refine ⟨l1, rfl, ⟨_, SqL.of hl10⟩, for_list (K := K) (a := l1) (xs := (keys A).map V.int)
      (fun i σ H' => ∃ v1 st, σ = [some (.ref p), v1, none, none, none] ∧ S3 dn df ds H1 H' ∧ GvAt D H' p dn df ds (keys A) (keys B) E st ∧ Fl A B E st ∧ drains E (A.length + 1) ((keys A).drop i) st = some stE) ⟨none, st0 A B, rfl, S3.refl, hG1, F0, hdr⟩ (fun i σ H' _ ⟨_, _, _, s, _⟩ => SqL.of (s _ _ nl1.1 nl1.2.1 nl1.2.2 hl10)) ?_ ?_⟩
    · rintro i x σ H2 hx ⟨v1, st, rfl, s2, hG2, F2, hd2⟩
      obtain ⟨n, hn2, rfl⟩ := get_map hx
      have hnA : n ∈ keys A := List.mem_of_getElem? hn2
      have hd3 : ∃ st1, drain E (A.length + 1) n (st.nd n).toNat st = some st1 ∧ drains E (A.length + 1) ((keys A).drop (i + 1)) st1 = some stE := by
        have e : (keys A).drop i = n :: (keys A).drop (i + 1) := by
          rw [List.drop_eq_getElem_cons (get_lt hn2)]
          rw [(List.getElem?_eq_some_iff.mp hn2).2]
        rw [e] at hd2
        unfold drains at hd2
        obtain ⟨st1, h1, h2⟩ := Option.bind_eq_some_iff.mp hd2
        exact ⟨st1, h1, h2⟩
      obtain ⟨st1, hd4, hd5⟩ := hd3
      refine ⟨fun m σ H' => ∃ st', σ = [some (.ref p), some (.int n), none, none, none] ∧ S3 dn df ds H1 H' ∧ GvAt D H' p dn df ds (keys A) (keys B) E st' ∧ Fl A B E st' ∧ drain E (A.length + 1) n m st' = some st1, ⟨_, st, rfl, s2, hG2, F2, hd4⟩, ?_⟩
      rintro m σ H3 ⟨st', rfl, s3, hG3, F3, hd6⟩
      refine ⟨_, rfl, p, D.cGv, dx, _, _, rfl, gself (s1.trans s3), T.cGv, T.n_needs, rfl, _, rfl, dn, _, rfl, gK_dget hG3.nd hnA, _, _, rfl, rfl, _, rfl, ?_⟩
      by_cases c : 0 < st'.nd n
      · refine iteT' (decide_eq_true c) ?_
        cases m with
        | zero => unfold drain at hd6; rw [if_pos c] at hd6; cases hd6
        | succ m =>
          refine ⟨_, fun σ' H' h => ⟨m, Nat.lt_succ_self m, h⟩, ?_⟩
          unfold drain at hd6
          rw [if_pos c] at hd6
          have huo := use_ok hA hB hfe (by rw [hEE]; exact F3) hnA c
          rw [hEE] at huo
          obtain ⟨R, last, st2, hb, hP, e2, hu2, F4, _⟩ := huo
          rw [hu2] at hd6
          have hd6 : drain E (A.length + 1) n m st2 = some st1 := hd6
          refine ⟨_, rfl, p, dx, _, rfl, gself (s1.trans s3), rfl, _, rfl, p, dn, df, ds, n, keys A, keys B, E, st', R, last, rfl, hG3, hE, hnA, by rw [keys_len]; exact hb, hP, fun H4 s4 hG4 => ?_⟩
          rw [← e2] at hG4
          exact ⟨st2, rfl, s3.trans s4, hG4, F4, hd6⟩
      · refine iteF' (decide_eq_false c) ?_
        have : st' = st1 := by
          cases m <;> (unfold drain at hd6; rw [if_neg c] at hd6; exact Option.some.inj hd6)
        subst this
        exact ⟨_, st', rfl, s3, hG3, F3, hd5⟩
    rintro σ H2 ⟨v1, st, rfl, s2, hG2, F2, hd2⟩
    rw [List.length_map, List.drop_length] at hd2
    have : st = stE := Option.some.inj hd2
    subst this
    have s12 := s1.trans s2
    -- what is left goes to the least
    refine ⟨_, rfl, p, D.cGv, dx, _, _, rfl, gself s12, T.cGv, T.n_free, rfl, df, _, rfl, hG2.fr, fun l3 hl3 => ?_⟩
    rw [gke]
    have hl30 : (upd H2 l3 (.lst ((keys B).map V.int))) l3 = some (.lst ((keys B).map V.int)) := upd_same
    have s3 : S3 dn df ds H (upd H2 l3 (.lst ((keys B).map V.int))) := s12.trans (s3_of (same_new hl3))
    have hG3 := hG2.same (same_new (o := .lst ((keys B).map V.int)) hl3)
    generalize upd H2 l3 (.lst ((keys B).map V.int)) = H3 at hl30 s3 hG3 ⊢
    have nl3 : l3 ≠ dn ∧ l3 ≠ df ∧ l3 ≠ ds := ⟨ne_of hl30 hG3.nd (by intro z; cases z), ne_of hl30 hG3.fr (by intro z; cases z), ne_of hl30 hG3.sh (by intro z; cases z)⟩
    have hnw : ∀ {sh : Ed → Int} {kk : List Key} {v : V} {i : Nat}, (sK sh E)[i]? = some (kk, v) → ∃ e, E[i]? = some e ∧ kk = kE e := fun {sh kk v i} h => by
      obtain ⟨n, hn, e⟩ := get_map h
      cases e
      exact ⟨n, hn, rfl⟩
    have hsl : ∀ sh : Ed → Int, (sK sh E).length < sizeLine := fun sh => by
      rw [fnK_len]; have := hE.le; exact small1000 (by omega)
    refine ⟨l3, rfl, ⟨_, SqL.of hl30⟩, for_list (K := K) (a := l3) (xs := (keys B).map V.int)
      (fun i σ H' => ∃ v1 v2 v3, σ = [some (.ref p), v1, v2, v3, none] ∧ SameX ds H3 H' ∧ H' ds = some (.dT (sK (fin E st.fr ((keys B).take i) st.sh) E))) ⟨v1, none, none, rfl, (Same.refl _).x, hG3.sh⟩ (fun i σ H' _ ⟨_, _, _, _, s, _⟩ => SqL.of (s _ _ nl3.2.2 hl30)) ?_ ?_⟩
    · rintro i x σ H4 hx ⟨v1, v2, v3, rfl, s4, hs4⟩
      obtain ⟨g, hg, rfl⟩ := get_map hx
      have hgB : g ∈ keys B := List.mem_of_getElem? hg
      have hle := least_mem hba hgB
      rw [hEE] at hle
      refine ⟨ds, .dT (sK (fin E st.fr ((keys B).take i) st.sh) E), hs4, True.intro, fun od => ?_⟩
      have hp5 : (upd H4 ds (.frz od (.dT (sK (fin E st.fr ((keys B).take i) st.sh) E)))) p = some (.ins D.cGv dx [("needs", .ref dn), ("free", .ref df), ("shares", .ref ds)]) := by
        rw [upd_ne nps]; exact s4 _ _ nps (gself s3)
      refine ⟨_, rfl, p, D.cGv, dx, _, _, rfl, hp5, T.cGv, T.n_shares, rfl, ds, od, rfl, .inr ⟨_, upd_same, fun De hDe => ?_⟩⟩
      refine lc_pure walk_keysT E (fun e => decide (e.2 = g)) V.int (fun e => e.1) fnK_len (by have := hE.le; omega) hDe (fun H' s' => s' _ _ upd_same) (fun j x e H5 H5' he s5 y => ?_) (fun H5 s5 h5 => ?_)
      · obtain ⟨rfl, kk, v, q, hkv, rfl, hq⟩ := y
        obtain ⟨e', he', rfl⟩ := hnw hkv
        rw [he] at he'
        cases he'
        refine ⟨Same.refl _, turn_pair (SqT.of hq) rfl (fun Q' hQ => ?_) (fun hb H6 s6 Q' hQ => ⟨_, rfl, hQ _ _ (Same.refl _) rfl⟩)⟩
        refine ⟨_, rfl, _, rfl, rfl, decide (e.2 = g), ?_, hQ _ (Same.refl _)⟩
        refine congrArg V.bl ?_
        by_cases z : e.2 = g
        · rw [decide_eq_true z]; exact decide_eq_true (congrArg V.int z)
        · rw [decide_eq_false z]; exact decide_eq_false fun q => z (V.int.inj q)
      have hs5 := s5 _ _ (upd_same (H := H4) (a := ds) (o := .frz od (.dT (sK (fin E st.fr ((keys B).take i) st.sh) E))))
      have nde : De ≠ ds := ne_of h5 hs5 (by intro z; cases z)
      have s6 : Same H4 (upd H5 ds (.dT (sK (fin E st.fr ((keys B).take i) st.sh) E))) := lock_back hs4 s5
      refine ⟨hs5, De, _, rfl, SqL.of (by rw [upd_ne nde]; exact h5), ?_, fun m hm hmle => ?_⟩
      · rw [List.length_map]
        exact List.length_pos_iff.mpr hle.2
      have hml : m = least E g := mn_eq hm hmle
      subst hml
      refine ⟨_, rfl, p, D.cGv, dx, _, _, rfl, s6 _ _ (s4 _ _ nps (gself s3)), T.cGv, T.n_shares, rfl, _, rfl, _, rfl, by show 2 ≤ sizeLine; decide, fun t ht => ?_⟩
      have s7 := s6.new (o := .tup [.int (least E g), .int g]) ht
      have hs7 := s7 _ _ hs4
      have nfd : df ≠ ds := ne_of hG3.fr hG3.sh (by intro z; cases z)
      refine ⟨ds, _, rfl, sK_dget (e := (least E g, g)) (.inl hs7) hle.1 upd_same, ?_⟩
      refine ⟨_, rfl, p, D.cGv, dx, _, _, rfl, s7 _ _ (s4 _ _ nps (gself s3)), T.cGv, T.n_free, rfl, _, rfl, df, _, rfl, gK_dget (s7 _ _ (s4 _ _ nfd hG3.fr)) hgB, _, _, rfl, rfl, _, DPut.t (k := kE (least E g, g)) hs7 upd_same (hsl _), ?_⟩
      rw [sK_bump hle.1]
      refine ⟨_, _, _, rfl, fun b o n e => ?_, ?_⟩
      · rw [upd_ne n]; exact s7 _ _ (s4 _ _ n e)
      · rw [upd_same, take_succ_of hg]
        unfold fin
        rw [List.foldl_append]
        rfl
    rintro σ H4 ⟨v1, v2, v3, rfl, s4, hs4⟩
    rw [List.length_map, List.take_length] at hs4
    refine ⟨ds, .dT (sK (fin E st.fr (keys B) st.sh) E), hs4, True.intro, fun od => ?_⟩
    have hp5 : (upd H4 ds (.frz od (.dT (sK (fin E st.fr (keys B) st.sh) E)))) p = some (.ins D.cGv dx [("needs", .ref dn), ("free", .ref df), ("shares", .ref ds)]) := by
      rw [upd_ne nps]; exact s4 _ _ nps (gself s3)
    refine ⟨_, rfl, p, D.cGv, dx, _, _, rfl, hp5, T.cGv, T.n_shares, rfl, ds, od, rfl, .inr ⟨_, upd_same, fun De hDe => ?_⟩⟩
    refine lc_rows walk_keysT E (fun _ => true) e3 (fun e => (e.1, e.2, fin E st.fr (keys B) st.sh e)) fnK_len (by have := hE.le; omega) hDe (fun H' s' => s' _ _ upd_same) (fun j x e H5 H5' he s5 y => ?_) (fun H5 s5 R5 => ?_)
    · obtain ⟨rfl, kk, v, q, hkv, rfl, hq⟩ := y
      obtain ⟨e', he', rfl⟩ := hnw hkv
      rw [he] at he'
      cases he'
      refine ⟨Same.refl _, turn_pair (SqT.of hq) rfl yes_of fun _ H6 s6 Q' hQ => ?_⟩
      have sT := s5.trans s6
      refine ⟨_, rfl, _, rfl, _, rfl, p, D.cGv, dx, _, _, rfl, sT _ _ hp5, T.cGv, T.n_shares, rfl, _, rfl, _, rfl, by show 2 ≤ sizeLine; decide, fun t ht => ?_⟩
      have s7 := sT.new (o := .tup [.int e.1, .int e.2]) ht
      refine ⟨ds, _, rfl, sK_dget (.inr ⟨od, s7 _ _ upd_same⟩) (List.mem_of_getElem? he) upd_same, by show 3 ≤ sizeLine; decide, fun u hu => ?_⟩
      exact hQ _ _ ((same_new ht).new hu) ⟨u, rfl, upd_same⟩
    have hs5 := s5 _ _ (upd_same (H := H4) (a := ds) (o := .frz od (.dT (sK (fin E st.fr (keys B) st.sh) E))))
    have s6 : Same H4 (upd H5 ds (.dT (sK (fin E st.fr (keys B) st.sh) E))) := lock_back hs4 s5
    refine ⟨hs5, k _ _ ((s3.trans (s3_ds s4)).trans (s3_of s6)) ?_⟩
    rw [filter_yes] at R5
    rw [hrows]
    obtain ⟨k5, r1, r2, r3⟩ := R5
    exact ⟨k5, by rw [upd_ne (ne_of r1 hs5 (by intro z; cases z))]; exact r1, fun q hq => by rw [upd_ne (ne_of (r2 q hq) hs5 (by intro z; cases z))]; exact r2 q hq, r3⟩
end
end K64W
set_option Elab.async false
set_option maxRecDepth 100000
set_option maxHeartbeats 4000000
/-! embed. -/
namespace K64W
open PySem L2 K64 K64R
theorem sci_it {w : World} {J : It} {n : Nat} {G : Hp → Prop} {Y : Nat → Hp → V → Hp → Prop} (wk : Walk J n G Y) {g : TG} {tt : TT} {te : TE} {vs : List Nat} {σ : L2.St} {Dn : Hp → Prop} {H3 : Hp} {D : Addr} (Pv : Nat → Hp → Prop) (h0 : Pv 0 H3) (hG : ∀ i H, i ≤ n → Pv i H → G H)
    (hs : ∀ i x H H', i < n → Pv i H → Y i H x H' → g x (wipe σ vs) H' fun σ2 H2 => wipe σ2 vs = wipe σ vs ∧ tt σ2 H2 fun b H3 => if b = true then te σ2 H3 fun y H4 => ∃ (k : Int) (S : Int → Bool) (n : Nat), y = .int k ∧ H4 D = some (SetO w D S n) ∧ n + 1 < scanBound ∧ Pv (i + 1) (upd H4 D (SetO w D (fun j => S j || decide (j = k)) (if S k = true then n else n + 1))) else Pv (i + 1) H3) (hd : ∀ H, Pv n H → Dn H) :
    ∃ W : Nat → Nat → Hp → Prop, (∃ m, W 0 m H3) ∧ ∀ i m H, W i m H →
  (J.stop i H ∧ Dn H) ∨ (J.go i H ∧ ∃ Nx : Hp → Prop, (∀ H', Nx H' → ∃ m', m' < m ∧ W (i + 1) m' H') ∧ ∀ x H', J.yld i H x H' → g x (wipe σ vs) H' fun σ2 H2 => wipe σ2 vs = wipe σ vs ∧ tt σ2 H2 fun b H3 =>
    if b = true then te σ2 H3 fun y H4 => ∃ (k : Int) (S : Int → Bool) (n : Nat), y = .int k ∧ H4 D = some (SetO w D S n) ∧ n + 1 < scanBound ∧ Nx (upd H4 D (SetO w D (fun j => S j || decide (j = k)) (if S k = true then n else n + 1))) else Nx H3) :=
  any_it (BT := fun σ2 H3 Nx => te σ2 H3 fun y H4 => ∃ (k : Int) (S : Int → Bool) (n : Nat), y = .int k ∧ H4 D = some (SetO w D S n) ∧ n + 1 < scanBound ∧ Nx (upd H4 D (SetO w D (fun j => S j || decide (j = k)) (if S k = true then n else n + 1)))) wk Pv h0 hG hs hd
theorem findSome_first {α β : Type} {f : α → Option β} : ∀ {L : List α} {i : Nat} {a : α} {b : β}, L[i]? = some a → f a = some b → (∀ c ∈ L.take i, f c = none) → L.findSome? f = some b
  | x :: L, 0, a, b, h, hp, _ => by
    cases h
    rw [List.findSome?_cons, hp]
  | x :: L, i + 1, a, b, h, hp, hn => by
    rw [List.findSome?_cons, hn x (by simp)]
    exact findSome_first (i := i) (by simpa using h) hp fun c hc => hn c (by simp [hc])
theorem primes_asc (A : List Pr) : (primes A).Pairwise (· < ·) := by
  unfold primes
  refine List.Pairwise.filter _ ?_
  rw [List.pairwise_map]
  exact List.pairwise_lt_range.imp fun h => by omega
theorem mem_primes {A : List Pr} (hA : Shp A) {k : Int} : k ∈ primes A ↔ ∃ s ∈ keys A, pr s = k := by
  unfold primes
  rw [List.mem_filter, List.any_eq_true]
  constructor
  · rintro ⟨_, p, hp, e⟩
    exact ⟨p.1, List.mem_map_of_mem (f := (·.1)) hp, by simpa using e⟩
  · rintro ⟨s, hs, e⟩
    obtain ⟨p, hp, q⟩ := List.mem_map.mp hs
    have q : p.1 = s := q
    have := sizes_ok p.1 (hA.sz p hp)
    refine ⟨List.mem_map.mpr ⟨k.toNat, List.mem_range.mpr ?_, ?_⟩, p, hp, by rw [q, e]; simp⟩
    · rw [q] at this; omega
    · rw [q] at this
      show ((k.toNat : Nat) : Int) = k
      omega
/-- a thing that was made, and made ready -/
theorem same_made {H H' : Hp} {x dx C : Addr} (hx : H x = none) (hd : H dx = none) (hne : dx ≠ x) (s : SameX x (upd (upd H dx (.own x)) x (.ins C dx [])) H') : Same H H' := fun b o e => by
  have h1 : b ≠ x := ne_of_none e hx
  have h2 : b ≠ dx := ne_of_none e hd
  exact s b o h1 (by rw [upd_ne h1, upd_ne h2]; exact e)
section
variable {P : Program} {w : World} {K : PySem.W.Frag} {mg : Str → Option Value} {base : Heap} {D : Ad}
/-- what embed answers -/
def IsRes (D : Ad) (H : Hp) (p : Addr) : Res → Prop
  | .none g => IsBl D H p "none" [g]
  | .few S => IsBl D H p "few" S
  | .emb rows => IsEm D H p rows
def spEmbed (D : Ad) : Sp := fun vs H Q _ => ∃ (a b : Addr) (L N : List Pr), vs = [.ref a, .ref b] ∧ IsSh D H a L ∧ IsSh D H b N ∧ Sh0 L ∧ Sh0 N ∧ L.length ≤ 7 ∧ N.length ≤ 7 ∧ ∀ H' p r, embF (srt L) (srt N) = some r → Same H H' → IsRes D H' p r → Q (.ref p) H'
abbrev nEmbed : List Str := ["one", "other", "smalls", "great", "count", "prime", "sizes", "size", "row"]
theorem sc_embed : FnScope nEmbed ["one", "other"] (defScope s_embed) := ⟨rfl, rfl, rfl, by decide +kernel, rfl, by decide +kernel, by decide +kernel⟩
theorem ok_embed (T : Txt K mg D) : FnOk P w K mg base CX0 6 D.f_embed D.d_embed ["one", "other"] (spEmbed D) := by
  refine T.F_embed.ok sc_embed (fun vs H Q E h => ?_) (fun cdv A outer s H vs Q E hr h => ?_)
  · obtain ⟨a, b, L, N, rfl, _⟩ := h
    rfl
  · obtain ⟨a, b, L, N, rfl, ha, hb, hL, hN, lL, lN, k⟩ := h
    have hu := hu_of hr
    have nd := sc_embed.nd
    have hr1 : Room 1 _ := hr.mono (by decide)
    have hr2 : Room 2 _ := hr.mono (by decide)
    have hr3 : Room 3 _ := hr.mono (by decide)
    have hr4 : Room 4 _ := hr.mono (by decide)
    refine ⟨_, pss_cons (ps_setLc (i := 2) (own := [("size", 7), ("count", 4)]) (g := gTup K 2 (gCons (gName 7) (gCons (gName 4) gNil))) (by rfl) nd rfl rfl (by rfl)
        (pi_list (pe_meth0 (pv 0) T.cSh T.M_shCounts (ok_shCounts T) hr1 (b_shCounts T) .nil pass0))
        (blkOk_by (N := nEmbed) (sc := defScope s_embed) (own := [("size", 7), ("count", 4)]) (by decide +kernel))
        (fun _ _ _ _ _ => by exact tupK K rfl (pgs_cons (pg_name (i := 7) nd rfl (Or.inl rfl)) (pgs_cons (pg_name (i := 4) nd rfl (Or.inl rfl)) pgs_nil))) (fun _ _ _ _ _ => pts_nil) (fun _ _ _ _ _ => pv 7))
      (pss_cons (ps_for PassesOwn.never rfl (pi_list (pe_meth0 (pv 1) T.cSh T.M_shCounts (ok_shCounts T) hr1 (b_shCounts T) .nil pass0)) (pg_tup rfl (pgs_cons (pg_name (i := 3) nd rfl (Or.inr rfl)) (pgs_cons (pg_name (i := 4) nd rfl (Or.inl rfl)) pgs_nil)))
        (pss_one (ps_if (pt_not (pt_val (pe_callB (anyK K) (by rfl) T.b_any (by decide +kernel) (pa_cons (pe_lc (own := [("size", 7)]) (g := gName 7) (by rfl) nd (pi_list (pv 2))
            (blkOk_by (N := nEmbed) (sc := defScope s_embed) (own := [("size", 7)]) (by decide +kernel))
            (fun _ _ _ _ _ => pg_name (i := 7) nd rfl (Or.inl rfl)) (fun _ _ _ _ _ => pts_nil)
            (fun _ _ _ _ _ => by exact pe_call (ok_liesIn T) hr3 (by rfl) T.g_liesIn T.F_liesIn.kp (b_liesIn T) .nil pass0 (pa_cons (pv 7) (pa_cons (pv 3) pa_nil)))) pa_nil))))
          (pss_one (ps_ret (pe_make T.KBl (ok_blInit T) hr2 (by rfl) T.gBl (b_blInit T) .nil pass0 (pa_cons pe_str (pa_cons (pe_tup (pa_cons (pv 3) pa_nil)) pa_nil))))) pss_nil)))
      (pss_cons (ps_for PassesOwn.never rfl (pi_list (pe_callB (cr_sortedSet rfl) (by rfl) T.b_sorted (by decide +kernel) (pa_cons (pe_sci (own := [("size", 7)]) (g := gName 7) (by rfl) nd (pi_list (pv 2))
            (blkOk_by (N := nEmbed) (sc := defScope s_embed) (own := [("size", 7)]) (by decide +kernel))
            (fun _ _ _ _ _ => pg_name (i := 7) nd rfl (Or.inl rfl)) (fun _ _ _ _ _ => pts_nil)
            (fun _ _ _ _ _ => by exact pe_call (ok_primeOf T) hr1 (by rfl) T.g_primeOf T.F_primeOf.kp (b_primeOf T) .nil pass0 (pa_cons (pv 7) pa_nil))) pa_nil))) (pg_name (i := 5) nd rfl (Or.inr rfl))
        (pss_one (ps_for PassesOwn.never rfl (pi_list (pe_call (ok_chosenSizes T) hr1 (by rfl) T.g_chosenSizes T.F_chosenSizes.kp (b_chosenSizes T) .nil pass0 (pa_cons (pe_lc (own := [("size", 7)]) (g := gName 7) (by rfl) nd (pi_list (pv 2))
            (blkOk_by (N := nEmbed) (sc := defScope s_embed) (own := [("size", 7)]) (by decide +kernel))
            (fun _ _ _ _ _ => pg_name (i := 7) nd rfl (Or.inl rfl))
            (fun _ _ _ _ _ => by exact pts_one (pt_cmpR op_eq (pe_call (ok_primeOf T) hr1 (by rfl) T.g_primeOf T.F_primeOf.kp (b_primeOf T) .nil pass0 (pa_cons (pv 7) pa_nil)) (pv 5) (nomark _)))
            (fun _ _ _ _ _ => pv 7)) pa_nil))) (pg_name (i := 6) nd rfl (Or.inl rfl))
          (pss_one (ps_if (pt_cmpR op_gt (pe_callB (sumK K) (by rfl) T.b_sum (by decide +kernel) (pa_cons (pe_lc (own := [("size", 7)]) (g := gName 7) (by rfl) nd (pi_tup (pv 6))
              (blkOk_by (N := nEmbed) (sc := defScope s_embed) (own := [("size", 7)]) (by decide +kernel))
              (fun _ _ _ _ _ => pg_name (i := 7) nd rfl (Or.inl rfl)) (fun _ _ _ _ _ => pts_nil)
              (fun _ _ _ _ _ => by exact pe_meth (pv 0) T.cSh T.M_shCount (ok_shCount T) hr3 (b_shCount T) .nil pass0 (pa_cons (pv 7) pa_nil))) pa_nil))
              (pe_call (ok_roomFor T) hr4 (by rfl) T.g_roomFor T.F_roomFor.kp (b_roomFor T) .nil pass0 (pa_cons (pv 6) (pa_cons (pv 1) pa_nil))) (nomark _))
            (pss_one (ps_ret (pe_make T.KBl (ok_blInit T) hr2 (by rfl) T.gBl (b_blInit T) .nil pass0 (pa_cons pe_str (pa_cons (pv 6) pa_nil))))) pss_nil)))))
      (pss_one (ps_ret (pe_make T.KEm (ok_emInit T) hr2 (by rfl) T.gEm (b_emInit T) .nil pass0 (pa_cons (pe_lc (own := [("row", 8)]) (g := gName 8) (by rfl) nd
          (pi_list (pe_meth0 (pe_make T.KGv (ok_gvInit T) hr (by rfl) T.gGv (b_gvInit T) .nil pass0 (pa_cons (pv 0) (pa_cons (pv 1) pa_nil))) T.cGv T.M_gvGiven (ok_gvGiven T) hr3 (b_gvGiven T) .nil pass0))
          (blkOk_by (N := nEmbed) (sc := defScope s_embed) (own := [("row", 8)]) (by decide +kernel))
          (fun _ _ _ _ _ => pg_name (i := 8) nd rfl (Or.inl rfl))
          (fun _ _ _ _ _ => by exact pts_one (pt_cmpR op_gt (ixtK K (pv 8) pe_int) pe_int (nomark _)))
          (fun _ _ _ _ _ => pv 8)) pa_nil)))))), ?_⟩
    have hA := srt_shp hL
    have hB := srt_shp hN
    have lA : (srt L).length ≤ 7 := by rw [srt_len]; exact lL
    have lB : (srt N).length ≤ 7 := by rw [srt_len]; exact lN
    have lkA : (keys (srt L)).length ≤ 7 := by rw [keys_len]; exact lA
    have szA : ∀ s ∈ keys (srt L), s ∈ SIZES := fun s hs => by
      obtain ⟨q, hq, e⟩ := List.mem_map.mp hs
      rw [← show q.1 = s from e]; exact hA.sz _ hq
    have b64 : ∀ s ∈ keys (srt L), 2 ≤ s ∧ s ≤ 64 := fun s hs => by
      have := sizes_ok s (szA s hs); omega
    obtain ⟨dxa, da, ha1, ha2⟩ := id ha
    -- smalls
    refine ⟨_, rfl, a, dxa, _, rfl, ha1, rfl, a, L, rfl, ha, hL, fun H1 l1 s1 R1 => ?_⟩
    obtain ⟨k1, r1, r2, r3⟩ := R1
    refine ⟨l1, rfl, ⟨_, SqL.of r1⟩, fun sm hsm => ?_⟩
    refine lc_pure (walk_list (xs := k1.map fun p => V.ref p.1)) (srt L) (fun _ => true) V.int (fun q => q.1) (by rw [List.length_map, ks_len r3]) (by omega) hsm (fun H' s' => SqL.of (s' _ _ r1)) (fun i x q H2 H2' hq s2 y => ?_) (fun H2 s2 h2 => ?_)
    · obtain ⟨rfl, pq, hpq, rfl, rfl⟩ := src_rows r3 hq y
      exact ⟨Same.refl _, turn_pair (SqT.of (s2 _ _ (r2 pq hpq))) rfl yes_of fun _ H3 s3 Q' hQ => ⟨_, rfl, hQ _ _ (Same.refl _) rfl⟩⟩
    rw [filter_yes] at h2
    have h2 : H2 sm = some (.lst ((keys (srt L)).map V.int)) := h2
    have sA := s1.trans s2
    -- a bare great
    have hb2 := hb.same sA
    obtain ⟨dxb, db, hb3, hb4⟩ := id hb2
    refine ⟨_, rfl, b, dxb, _, rfl, hb3, rfl, b, N, rfl, hb2, hN, fun H3 l3 s3 R3 => ?_⟩
    obtain ⟨k3, t1, t2, t3⟩ := R3
    have h3 := s3 _ _ h2
    have sB := sA.trans s3
    refine ⟨l3, rfl, ⟨_, SqL.of t1⟩, for_list (K := K) (a := l3) (xs := k3.map fun p => V.ref p.1)
      (fun i σ H' => ∃ v3 v4, σ = [some (.ref a), some (.ref b), some (.ref sm), v3, v4, none, none, none, none] ∧ Same H3 H' ∧ ∀ q ∈ (srt N).take i, (!(srt L).any fun r => lies r.1 q.1) = false) ⟨none, none, rfl, Same.refl _, by simp⟩ (fun i σ H' _ ⟨_, _, _, s, _⟩ => SqL.of (s _ _ t1)) ?_ ?_⟩
    · rintro i x σ H4 hx ⟨v3, v4, rfl, s4, hno⟩
      obtain ⟨q, hq, hqm, rfl, hNi⟩ := ks_get t3 hx
      have hqN := List.mem_of_getElem? hNi
      refine ⟨q.1, _, rfl, SqT.of (s4 _ _ (t2 q hqm)), rfl, _, _, rfl, _, _, rfl, rfl, ?_⟩
      refine ⟨_, rfl, sm, rfl, ⟨_, SqL.of (s4 _ _ h3)⟩, fun De hDe => ?_⟩
      refine lc_pure (walk_list (xs := (keys (srt L)).map V.int)) (keys (srt L)) (fun _ => true) V.bl (fun s => lies s q.2.1) (List.length_map ..) (by omega) hDe (fun H' s' => SqL.of (s' _ _ (s4 _ _ h3))) (fun j x n H5 H5' hn s5 y => ?_) (fun H5 s5 h5 => ?_)
      · obtain ⟨rfl, rfl⟩ := src_list hn y
        refine ⟨Same.refl _, turn_name rfl yes_of fun _ H6 s6 Q' hQ => ?_⟩
        exact ⟨_, rfl, _, rfl, n, q.2.1, rfl, szA n (List.mem_of_getElem? hn), hB.sz _ hqN, fun H7 s7 => hQ _ _ s7 rfl⟩
      refine ⟨De, _, rfl, SqL.of h5, ?_⟩
      rw [any_map, filter_yes, show ((keys (srt L)).any fun s => lies s q.2.1) = (srt L).any fun r => lies r.1 q.2.1 from List.any_map]
      refine ⟨_, rfl, ?_⟩
      cases hany : (srt L).any fun r => lies r.1 q.2.1 with
      | true =>
        refine iteF ⟨_, _, rfl, s4.trans s5, fun z hz => ?_⟩
        rw [take_succ_of hNi] at hz
        rcases List.mem_append.mp hz with h | h
        · exact hno z h
        · rw [List.mem_singleton.mp h, hany]; rfl
      | false =>
        refine iteT ?_
        refine ⟨_, rfl, by show 1 ≤ sizeLine; decide, fun t ht => ?_⟩
        intro x dx hx hdx hne
        refine ⟨x, t, dx, "none", [q.2.1], rfl, upd_same, ?_, fun H6 sX hBl => ⟨rfl, ?_⟩⟩
        · rw [upd_ne (ne_of_none upd_same hx), upd_ne (ne_of_none upd_same hdx)]; exact upd_same
        refine k _ x (.none q.2.1) ?_ (((sB.trans s4).trans s5).trans ((same_new ht).trans (same_made hx hdx hne sX))) hBl
        have : bare (srt L) (srt N) = some q.2.1 := by
          unfold bare
          rw [find_first hNi (by rw [hany]; rfl) hno]
          rfl
        unfold embF
        rw [this]
    rintro σ H4 ⟨v3, v4, rfl, s4, hno⟩
    rw [List.length_map, ks_len t3, List.take_length] at hno
    have hbare : bare (srt L) (srt N) = none := by
      unfold bare
      rw [List.find?_eq_none.mpr fun q hq => by rw [hno q hq]; decide]
      rfl
    have sC := sB.trans s4
    have h4 := s4 _ _ h3
    -- a choice with too little room
    refine ⟨_, rfl, sm, rfl, ⟨_, SqL.of h4⟩, fun Ds hDs => ?_⟩
    refine sci_it (walk_list (xs := (keys (srt L)).map V.int)) (fun i H' => Same H4 H' ∧ ∃ S n, H' Ds = some (SetO w Ds S n) ∧ n ≤ i ∧ ∀ k, S k = true ↔ ∃ s ∈ (keys (srt L)).take i, pr s = k) ⟨same_new hDs, _, 0, upd_same, Nat.le_refl _, by simp⟩ (fun i H' _ ⟨s', _⟩ => SqL.of (s' _ _ h4)) ?_ ?_
    · rintro i x H5 H5' hi ⟨s5, S, n, hS, hn, hmem⟩ ⟨rfl, hx⟩
      obtain ⟨m, hm, rfl⟩ := get_map hx
      have hmA := List.mem_of_getElem? hm
      rw [List.length_map] at hi
      refine ⟨rfl, ?_⟩
      refine ⟨_, rfl, m, rfl, (b64 m hmA).1, (b64 m hmA).2, fun H6 s6 => ?_⟩
      refine ⟨pr m, S, n, rfl, s6 _ _ hS, by show n + 1 < 4096; omega, fun c o e => ?_, _, _, upd_same, ?_, fun kk => ?_⟩
      · rw [upd_ne (ne_of_none e hDs)]; exact s6 _ _ (s5 c o e)
      · split <;> omega
      · rw [take_succ_of hm, Bool.or_eq_true, decide_eq_true_eq, hmem]
        constructor
        · rintro (⟨s, hs, e⟩ | e)
          · exact ⟨s, List.mem_append_left _ hs, e⟩
          · exact ⟨m, List.mem_append_right _ (List.mem_singleton.mpr rfl), e.symm⟩
        · rintro ⟨s, hs, e⟩
          rcases List.mem_append.mp hs with h | h
          · exact .inl ⟨s, h, e⟩
          · rw [List.mem_singleton.mp h] at e; exact .inr e.symm
    rintro H5 ⟨s5, S, n, hS, hn, hmem⟩
    rw [List.length_map] at hn hmem
    rw [List.take_length] at hmem
    refine ⟨Ds, S, n, rfl, hS, by omega, fun ns lp hns hnsm _ hlp => ?_⟩
    have hnp : ns = primes (srt L) := asc_unique hns (primes_asc _) fun kk => by rw [hnsm, hmem, mem_primes hA]
    subst hnp
    have s6 := s5.new (o := .lst ((primes (srt L)).map V.int)) hlp
    have hlp6 : (upd H5 lp (.lst ((primes (srt L)).map V.int))) lp = some (.lst ((primes (srt L)).map V.int)) := upd_same
    generalize upd H5 lp (.lst ((primes (srt L)).map V.int)) = H6 at s6 hlp6 ⊢
    have sD := sC.trans s6
    have h6 := s6 _ _ h4
    refine ⟨lp, rfl, ⟨_, SqL.of hlp6⟩, for_list (K := K) (a := lp) (xs := (primes (srt L)).map V.int)
      (fun i σ H' => ∃ v3 v4 v5 v6, σ = [some (.ref a), some (.ref b), some (.ref sm), v3, v4, v5, v6, none, none] ∧ Same H6 H' ∧ ∀ p ∈ (primes (srt L)).take i, ((chosen ((keys (srt L)).filter fun s => decide (pr s = p))).find? fun S => decide (room S (srt N) < tot (cnt (srt L)) S)) = none) ⟨v3, v4, none, none, rfl, Same.refl _, by simp⟩ (fun i σ H' _ ⟨_, _, _, _, _, s, _⟩ => SqL.of (s _ _ hlp6)) ?_ ?_⟩
    · rintro i x σ H7 hx ⟨v3, v4, v5, v6, rfl, s7, hno2⟩
      obtain ⟨pm, hpm, rfl⟩ := get_map hx
      refine ⟨_, rfl, sm, rfl, ⟨_, SqL.of (s7 _ _ h6)⟩, fun De hDe => ?_⟩
      refine lc_pure (walk_list (xs := (keys (srt L)).map V.int)) (keys (srt L)) (fun s => decide (pr s = pm)) V.int (fun s => s) (List.length_map ..) (by omega) hDe (fun H' s' => SqL.of (s' _ _ (s7 _ _ h6))) (fun j x n H8 H8' hn s8 y => ?_) (fun H8 s8 h8 => ?_)
      · obtain ⟨rfl, rfl⟩ := src_list hn y
        have hnA := List.mem_of_getElem? hn
        refine ⟨Same.refl _, turn_name rfl (fun Q' hQ => ?_) fun _ H9 s9 Q' hQ => ⟨_, rfl, hQ _ _ (Same.refl _) rfl⟩⟩
        refine ⟨_, rfl, n, rfl, (b64 n hnA).1, (b64 n hnA).2, fun H9 s9 => ⟨_, rfl, rfl, decide (pr n = pm), ?_, hQ _ s9⟩⟩
        refine congrArg V.bl ?_
        by_cases z : pr n = pm
        · rw [decide_eq_true z]; exact decide_eq_true (congrArg V.int z)
        · rw [decide_eq_false z]; exact decide_eq_false fun q => z (V.int.inj q)
      rw [List.map_id'] at h8
      have hsub : ((keys (srt L)).filter fun s => decide (pr s = pm)).Sublist (keys (srt L)) := List.filter_sublist
      generalize hFF : ((keys (srt L)).filter fun s => decide (pr s = pm)) = FF at h8 hsub
      have hFl := hsub.length_le
      refine ⟨De, FF, rfl, SqL.of h8, by omega, fun H9 lr s9 R9 => ?_⟩
      obtain ⟨k9, u1, u2, u3⟩ := R9
      have s79 := (s7.trans s8).trans s9
      refine ⟨lr, rfl, ⟨_, SqL.of u1⟩, for_list (K := K) (a := lr) (xs := k9.map fun p => V.ref p.1)
        (fun j σ H' => ∃ v6, σ = [some (.ref a), some (.ref b), some (.ref sm), v3, v4, some (.int pm), v6, none, none] ∧ Same H9 H' ∧ ∀ S ∈ (chosen FF).take j, decide (room S (srt N) < tot (cnt (srt L)) S) = false) ⟨v6, rfl, Same.refl _, by simp⟩ (fun i σ H' _ ⟨_, _, s, _⟩ => SqL.of (s _ _ u1)) ?_ ?_⟩
      · rintro j x σ HA hx2 ⟨v6, rfl, s10, hno3⟩
        obtain ⟨q, hq, hqm, rfl, hqi⟩ := ks_get u3 hx2
        have hqc := List.mem_of_getElem? hqi
        have hqs := (mem_chosen.mp hqc).1.trans hsub
        have hql := hqs.length_le
        have hqA : ∀ s ∈ q.2, s ∈ keys (srt L) := fun s hs => hqs.subset hs
        have hq10 : HA q.1 = some (.tup (q.2.map V.int)) := s10 _ _ (u2 q hqm)
        have sE := sD.trans (s79.trans s10)
        refine ⟨_, rfl, q.1, rfl, ⟨_, SqT.of hq10⟩, fun Df hDf => ?_⟩
        refine lc_pure (walk_tup (xs := q.2.map V.int)) q.2 (fun _ => true) V.int (fun s => cnt L s) (List.length_map ..) (by omega) hDf (fun H' s' => SqT.of (s' _ _ hq10)) (fun jj x n H11 H11' hn s11 y => ?_) (fun H11 s11 h11 => ?_)
        · obtain ⟨rfl, rfl⟩ := src_list hn y
          refine ⟨Same.refl _, turn_name rfl yes_of fun _ H12 s12 Q' hQ => ?_⟩
          obtain ⟨dx1, d1, g1, g2⟩ := ha.same ((sE.trans s11).trans s12)
          exact ⟨_, rfl, a, dx1, _, rfl, g1, rfl, _, rfl, a, n, L, rfl, ⟨dx1, d1, g1, g2⟩, hL.nd, szA n (hqA n (List.mem_of_getElem? hn)), hQ _ _ (Same.refl _) rfl⟩
        refine ⟨Df, _, rfl, SqL.of h11, ?_⟩
        rw [filter_yes, tot_sum]
        refine ⟨_, rfl, _, rfl, q.1, b, q.2, N, rfl, SqT.of (s11 _ _ hq10), by omega, fun s hs => szA s (hqA s hs), hb.same (sE.trans s11), hN, fun H12 s12 => ?_⟩
        refine ⟨_, _, rfl, rfl, _, rfl, ?_⟩
        have e1 : tot (fun s => cnt L s) q.2 = tot (cnt (srt L)) q.2 := tot_congr fun s _ => (cnt_srt L s).symm
        rw [e1, ← room_srt N]
        have sF := s11.trans s12
        by_cases c : room q.2 (srt N) < tot (cnt (srt L)) q.2
        · refine iteT' (decide_eq_true c) ?_
          refine ⟨_, rfl, ?_⟩
          intro x dx hx hdx hne
          have hq12 := sF _ _ hq10
          refine ⟨x, q.1, dx, "few", q.2, rfl, upd_same, ?_, fun H13 sX hBl => ⟨rfl, ?_⟩⟩
          · rw [upd_ne (ne_of_none hq12 hx), upd_ne (ne_of_none hq12 hdx)]; exact hq12
          refine k _ x (.few q.2) ?_ ((sE.trans sF).trans (same_made hx hdx hne sX)) hBl
          have hfew : few (srt L) (srt N) = some q.2 := by
            unfold few
            refine findSome_first hpm ?_ hno2
            rw [hFF]
            exact find_first hqi (decide_eq_true c) hno3
          unfold embF
          rw [hbare, hfew]
        · refine iteF' (decide_eq_false c) ?_
          refine ⟨_, rfl, s10.trans sF, fun z hz => ?_⟩
          rw [take_succ_of hqi] at hz
          rcases List.mem_append.mp hz with h | h
          · exact hno3 z h
          · rw [List.mem_singleton.mp h]; exact decide_eq_false c
      · rintro σ HA ⟨v6, rfl, s10, hno3⟩
        rw [List.length_map, ks_len u3, List.take_length] at hno3
        refine ⟨_, _, _, _, rfl, s79.trans s10, fun z hz => ?_⟩
        rw [take_succ_of hpm] at hz
        rcases List.mem_append.mp hz with h | h
        · exact hno2 z h
        · rw [List.mem_singleton.mp h, hFF]
          exact List.find?_eq_none.mpr fun S hS => by rw [hno3 S hS]; decide
    rintro σ H7 ⟨v3, v4, v5, v6, rfl, s7, hno2⟩
    rw [List.length_map, List.take_length] at hno2
    have hfew : few (srt L) (srt N) = none := by
      unfold few
      exact List.findSome?_eq_none_iff.mpr hno2
    obtain ⟨TT, hgiv, hVE⟩ := giv_ok hA hB hbare hfew
    have sE := sD.trans s7
    -- the giving
    refine ⟨_, rfl, _, rfl, ?_⟩
    intro x dx hx hdx hne
    have sM : Same H7 (upd (upd H7 dx (.own x)) x (.ins D.cGv dx [])) := same_made hx hdx hne (fun _ _ _ e => e)
    refine ⟨x, a, b, dx, L, N, rfl, upd_same, ha.same (sE.trans sM), hb.same (sE.trans sM), hL, hN, fun H8 dn df ds sX hdn hdf hds hG => ⟨rfl, ?_⟩⟩
    obtain ⟨dx2, hself⟩ := hG.self
    have s8 : Same H7 H8 := same_made hx hdx hne sX
    refine ⟨x, dx2, _, rfl, hself, rfl, x, dn, df, ds, srt L, srt N, TT, rfl, hG, hA, hB, by omega, by omega, hbare, hfew, hgiv, fun H9 l9 s9 R9 => ?_⟩
    have s79 : Same H7 H9 := fun c o e => by
      have e1 := sM c o e
      exact s9 c o (ne_of_none e1 hdn) (ne_of_none e1 hdf) (ne_of_none e1 hds) (s8 c o e)
    obtain ⟨k9, w1, w2, w3⟩ := R9
    have hTl : TT.length ≤ 1000 := by
      unfold giv at hgiv
      obtain ⟨st, _, h2⟩ := Option.map_eq_some_iff.mp hgiv
      rw [← h2]
      unfold tris
      rw [List.length_map]
      have h1 := edges_len (srt L) (srt N)
      have h3 : (srt L).length * (srt N).length ≤ 7 * 7 := Nat.mul_le_mul lA lB
      omega
    refine ⟨l9, rfl, ⟨_, SqL.of w1⟩, fun Dr hDr => ?_⟩
    refine lc_rows (walk_list (xs := k9.map fun p => V.ref p.1)) TT (fun r => decide (0 < r.2.2)) e3 (fun r => r) (by rw [List.length_map, ks_len w3]) (by omega) hDr (fun H' s' => SqL.of (s' _ _ w1)) (fun i x r H10 H10' hr s10 y => ?_) (fun H10 s10 R10 => ?_)
    · obtain ⟨rfl, q, hq, rfl, rfl⟩ := src_rows w3 hr y
      have hq10 := s10 _ _ (w2 q hq)
      refine ⟨Same.refl _, turn_name rfl (fun Q' hQ => ?_) fun _ H11 s11 Q' hQ => ⟨_, rfl, hQ _ _ (Same.refl _) ⟨q.1, rfl, s11 _ _ hq10⟩⟩⟩
      exact ⟨_, rfl, q.1, _, 2, _, rfl, rfl, SqT.of hq10, at_of (n := 2) rfl rfl, _, _, rfl, rfl, _, rfl, hQ _ (Same.refl _)⟩
    rw [List.map_id'] at R10
    have hM36 := ve_len hVE
    have hM2 : (srt L).length * (srt N).length ≤ 7 * 7 := Nat.mul_le_mul lA lB
    intro x3 dx3 hx3 hdx3 hne3
    refine ⟨x3, Dr, dx3, TT.filter fun r => decide (0 < r.2.2), rfl, upd_same, R10.same (same_made hx3 hdx3 hne3 (fun _ _ _ e => e)), by omega, hVE.srt, ve_bnd hL hN hVE, fun H11 sX3 hEm => ⟨rfl, ?_⟩⟩
    refine k _ x3 (.emb (TT.filter fun r => decide (0 < r.2.2))) ?_ ((sE.trans (s79.trans s10)).trans (same_made hx3 hdx3 hne3 sX3)) hEm
    unfold embF
    rw [hbare, hfew, hgiv]
    rfl
end
end K64W
set_option Elab.async false
set_option maxRecDepth 100000
set_option maxHeartbeats 4000000
/-! The law's draws. -/
namespace K64W
open PySem L2 K64 K64R
/-- the bag of draws, drawn from at most m times -/
def Bag (H : Hp) (b c : Addr) (m : Nat) : Prop := ∃ (ns : List Int) (i q seed n : Int), H b = some (.lst [.ref c, .int i, .int q, .int seed, .int n]) ∧ H c = some (.lst (ns.map V.int)) ∧ c ≠ b ∧ 0 ≤ i ∧ 0 ≤ q ∧ 0 ≤ seed ∧ seed < 2147483647 ∧ 0 ≤ n ∧ n ≤ m
theorem Bag.same {H H' : Hp} {b c : Addr} {m : Nat} (g : Bag H b c m) (s : Same H H') : Bag H' b c m := by
  obtain ⟨ns, i, q, seed, n, h1, h2, h3⟩ := g
  exact ⟨ns, i, q, seed, n, s _ _ h1, s _ _ h2, h3⟩
theorem Bag.mono {H : Hp} {b c : Addr} {m k : Nat} (g : Bag H b c m) (h : m ≤ k) : Bag H b c k := by
  obtain ⟨ns, i, q, seed, n, h1, h2, h3, h4, h5, h6, h7, h8, h9⟩ := g
  exact ⟨ns, i, q, seed, n, h1, h2, h3, h4, h5, h6, h7, h8, by omega⟩
theorem Bag.lst {H : Hp} {b c : Addr} {m : Nat} (g : Bag H b c m) : (∃ xs, H b = some (.lst xs)) ∧ ∃ xs, H c = some (.lst xs) := by
  obtain ⟨ns, i, q, seed, n, h1, h2, _⟩ := g
  exact ⟨⟨_, h1⟩, _, h2⟩
theorem Bag.upd {H : Hp} {b c a : Addr} {m : Nat} {o : HO} (g : Bag H b c m) (hb : a ≠ b) (hc : a ≠ c) : Bag (L2.upd H a o) b c m := by
  obtain ⟨ns, i, q, seed, n, h1, h2, h3⟩ := g
  exact ⟨ns, i, q, seed, n, by rw [upd_ne hb.symm]; exact h1, by rw [upd_ne hc.symm]; exact h2, h3⟩
theorem seq_mid {t u : TS} {D : Ends} {σ : L2.St} {H : Hp} (M : L2.St → Hp → Prop) (h1 : ∀ nx, (∀ σ' H', M σ' H' → nx σ' H') → t { D with nx := nx } σ H) (h2 : ∀ σ' H', M σ' H' → u D σ' H') : tSeq t u D σ H := h1 _ h2
theorem cut_ints (ns : List Int) (lo hi : Option Int) : ∃ ms : List Int, cutV (ns.map V.int) lo hi = ms.map V.int ∧ ms.length ≤ ns.length := by
  unfold cutV
  simp only [List.length_map]
  exact ⟨(ns.drop (HT.sIx ns.length 0 lo)).take (HT.sIx ns.length ns.length hi - HT.sIx ns.length 0 lo), by rw [List.map_take, List.map_drop], by simp; omega⟩
theorem mul64 {i j : Int} (h0 : 0 ≤ i) (h1 : i < 18446744073709551616) : CMul i j := .inl ⟨by omega, by omega⟩
section
variable {P : Program} {w : World} {K : PySem.W.Frag} {mg : Str → Option Value} {base : Heap} {D : Ad}
def spLCells (K : PySem.W.Frag) : Sp := fun vs H Q _ => ∃ (l : Addr) (ns : List Int), vs = [.ref l] ∧ SqL K H l (ns.map V.int) ∧ ns.length ≤ 63 ∧ ∀ H' b c, Same H H' → H b = none → H c = none → Bag H' b c 0 → Q (.ref b) H'
abbrev nLCells : List Str := ["_law_script", "_law_seed", "_law_cell"]
theorem sc_lCells : FnScope nLCells ["_law_script"] (defScope s_lCells) := ⟨rfl, rfl, rfl, by decide +kernel, rfl, by decide +kernel, by decide +kernel⟩
theorem ok_lCells (T : Txt K mg D) : FnOk P w K mg base CX0 1 D.f_lCells D.d_lCells ["_law_script"] (spLCells K) := by
  refine T.F_lCells.ok sc_lCells (fun vs H Q E h => ?_) (fun cdv A outer s H vs Q E hr h => ?_)
  · obtain ⟨l, ns, rfl, _⟩ := h
    rfl
  · obtain ⟨l, ns, rfl, hl, h63, k⟩ := h
    have nd := sc_lCells.nd
    refine ⟨_, pss_cons (ps_set (i := 1) nd rfl (Or.inl rfl) pe_int)
      (pss_cons (ps_for PassesOwn.never rfl (pi_list (pe_slice sl_list (pv 0) po_none (po_some pe_int))) (pg_name (i := 2) nd rfl (Or.inl rfl))
        (pss_one (ps_set (i := 1) nd rfl (Or.inl rfl) (pe_op op_mod (pe_callTy call_int1 (by rfl) T.b_int (by decide +kernel) (pa_cons (pe_op op_add (pe_op op_add (pe_op op_mul (pv 1) pe_int) (pe_op op_mod (pe_callTy call_int1 (by rfl) T.b_int (by decide +kernel) (pa_cons (pv 2) pa_nil)) pe_int)) pe_int) pa_nil)) pe_int))))
      (pss_one (ps_ret (pe_lst (pa_cons (pe_callTy call_list_of (by rfl) T.b_list (by decide +kernel) (pa_cons (pe_slice sl_list (pv 0) po_none (po_some pe_int)) pa_nil)) (pa_cons pe_int (pa_cons pe_int (pa_cons (pv 1) (pa_cons pe_int pa_nil))))))))), ?_⟩
    obtain ⟨ms, hms, hml⟩ := cut_ints ns none (some 63)
    refine ⟨_, rfl, _, rfl, l, _, rfl, hl, fun p1 hp1 => ?_⟩
    rw [hms]
    have s1 := same_new (o := .lst (ms.map V.int)) hp1
    refine ⟨p1, rfl, ⟨_, SqL.of upd_same⟩, for_list (K := K) (a := p1) (xs := ms.map V.int) (fun i σ H' => ∃ v2 seed, σ = [some (.ref l), some (.int seed), v2] ∧ 0 ≤ seed ∧ seed < 2147483647 ∧ H' = upd H p1 (.lst (ms.map V.int))) ⟨none, 5646, rfl, by decide, by decide, rfl⟩ (fun i σ H' _ ⟨_, _, _, _, _, e⟩ => by rw [e]; exact SqL.of upd_same) ?_ ?_⟩
    · rintro i x σ H' hx ⟨v2, seed, rfl, h0, h1, rfl⟩
      obtain ⟨n, hn, rfl⟩ := get_map hx
      refine ⟨_, rfl, _, _, rfl, rfl, mul64 h0 (by omega), _, rfl, .inl ⟨_, rfl, _, _, rfl, rfl, by show (0 : Int) < 2147483497; decide, _, _, rfl, rfl, _, _, rfl, rfl, .inl ⟨_, rfl, _, _, rfl, rfl, by show (0 : Int) < 2147483647; decide, ?_⟩⟩⟩
      exact ⟨_, _, rfl, Int.emod_nonneg _ (by decide), Int.emod_lt_of_pos _ (by decide), rfl⟩
    rintro σ H' ⟨v2, seed, rfl, h0, h1, rfl⟩
    refine ⟨_, rfl, _, rfl, l, _, rfl, s1.seq hl, fun p2 hp2 => ?_⟩
    rw [hms]
    have s2 := s1.new (o := .lst (ms.map V.int)) hp2
    refine ⟨p2, _, rfl, .inl (SqL.of upd_same), fun p3 hp3 => ?_⟩
    have s3 := s2.new (o := .lst (ms.map V.int)) hp3
    refine ⟨_, rfl, by show 5 ≤ sizeLine; decide, fun b hb => ?_⟩
    have n3 : p3 ≠ b := ne_of_none upd_same hb
    exact k _ b p3 (s3.new hb) (s3.free hb) (s2.free hp3) ⟨ms, 0, 0, seed, 0, upd_same, by rw [upd_ne n3]; exact upd_same, n3, by decide, by decide, h0, h1, by decide, by decide⟩
def spLDraw : Sp := fun vs H Q _ => ∃ (b c : Addr) (d : Int) (m : Nat), vs = [.ref b, .int d] ∧ Bag H b c m ∧ m ≤ 1000000 ∧ 1 ≤ d ∧ d ≤ 10 ^ 30 ∧ ∀ H' r, SameX b H H' → Bag H' b c (m + 1) → 0 ≤ r → r < d → Q (.int r) H'
abbrev nLDraw : List Str := ["_law_bag", "_law_sides", "_law_cell", "_law_digit", "_law_seed"]
theorem sc_lDraw : FnScope nLDraw ["_law_bag", "_law_sides"] (defScope s_lDraw) := ⟨rfl, rfl, rfl, by decide +kernel, rfl, by decide +kernel, by decide +kernel⟩
theorem ok_lDraw (T : Txt K mg D) : FnOk P w K mg base CX0 1 D.f_lDraw D.d_lDraw ["_law_bag", "_law_sides"] spLDraw := by
  refine T.F_lDraw.ok sc_lDraw (fun vs H Q E h => ?_) (fun cdv A outer s H vs Q E hr h => ?_)
  · obtain ⟨b, c, d, m, rfl, _⟩ := h
    rfl
  · obtain ⟨b, c, d, m, rfl, hB, hm, hd1, hd2, k⟩ := h
    have nd := sc_lDraw.nd
    refine ⟨_, pss_cons (ps_asg (pe_op op_add (pe_ix ix_list (pv 0) pe_int (fun _ _ => rfl)) pe_int) (pg_sub (pv 0) pe_int set_list (fun _ => rfl)))
      (pss_cons (ps_if (PW.pt (pw_and (pt_cmpR op_eq (pe_ix ix_list (pv 0) pe_int (fun _ _ => rfl)) pe_int (nomark _)) (pw_and1 (pt_cmpR op_lt (pe_ix ix_list (pv 0) pe_int (fun _ _ => rfl)) (pe_callB call_len_seq (by rfl) T.b_len (by decide +kernel) (pa_cons (pe_ix ix_list (pv 0) pe_int (fun _ _ => rfl)) pa_nil)) (nomark _)))))
        (pss_cons (ps_set (i := 2) nd rfl (Or.inl rfl) (pe_ix ix_list (pe_ix ix_list (pv 0) pe_int (fun _ _ => rfl)) (pe_ix ix_list (pv 0) pe_int (fun _ _ => rfl)) (fun _ _ => rfl)))
        (pss_cons (ps_asg (pe_op op_add (pe_ix ix_list (pv 0) pe_int (fun _ _ => rfl)) pe_int) (pg_sub (pv 0) pe_int set_list (fun _ => rfl)))
        (pss_one (ps_if (pt_cmpR op_ge (pv 2) (pe_op op_pow pe_int pe_int) (nomark _))
          (pss_one (ps_asg (pv 2) (pg_sub (pv 0) pe_int set_list (fun _ => rfl))))
          (pss_one (ps_asg (pe_op op_mod (pe_callTy call_int1 (by rfl) T.b_int (by decide +kernel) (pa_cons (pe_op op_add (pe_op op_add (pe_op op_mul (pe_ix ix_list (pv 0) pe_int (fun _ _ => rfl)) pe_int) (pe_op op_mul (pe_op op_mod (pe_callTy call_int1 (by rfl) T.b_int (by decide +kernel) (pa_cons (pv 2) pa_nil)) pe_int) pe_int)) pe_int) pa_nil)) pe_int) (pg_sub (pv 0) pe_int set_list (fun _ => rfl)))))))) pss_nil)
      (pss_cons (ps_if (pt_cmpR op_gt (pe_ix ix_list (pv 0) pe_int (fun _ _ => rfl)) pe_int (nomark _))
        (pss_cons (ps_set (i := 3) nd rfl (Or.inl rfl) (pe_op op_mod (pe_callTy call_int1 (by rfl) T.b_int (by decide +kernel) (pa_cons (pe_ix ix_list (pv 0) pe_int (fun _ _ => rfl)) pa_nil)) (pv 1)))
        (pss_cons (ps_asg (pe_op op_fdivW (pe_ix ix_list (pv 0) pe_int (fun _ _ => rfl)) (pv 1)) (pg_sub (pv 0) pe_int set_list (fun _ => rfl)))
        (pss_one (ps_ret (pv 3))))) pss_nil)
      (pss_cons (ps_set (i := 4) nd rfl (Or.inl rfl) (pe_ix ix_list (pv 0) pe_int (fun _ _ => rfl)))
      (pss_cons (ps_asg (pe_op op_mod (pe_callTy call_int1 (by rfl) T.b_int (by decide +kernel) (pa_cons (pe_op op_add (pe_op op_add (pe_op op_add (pe_op op_mul (pe_op op_mul (pv 4) (pv 4)) pe_int) (pe_op op_mul (pv 4) pe_int)) (pe_op op_mul (pe_ix ix_list (pv 0) pe_int (fun _ _ => rfl)) pe_int)) pe_int) pa_nil)) pe_int) (pg_sub (pv 0) pe_int set_list (fun _ => rfl)))
      (pss_one (ps_ret (pe_op op_mod (pe_callTy call_int1 (by rfl) T.b_int (by decide +kernel) (pa_cons (pe_op op_add (pe_op op_fdiv (pe_ix ix_list (pv 0) pe_int (fun _ _ => rfl)) pe_int) (pe_op op_mul (pe_op op_mod (pe_callTy call_int1 (by rfl) T.b_int (by decide +kernel) (pa_cons (pe_ix ix_list (pv 0) pe_int (fun _ _ => rfl)) pa_nil)) pe_int) pe_int)) pa_nil)) (pv 1)))))))), ?_⟩
    obtain ⟨ns, i, q, seed, n, hb, hc, ncb, hi, hq, hs0, hs1, hn0, hn1⟩ := hB
    refine ⟨_, rfl, b, _, 4, _, rfl, rfl, SqL.of hb, at_of (n := 4) rfl rfl, _, _, rfl, rfl, _, rfl, b, _, 4, 4, rfl, rfl, hb, by rfl, ?_⟩
    have hb1 : (upd H b (.lst [.ref c, .int i, .int q, .int seed, .int (n + 1)])) b = some (.lst [.ref c, .int i, .int q, .int seed, .int (n + 1)]) := upd_same
    have hc1 : (upd H b (.lst [.ref c, .int i, .int q, .int seed, .int (n + 1)])) c = some (.lst (ns.map V.int)) := by rw [upd_ne ncb]; exact hc
    have s1 : SameX b H (upd H b (.lst [.ref c, .int i, .int q, .int seed, .int (n + 1)])) := lock_x
    have keep : ∀ {H1 : Hp} {xs : List V}, SameX b H H1 → SameX b H (upd H1 b (.lst xs)) ∧ (upd H1 b (.lst xs)) b = some (.lst xs) ∧ (H1 c = some (.lst (ns.map V.int)) → (upd H1 b (.lst xs)) c = some (.lst (ns.map V.int))) := fun {H1 xs} s => ⟨s.upd, upd_same, fun h => by rw [upd_ne ncb]; exact h⟩
    generalize hH1 : (upd H b (HO.lst ([V.ref c, V.int i, V.int q, V.int seed, V.int n].set 4 _))) = H1
    replace hb1 : H1 b = some (.lst [.ref c, .int i, .int q, .int seed, .int (n + 1)]) := by rw [← hH1]; exact hb1
    replace hc1 : H1 c = some (.lst (ns.map V.int)) := by rw [← hH1]; exact hc1
    replace s1 : SameX b H H1 := by rw [← hH1]; exact s1
    dsimp only
    refine seq_mid (fun σ' H' => ∃ v2 i q seed, σ' = [some (.ref b), some (.int d), v2, none, none] ∧ SameX b H H' ∧ H' b = some (.lst [.ref c, .int i, .int q, .int seed, .int (n + 1)]) ∧ H' c = some (.lst (ns.map V.int)) ∧ 0 ≤ i ∧ 0 ≤ q ∧ 0 ≤ seed ∧ seed < 2147483647) (fun nx hnx => ?_) ?_
    · refine ⟨_, rfl, b, _, 2, _, rfl, rfl, SqL.of hb1, at_of (n := 2) rfl rfl, rfl, _, rfl, ?_⟩
      by_cases c1 : q = 0
      · refine iteT' (decide_eq_true (congrArg V.int c1)) ?_
        refine ⟨_, rfl, b, _, 1, _, rfl, rfl, SqL.of hb1, at_of (n := 1) rfl rfl, _, rfl, b, _, 0, _, rfl, rfl, SqL.of hb1, at_of (n := 0) rfl rfl, c, _, rfl, .inl (SqL.of hc1), _, _, rfl, rfl, _, rfl, ?_⟩
        rw [List.length_map]
        by_cases c2 : i < ns.length
        · refine iteT' (decide_eq_true c2) ?_
          have hit : i.toNat < ns.length := by omega
          have hget : (ns.map V.int)[i.toNat]? = some (.int ns[i.toNat]) := by rw [List.getElem?_map, List.getElem?_eq_getElem hit]; rfl
          refine ⟨_, rfl, b, _, 0, _, rfl, rfl, SqL.of hb1, at_of (n := 0) rfl rfl, _, rfl, b, _, 1, _, rfl, rfl, SqL.of hb1, at_of (n := 1) rfl rfl, c, _, i, _, rfl, rfl, SqL.of hc1, at_of (n := i.toNat) (by omega) hget, ?_⟩
          refine ⟨_, rfl, b, _, 1, _, rfl, rfl, SqL.of hb1, at_of (n := 1) rfl rfl, _, _, rfl, rfl, _, rfl, b, _, 1, 1, rfl, rfl, hb1, by rfl, ?_⟩
          obtain ⟨s2, hb2, hc2⟩ := keep (xs := [.ref c, .int (i + 1), .int q, .int seed, .int (n + 1)]) s1
          have hc2 := hc2 hc1
          refine ⟨_, rfl, _, _, rfl, rfl, ⟨by decide, by decide, by decide⟩, _, _, rfl, rfl, _, rfl, ?_⟩
          by_cases c3 : (10 : Int) ^ (18 : Int).toNat ≤ ns[i.toNat]
          · refine iteT' (decide_eq_true c3) ?_
            refine ⟨_, rfl, _, rfl, b, _, 2, 2, rfl, rfl, hb2, by rfl, ?_⟩
            obtain ⟨s3, hb3, hc3⟩ := keep (xs := [.ref c, .int (i + 1), .int ns[i.toNat], .int seed, .int (n + 1)]) s2
            have p18 : (0 : Int) ≤ (10 : Int) ^ (18 : Int).toNat := by decide
            exact hnx _ _ ⟨_, i + 1, ns[i.toNat], seed, rfl, s3, hb3, hc3 hc2, by omega, by omega, hs0, hs1⟩
          · refine iteF' (decide_eq_false c3) ?_
            refine ⟨_, rfl, b, _, 3, _, rfl, rfl, SqL.of hb2, at_of (n := 3) rfl rfl, _, _, rfl, rfl, mul64 hs0 (by omega), _, rfl, .inl ⟨_, rfl, _, _, rfl, rfl, by show (0 : Int) < 2147483497; decide, _, _, rfl, rfl, mul64 (Int.emod_nonneg _ (by decide)) (Int.lt_trans (Int.emod_lt_of_pos _ (by decide)) (by decide)), _, _, rfl, rfl, _, _, rfl, rfl, .inl ⟨_, rfl, _, _, rfl, rfl, by show (0 : Int) < 2147483647; decide, ?_⟩⟩⟩
            refine ⟨_, rfl, b, _, 3, 3, rfl, rfl, hb2, by rfl, ?_⟩
            obtain ⟨s3, hb3, hc3⟩ := keep (H1 := (upd H1 b (.lst [.ref c, .int (i + 1), .int q, .int seed, .int (n + 1)]))) (xs := [.ref c, .int (i + 1), .int q, .int ((seed * 39373 + ns[i.toNat] % 2147483497 * 28411 + 71) % 2147483647), .int (n + 1)]) s2
            exact hnx _ _ ⟨_, i + 1, q, _, rfl, s3, hb3, hc3 hc2, by omega, hq, Int.emod_nonneg _ (by decide), Int.emod_lt_of_pos _ (by decide)⟩
        · refine iteF' (decide_eq_false c2) ?_
          exact hnx _ _ ⟨none, i, q, seed, rfl, s1, hb1, hc1, hi, hq, hs0, hs1⟩
      · refine iteF' (decide_eq_false fun z => c1 (V.int.inj z)) ?_
        exact hnx _ _ ⟨none, i, q, seed, rfl, s1, hb1, hc1, hi, hq, hs0, hs1⟩
    rintro σ H2 ⟨v2, i, q, seed, rfl, s2, hb2, hc2, hi, hq, hs0, hs1⟩
    refine ⟨_, rfl, b, _, 2, _, rfl, rfl, SqL.of hb2, at_of (n := 2) rfl rfl, _, _, rfl, rfl, _, rfl, ?_⟩
    have hd0 : (0 : Int) < d := by omega
    by_cases c1 : 0 < q
    · refine iteT' (decide_eq_true c1) ?_
      refine ⟨_, rfl, b, _, 2, _, rfl, rfl, SqL.of hb2, at_of (n := 2) rfl rfl, .inl ⟨_, rfl, _, rfl, _, _, rfl, rfl, hd0, ?_⟩⟩
      refine ⟨_, rfl, b, _, 2, _, rfl, rfl, SqL.of hb2, at_of (n := 2) rfl rfl, _, rfl, _, _, rfl, rfl, wide_div (b := 200) hd0 (by omega) (by decide) (by decide), _, rfl, b, _, 2, 2, rfl, rfl, hb2, by rfl, _, rfl, ?_⟩
      obtain ⟨s3, hb3, hc3⟩ := keep (xs := [.ref c, .int i, .int (q / d), .int seed, .int (n + 1)]) s2
      exact k _ _ s3 ⟨ns, i, q / d, seed, n + 1, hb3, hc3 hc2, ncb, hi, Int.ediv_nonneg hq (by omega), hs0, hs1, by omega, by omega⟩ (Int.emod_nonneg _ (by omega)) (Int.emod_lt_of_pos _ hd0)
    · refine iteF' (decide_eq_false c1) ?_
      refine ⟨_, rfl, b, _, 3, _, rfl, rfl, SqL.of hb2, at_of (n := 3) rfl rfl, ?_⟩
      have hss : 0 ≤ seed * seed ∧ seed * seed < 18446744073709551616 := by
        refine ⟨Int.mul_nonneg hs0 hs0, ?_⟩
        have h1 : seed * seed ≤ 2147483647 * seed := Int.mul_le_mul_of_nonneg_right (by omega) hs0
        omega
      refine ⟨_, rfl, _, rfl, _, _, rfl, rfl, mul64 hs0 (by omega), _, _, rfl, rfl, mul64 hss.1 hss.2, _, rfl, _, _, rfl, rfl, mul64 hs0 (by omega), _, _, rfl, rfl, _, rfl, b, _, 4, _, rfl, rfl, SqL.of hb2, at_of (n := 4) rfl rfl, _, _, rfl, rfl, mul64 (by omega) (by omega), _, _, rfl, rfl, _, _, rfl, rfl, .inl ⟨_, rfl, _, _, rfl, rfl, by show (0 : Int) < 2147483647; decide, ?_⟩⟩
      refine ⟨_, rfl, b, _, 3, 3, rfl, rfl, hb2, by rfl, ?_⟩
      have z0 : ∀ x : Int, 0 ≤ x % 2147483647 ∧ x % 2147483647 < 2147483647 := fun x => ⟨Int.emod_nonneg _ (by decide), Int.emod_lt_of_pos _ (by decide)⟩
      obtain ⟨z1, z2⟩ := z0 (seed * seed * 11 + seed * 41257 + (n + 1) * 1299721 + 60611)
      obtain ⟨s3, hb3, hc3⟩ := keep (xs := [.ref c, .int i, .int q, .int ((seed * seed * 11 + seed * 41257 + (n + 1) * 1299721 + 60611) % 2147483647), .int (n + 1)]) s2
      have hc3 := hc3 hc2
      refine ⟨_, rfl, b, _, 3, _, rfl, rfl, SqL.of hb3, at_of (n := 3) rfl rfl, _, _, rfl, rfl, ⟨by decide, by decide⟩, _, rfl, b, _, 3, _, rfl, rfl, SqL.of hb3, at_of (n := 3) rfl rfl, .inl ⟨_, rfl, _, _, rfl, rfl, by show (0 : Int) < 7919; decide, _, _, rfl, rfl, mul64 (Int.emod_nonneg _ (by decide)) (Int.lt_trans (Int.emod_lt_of_pos _ (by decide)) (by decide)), _, _, rfl, rfl, .inl ⟨_, rfl, _, rfl, _, _, rfl, rfl, hd0, ?_⟩⟩⟩
      exact k _ _ s3 ⟨ns, i, q, _, n + 1, hb3, hc3, ncb, hi, hq, z1, z2, by omega, by omega⟩ (Int.emod_nonneg _ (by omega)) (Int.emod_lt_of_pos _ hd0)
end
end K64W
set_option Elab.async false
set_option maxRecDepth 100000
set_option maxHeartbeats 4000000
/-! The law's choices. -/
namespace K64W
open PySem L2 K64 K64R
section
variable {P : Program} {w : World} {K : PySem.W.Frag} {mg : Str → Option Value} {base : Heap} {D : Ad}
def spLOne : Sp := fun vs H Q _ => ∃ (b c t : Addr) (xs : List V) (m : Nat), vs = [.ref b, .ref t] ∧ Bag H b c m ∧ m ≤ 1000000 ∧ H t = some (.lst xs) ∧ t ≠ b ∧ 1 ≤ xs.length ∧ xs.length ≤ 64 ∧ ∀ H' x, x ∈ xs → SameX b H H' → Bag H' b c (m + 1) → Q x H'
theorem sc_lOne : FnScope ["_law_bag", "_law_things"] ["_law_bag", "_law_things"] (defScope s_lOne) := ⟨rfl, rfl, rfl, by decide +kernel, rfl, by decide +kernel, by decide +kernel⟩
theorem ok_lOne (T : Txt K mg D) : FnOk P w K mg base CX0 2 D.f_lOne D.d_lOne ["_law_bag", "_law_things"] spLOne := by
  refine T.F_lOne.ok sc_lOne (fun vs H Q E h => ?_) (fun cdv A outer s H vs Q E hr h => ?_)
  · obtain ⟨b, c, t, xs, m, rfl, _⟩ := h
    rfl
  · obtain ⟨b, c, t, xs, m, rfl, hB, hm, ht, htb, h1, h64, k⟩ := h
    have hr1 : Room 1 _ := hr.mono (by decide)
    refine ⟨_, pss_one (ps_ret (pe_ix ix_list (pv 1) (pe_call (ok_lDraw T) hr1 (by rfl) T.g_lDraw T.F_lDraw.kp (b_lDraw T) .nil pass0 (pa_cons (pv 0) (pa_cons (pe_callB call_len_seq (by rfl) T.b_len (by decide +kernel) (pa_cons (pv 1) pa_nil)) pa_nil))) (fun _ _ => rfl))), ?_⟩
    refine ⟨_, rfl, _, rfl, _, rfl, t, xs, rfl, .inl (SqL.of ht), b, c, xs.length, m, rfl, hB, hm, by omega, by omega, fun H' r s hB' h0 hlt => ?_⟩
    have hi : r.toNat < xs.length := by omega
    exact ⟨t, xs, r, _, rfl, rfl, SqL.of (s _ _ htb ht), at_of (n := r.toNat) (by omega) (List.getElem?_eq_getElem hi), k _ _ (List.getElem_mem hi) s hB'⟩
def spLMixed : Sp := fun vs H Q _ => ∃ (b c t : Addr) (ns : List Int) (m : Nat), vs = [.ref b, .ref t] ∧ Bag H b c m ∧ m ≤ 900000 ∧ H t = some (.lst (ns.map V.int)) ∧ t ≠ b ∧ ns.length ≤ 64 ∧ ∀ (H' : Hp) (l : Addr) (ms : List Int), ms.Perm ns → SameX b H H' → Bag H' b c (m + ns.length) → H' l = some (.lst (ms.map V.int)) → H l = none → Q (.ref l) H'
abbrev nLMixed : List Str := ["_law_bag", "_law_things", "_law_found", "_law_thing"]
theorem sc_lMixed : FnScope nLMixed ["_law_bag", "_law_things"] (defScope s_lMixed) := ⟨rfl, rfl, rfl, by decide +kernel, rfl, by decide +kernel, by decide +kernel⟩
theorem ok_lMixed (T : Txt K mg D) : FnOk P w K mg base CX0 2 D.f_lMixed D.d_lMixed ["_law_bag", "_law_things"] spLMixed := by
  refine T.F_lMixed.ok sc_lMixed (fun vs H Q E h => ?_) (fun cdv A outer s H vs Q E hr h => ?_)
  · obtain ⟨b, c, t, ns, m, rfl, _⟩ := h
    rfl
  · obtain ⟨b, c, t, ns, m, rfl, hB, hm, ht, htb, h64, k⟩ := h
    have nd := sc_lMixed.nd
    have hr1 : Room 1 _ := hr.mono (by decide)
    refine ⟨_, pss_cons (ps_set (i := 2) nd rfl (Or.inl rfl) (pe_lst pa_nil))
      (pss_cons (ps_for PassesOwn.never rfl (pi_list (pv 1)) (pg_name (i := 3) nd rfl (Or.inl rfl))
        (pss_one (ps_expr (pe_bm PySem.F.plainAttrs_list PySem.F.slot_list_insert PySem.F.type_list_insert mt_insert (pv 2) (pa_cons (pe_call (ok_lDraw T) hr1 (by rfl) T.g_lDraw T.F_lDraw.kp (b_lDraw T) .nil pass0 (pa_cons (pv 0) (pa_cons (pe_op op_add (pe_callB call_len_seq (by rfl) T.b_len (by decide +kernel) (pa_cons (pv 2) pa_nil)) pe_int) pa_nil))) (pa_cons (pv 3) pa_nil))))))
      (pss_one (ps_ret (pv 2)))), ?_⟩
    refine ⟨by show 0 ≤ sizeLine; decide, fun l hl => ?_⟩
    obtain ⟨⟨bs, hbs⟩, cs, hcs⟩ := hB.lst
    have hlb : l ≠ b := (ne_of_none hbs hl).symm
    have hlc : l ≠ c := (ne_of_none hcs hl).symm
    refine ⟨_, rfl, t, rfl, ⟨_, SqL.of ((same_new hl) _ _ ht)⟩, for_list (K := K) (a := t) (xs := ns.map V.int) (fun i σ H' => ∃ (v3 : Option V) (ms : List Int), σ = [some (.ref b), some (.ref t), some (.ref l), v3] ∧ SameX b H H' ∧ Bag H' b c (m + i) ∧ ms.Perm (ns.take i) ∧ H' l = some (.lst (ms.map V.int))) ⟨none, [], rfl, (same_new hl).x, hB.same (same_new hl), by simp, upd_same⟩ (fun i σ H' _ ⟨_, _, _, s, _⟩ => SqL.of (s _ _ htb ht)) ?_ ?_⟩
    · rintro i x σ H1 hx ⟨v3, ms, rfl, s1, hB1, hp, hl1⟩
      obtain ⟨n, hn, rfl⟩ := get_map hx
      have hi := get_lt hn
      have hml : ms.length = i := by rw [hp.length_eq, List.length_take]; omega
      refine ⟨_, rfl, .inl ⟨rfl, _, SqL.of hl1⟩, _, rfl, _, rfl, l, _, rfl, .inl (SqL.of hl1), _, _, rfl, rfl, b, c, _, m + i, rfl, hB1, by omega, by rw [List.length_map, hml]; omega, by rw [List.length_map, hml]; omega, fun H2 r s2 hB2 h0 hlt => ?_⟩
      rw [List.length_map, hml] at hlt
      have hl2 := s2 _ _ hlb hl1
      refine ⟨_, rfl, l, _, r, _, rfl, rfl, hl2, by rw [List.length_map, hml]; exact small1000 (by omega), h0, by omega, ?_⟩
      refine ⟨_, ms.take r.toNat ++ [n] ++ ms.drop r.toNat, rfl, fun c o nc e => ?_, hB2.upd hlb hlc, ?_, ?_⟩
      · have : c ≠ l := ne_of_none e hl
        rw [upd_ne this]
        exact s2 _ _ nc (s1 _ _ nc e)
      · rw [take_succ_of hn]
        refine List.Perm.trans ?_ (hp.append_right [n])
        have e : ms = ms.take r.toNat ++ ms.drop r.toNat := (List.take_append_drop _ _).symm
        conv => rhs; rw [e]
        rw [List.append_assoc, List.append_assoc]
        exact List.perm_append_comm.append_left _
      · rw [upd_same]
        simp
    · rintro σ H1 ⟨v3, ms, rfl, s1, hB1, hp, hl1⟩
      rw [List.length_map] at hB1 hp
      rw [List.take_length] at hp
      exact ⟨_, rfl, k _ l ms hp s1 hB1 hl1 hl⟩
end
end K64W
set_option Elab.async false
set_option maxRecDepth 100000
set_option maxHeartbeats 4000000
/-! The law's comparison of data. -/
namespace K64W
open PySem L2 K64 K64R
theorem walk_zipT {K : PySem.W.Frag} {a b : Addr} {xs ys : List V} {n : Nat} (hn : n = min xs.length ys.length) : Walk (RZ.ItzT K a b) n (fun H => SqT K H a xs ∧ SqT K H b ys) (YPair (fun i => xs[i]?) (fun i => ys[i]?)) := by
  subst hn
  refine ⟨fun i _ hi q => ?_, fun _ q => ⟨xs, ys, q.1, q.2, by omega⟩, fun i H v H' _ q y => ?_⟩
  · have h1 : i < xs.length := by omega
    have h2 : i < ys.length := by omega
    exact ⟨xs, ys, xs[i], ys[i], q.1, q.2, by simp [h1], by simp [h2]⟩
  · obtain ⟨T, x, z, h1, h2, h3, h4, h5⟩ := y
    exact ⟨T, x, z, h1, h2, h3, h4 xs q.1, h5 ys q.2⟩
/-- a bool, an int, a text -/
def Sc (x : V) : Prop := (∃ b, x = .bl b) ∨ (∃ i, x = .int i) ∨ ∃ s, x = .str s
/-- two lists or two tuples whose items are alike -/
def EqC (R : V → V → Hp → Prop) (x y : V) (H : Hp) : Prop := (x = y ∧ Sc x) ∨ ∃ p q xs ys, x = .ref p ∧ y = .ref q ∧ Paired (fun x y => R x y H) xs ys ∧ xs.length ≤ 60 ∧ ((H p = some (.lst xs) ∧ H q = some (.lst ys)) ∨ (H p = some (.tup xs) ∧ H q = some (.tup ys)))
def EqD : Nat → V → V → Hp → Prop
  | 0 => fun _ _ _ => False
  | n + 1 => EqC (EqD n)
theorem EqC.same {R : V → V → Hp → Prop} (hR : ∀ x y H H', Same H H' → R x y H → R x y H') {x y : V} {H H' : Hp} (s : Same H H') (h : EqC R x y H) : EqC R x y H' := by
  rcases h with h | ⟨p, q, xs, ys, h1, h2, h3, h4, h5⟩
  · exact .inl h
  · exact .inr ⟨p, q, xs, ys, h1, h2, paired_mono (fun _ _ => hR _ _ _ _ s) h3, h4, h5.imp (fun h => ⟨s _ _ h.1, s _ _ h.2⟩) fun h => ⟨s _ _ h.1, s _ _ h.2⟩⟩
theorem EqD.same : ∀ (n : Nat) (x y : V) (H H' : Hp), Same H H' → EqD n x y H → EqD n x y H'
  | 0, _, _, _, _, _, h => h
  | n + 1, _, _, _, _, s, h => EqC.same (EqD.same n) s h
theorem paired_get {α β : Type} {F : α → β → Prop} {l : List α} {m : List β} (p : Paired F l m) : ∀ {i : Nat} {a : α} {b : β}, l[i]? = some a → m[i]? = some b → F a b := by
  induction p with
  | nil => intro i a b h; cases h
  | cons x _ ih =>
    intro i a b h1 h2
    cases i with
    | zero => cases h1; cases h2; exact x
    | succ i => exact ih (by simpa using h1) (by simpa using h2)
section
variable {P : Program} {w : World} {K : PySem.W.Frag} {mg : Str → Option Value} {base : Heap} {D : Ad}
def spSame (R : V → V → Hp → Prop) : Sp := fun vs H Q _ => ∃ x y : V, vs = [x, y] ∧ R x y H ∧ ∀ H', Same H H' → Q (.bl true) H'
abbrev nLSame : List Str := ["_law_found", "_law_due", "_law_a", "_law_b"]
theorem sc_lSame : FnScope nLSame ["_law_found", "_law_due"] (defScope s_lSame) := ⟨rfl, rfl, rfl, by decide +kernel, rfl, by decide +kernel, by decide +kernel⟩
/-- what isinstance says of a scalar, a list, a tuple -/
def TyN (H : Hp) (x : V) (t : String) : Prop := (∃ b, x = .bl b ∧ t = "bool") ∨ (∃ i, x = .int i ∧ t = "int") ∨ (∃ s, x = .str s ∧ t = "str") ∨ (∃ p xs, x = .ref p ∧ H p = some (.lst xs) ∧ t = "list") ∨ ∃ p xs, x = .ref p ∧ H p = some (.tup xs) ∧ t = "tuple"
theorem TyN.tyx {H : Hp} {x : V} {t : String} (h : TyN H x t) : TyX K H x (.type t) := by
  rcases h with ⟨b, rfl, rfl⟩ | ⟨b, rfl, rfl⟩ | ⟨b, rfl, rfl⟩ | ⟨p, xs, rfl, h, rfl⟩ | ⟨p, xs, rfl, h, rfl⟩
  · exact .base (.bl _)
  · exact .base (.int _)
  · exact .base (.str _)
  · exact .base (.lst h)
  · exact .base (.tup h)
theorem same_step (T : Txt K mg D) {n : Nat} {R : V → V → Hp → Prop} (hR : ∀ x y H H', Same H H' → R x y H → R x y H') (F : FnOk P w K mg base CX0 n D.f_lSame D.d_lSame ["_law_found", "_law_due"] (spSame R)) :
    FnOk P w K mg base CX0 (n + 1) D.f_lSame D.d_lSame ["_law_found", "_law_due"] (spSame (EqC R)) := by
  refine T.F_lSame.ok sc_lSame (fun vs H Q E h => ?_) (fun cdv A outer s H vs Q E hr h => ?_)
  · obtain ⟨x, y, rfl, _⟩ := h
    rfl
  · obtain ⟨x, y, rfl, hxy, k⟩ := h
    have nd := sc_lSame.nd
    refine ⟨_, pss_cons (ps_if (pt_val (pe_callB call_isiT (by rfl) T.b_isinstance (by decide +kernel) (pa_cons (pv 1) (pa_cons (pe_tup (pa_cons (pe_bltn (v := .ty "list") (by rfl) T.b_list (by decide +kernel) rfl) (pa_cons (pe_bltn (v := .ty "tuple") (by rfl) T.b_tuple (by decide +kernel) rfl) pa_nil))) pa_nil))))
        (pss_cons (ps_if (PW.pt (pw_or (pt_cmpR op_ne (pe_callB call_isi (by rfl) T.b_isinstance (by decide +kernel) (pa_cons (pv 0) (pa_cons (pe_bltn (v := .ty "list") (by rfl) T.b_list (by decide +kernel) rfl) pa_nil))) (pe_callB call_isi (by rfl) T.b_isinstance (by decide +kernel) (pa_cons (pv 1) (pa_cons (pe_bltn (v := .ty "list") (by rfl) T.b_list (by decide +kernel) rfl) pa_nil))) (nomark _))
            (pw_or1 (pt_cmpR op_ne (pe_callB call_isi (by rfl) T.b_isinstance (by decide +kernel) (pa_cons (pv 0) (pa_cons (pe_bltn (v := .ty "tuple") (by rfl) T.b_tuple (by decide +kernel) rfl) pa_nil))) (pe_callB call_isi (by rfl) T.b_isinstance (by decide +kernel) (pa_cons (pv 1) (pa_cons (pe_bltn (v := .ty "tuple") (by rfl) T.b_tuple (by decide +kernel) rfl) pa_nil))) (nomark _)))))
          pss_never pss_nil)
        (pss_one (ps_ret (pe_and (pe_cmpR op_eq (pe_callB call_len_seq (by rfl) T.b_len (by decide +kernel) (pa_cons (pv 0) pa_nil)) (pe_callB call_len_seq (by rfl) T.b_len (by decide +kernel) (pa_cons (pv 1) pa_nil)) (nomark _))
          (pe_one (pe_callB (cr_all rfl) (by rfl) T.b_all (by decide +kernel) (pa_cons (pe_lc (own := [("_law_a", 2), ("_law_b", 3)]) (g := gTup K 2 (gCons (gName 2) (gCons (gName 3) gNil))) (by rfl) nd
            (RZ.pi_zipA (by rfl) T.b_zip (pa_cons (pv 0) (pa_cons (pv 1) pa_nil)))
            (blkOk_by (N := nLSame) (sc := defScope s_lSame) (own := [("_law_a", 2), ("_law_b", 3)]) (by decide +kernel))
            (fun _ _ _ _ _ => by exact tupK K rfl (pgs_cons (pg_name (i := 2) nd rfl (Or.inl rfl)) (pgs_cons (pg_name (i := 3) nd rfl (Or.inl rfl)) pgs_nil))) (fun _ _ _ _ _ => pts_nil)
            (fun _ _ _ _ _ => by exact pe_call F hr (by rfl) T.g_lSame T.F_lSame.kp (b_lSame T) .nil pass0 (pa_cons (pv 2) (pa_cons (pv 3) pa_nil)))) pa_nil))))))) pss_nil)
      (pss_cons (ps_if (PW.pt (pw_or (pt_cmpR op_isN (pv 1) pe_non (nomark _)) (pw_or1 (pt_cmpR op_isN (pv 0) pe_non (nomark _))))) pss_never pss_nil)
      (pss_cons (ps_if (PW.pt (pw_or (pt_cmpR op_ne (pe_callB call_isi (by rfl) T.b_isinstance (by decide +kernel) (pa_cons (pv 1) (pa_cons (pe_bltn (v := .ty "bool") (by rfl) T.b_bool (by decide +kernel) rfl) pa_nil))) (pe_callB call_isi (by rfl) T.b_isinstance (by decide +kernel) (pa_cons (pv 0) (pa_cons (pe_bltn (v := .ty "bool") (by rfl) T.b_bool (by decide +kernel) rfl) pa_nil))) (nomark _))
          (pw_or1 (pt_cmpR op_ne (pe_callB call_isi (by rfl) T.b_isinstance (by decide +kernel) (pa_cons (pv 1) (pa_cons (pe_bltn (v := .ty "int") (by rfl) T.b_int (by decide +kernel) rfl) pa_nil))) (pe_callB call_isi (by rfl) T.b_isinstance (by decide +kernel) (pa_cons (pv 0) (pa_cons (pe_bltn (v := .ty "int") (by rfl) T.b_int (by decide +kernel) rfl) pa_nil))) (nomark _))))) pss_never pss_nil)
      (pss_one (ps_ret (pe_and (pe_cmpR op_eq (pe_callB call_isi (by rfl) T.b_isinstance (by decide +kernel) (pa_cons (pv 1) (pa_cons (pe_bltn (v := .ty "str") (by rfl) T.b_str (by decide +kernel) rfl) pa_nil))) (pe_callB call_isi (by rfl) T.b_isinstance (by decide +kernel) (pa_cons (pv 0) (pa_cons (pe_bltn (v := .ty "str") (by rfl) T.b_str (by decide +kernel) rfl) pa_nil))) (nomark _)) (pe_one (pe_cmpR op_eq (pv 0) (pv 1) (nomark _)))))))), ?_⟩
    rcases hxy with ⟨rfl, hsc⟩ | ⟨p, q, xs, ys, rfl, rfl, hp, hlen, hh⟩
    · have facts : ∃ t bb bi bs, TyN H x t ∧ kitB t "list" = some false ∧ kitB t "tuple" = some false ∧ kitB t "bool" = some bb ∧ kitB t "int" = some bi ∧ kitB t "str" = some bs ∧ scal x x = true ∧ decide (x = .non) = false := by
        rcases hsc with ⟨b, rfl⟩ | ⟨b, rfl⟩ | ⟨b, rfl⟩
        · exact ⟨"bool", true, true, false, .inl ⟨_, rfl, rfl⟩, by decide +kernel, by decide +kernel, by decide +kernel, by decide +kernel, by decide +kernel, rfl, rfl⟩
        · exact ⟨"int", false, true, false, .inr (.inl ⟨_, rfl, rfl⟩), by decide +kernel, by decide +kernel, by decide +kernel, by decide +kernel, by decide +kernel, rfl, rfl⟩
        · exact ⟨"str", false, false, true, .inr (.inr (.inl ⟨_, rfl, rfl⟩)), by decide +kernel, by decide +kernel, by decide +kernel, by decide +kernel, by decide +kernel, rfl, rfl⟩
      obtain ⟨t, bb, bi, bs, hT, k1, k2, k3, k4, k5, hs, hno⟩ := facts
      have hsb : ∀ b : Bool, scal (.bl b) (.bl b) = true := fun _ => rfl
      have hne : ∀ b : Bool, (!decide (V.bl b = V.bl b)) = false := fun b => by simp
      refine ⟨_, rfl, by show 2 ≤ sizeLine; decide, fun tp htp => ?_⟩
      have s1 := same_new (o := .tup [.ty "list", .ty "tuple"]) htp
      have hT1 : TyN (upd H tp (.tup [.ty "list", .ty "tuple"])) x t := by
        rcases hT with h | h | h | ⟨p, xs, e, h, e2⟩ | ⟨p, xs, e, h, e2⟩
        · exact .inl h
        · exact .inr (.inl h)
        · exact .inr (.inr (.inl h))
        · exact .inr (.inr (.inr (.inl ⟨p, xs, e, s1 _ _ h, e2⟩)))
        · exact .inr (.inr (.inr (.inr ⟨p, xs, e, s1 _ _ h, e2⟩)))
      refine ⟨x, tp, _, _, [.type "list", .type "tuple"], false, rfl, upd_same, .cons (.ty _) (.cons (.ty _) .nil), hT1.tyx, kitAny_cons (kit_ty k1) (fun _ => kitAny_cons (kit_ty k2) (fun _ => kitAny_nil) (fun z => nomatch z)) (fun z => nomatch z), false, rfl, iteF ?_⟩
      refine ⟨_, rfl, rfl, _, rfl, iteF' hno ⟨_, rfl, rfl, _, rfl, iteF' hno ?_⟩⟩
      refine ⟨_, rfl, _, _, _, _, bb, rfl, .ty _, hT1.tyx, kit_ty k3, _, rfl, _, _, _, _, bb, rfl, .ty _, hT1.tyx, kit_ty k3, hsb _, _, rfl, iteF' (hne _) ?_⟩
      refine ⟨_, rfl, _, _, _, _, bi, rfl, .ty _, hT1.tyx, kit_ty k4, _, rfl, _, _, _, _, bi, rfl, .ty _, hT1.tyx, kit_ty k4, hsb _, _, rfl, iteF' (hne _) ?_⟩
      refine ⟨_, rfl, _, _, _, _, bs, rfl, .ty _, hT1.tyx, kit_ty k5, _, rfl, _, _, _, _, bs, rfl, .ty _, hT1.tyx, kit_ty k5, hsb _, _, rfl, iteT' (decide_eq_true rfl) ?_⟩
      refine ⟨_, rfl, _, rfl, hs, ?_⟩
      have e : decide (x = x) = true := decide_eq_true rfl
      show Q (.bl (decide (x = x))) _
      rw [e]
      exact k _ s1
    · have hly := paired_len hp
      have facts : ∃ t bL bT, TyN H (.ref p) t ∧ TyN H (.ref q) t ∧ kitB t "list" = some bL ∧ kitB t "tuple" = some bT ∧ (bL = false → bT = true) ∧ ((bL = true ∧ H p = some (.lst xs) ∧ H q = some (.lst ys)) ∨ (bT = true ∧ H p = some (.tup xs) ∧ H q = some (.tup ys))) := by
        rcases hh with ⟨h1, h2⟩ | ⟨h1, h2⟩
        · exact ⟨"list", true, false, .inr (.inr (.inr (.inl ⟨_, _, rfl, h1, rfl⟩))), .inr (.inr (.inr (.inl ⟨_, _, rfl, h2, rfl⟩))), by decide +kernel, by decide +kernel, (fun z => nomatch z), .inl ⟨rfl, h1, h2⟩⟩
        · exact ⟨"tuple", false, true, .inr (.inr (.inr (.inr ⟨_, _, rfl, h1, rfl⟩))), .inr (.inr (.inr (.inr ⟨_, _, rfl, h2, rfl⟩))), by decide +kernel, by decide +kernel, (fun _ => rfl), .inr ⟨rfl, h1, h2⟩⟩
      obtain ⟨t, bL, bT, hTp, hTq, k1, k2, hLT, hh⟩ := facts
      have hsb : ∀ b : Bool, scal (.bl b) (.bl b) = true := fun _ => rfl
      have hne : ∀ b : Bool, (!decide (V.bl b = V.bl b)) = false := fun b => by simp
      refine ⟨_, rfl, by show 2 ≤ sizeLine; decide, fun tp htp => ?_⟩
      have s1 := same_new (o := .tup [.ty "list", .ty "tuple"]) htp
      have up : ∀ {x : V}, TyN H x t → TyN (upd H tp (.tup [.ty "list", .ty "tuple"])) x t := fun hT => by
        rcases hT with h | h | h | ⟨p, xs, e, h, e2⟩ | ⟨p, xs, e, h, e2⟩
        · exact .inl h
        · exact .inr (.inl h)
        · exact .inr (.inr (.inl h))
        · exact .inr (.inr (.inr (.inl ⟨p, xs, e, s1 _ _ h, e2⟩)))
        · exact .inr (.inr (.inr (.inr ⟨p, xs, e, s1 _ _ h, e2⟩)))
      have hTp1 := up hTp
      have hTq1 := up hTq
      refine ⟨.ref q, tp, _, _, [.type "list", .type "tuple"], true, rfl, upd_same, .cons (.ty _) (.cons (.ty _) .nil), hTq1.tyx, kitAny_cons (kit_ty k1) (fun z => kitAny_cons (kit_ty k2) (fun y => by rw [hLT z] at y; cases y) (fun _ => rfl)) (fun _ => rfl), true, rfl, iteT ?_⟩
      refine ⟨_, rfl, _, _, _, _, bL, rfl, .ty _, hTp1.tyx, kit_ty k1, _, rfl, _, _, _, _, bL, rfl, .ty _, hTq1.tyx, kit_ty k1, hsb _, _, rfl, iteF' (hne _) ?_⟩
      refine ⟨_, rfl, _, _, _, _, bT, rfl, .ty _, hTp1.tyx, kit_ty k2, _, rfl, _, _, _, _, bT, rfl, .ty _, hTq1.tyx, kit_ty k2, hsb _, _, rfl, iteF' (hne _) ?_⟩
      have hsq : (SqL K (upd H tp (.tup [.ty "list", .ty "tuple"])) p xs ∧ SqL K (upd H tp (.tup [.ty "list", .ty "tuple"])) q ys) ∨ (SqT K (upd H tp (.tup [.ty "list", .ty "tuple"])) p xs ∧ SqT K (upd H tp (.tup [.ty "list", .ty "tuple"])) q ys) := by
        rcases hh with ⟨_, h1, h2⟩ | ⟨_, h1, h2⟩
        · exact .inl ⟨SqL.of (s1 _ _ h1), SqL.of (s1 _ _ h2)⟩
        · exact .inr ⟨SqT.of (s1 _ _ h1), SqT.of (s1 _ _ h2)⟩
      refine ⟨_, rfl, p, xs, rfl, hsq.imp (·.1) (·.1), _, rfl, q, ys, rfl, hsq.imp (·.2) (·.2), rfl, _, rfl, iteT' (decide_eq_true (by rw [hly])) ?_⟩
      have fin : ∀ {De : Addr} {H2 : Hp}, Same (upd H tp (.tup [.ty "list", .ty "tuple"])) H2 → H2 De = some (.lst (((xs.zip ys).map fun _ => true).map V.bl)) → rAll K [V.ref De] H2 Q := fun {De H2} s2 h2 => by
        refine ⟨De, _, rfl, SqL.of h2, ?_⟩
        rw [all_true (fun _ _ => rfl)]
        exact k _ (s1.trans s2)
      rcases hsq with ⟨h1, h2⟩ | ⟨h1, h2⟩
      · refine ⟨_, rfl, _, rfl, p, q, xs, ys, rfl, .inl ⟨h1, h2, fun De hDe => ?_⟩⟩
        refine lc_pure (walk_zip (xs := xs) (ys := ys) rfl) (xs.zip ys) (fun _ => true) V.bl (fun _ => true) (List.length_zip ..).symm (by rw [List.length_zip]; omega) hDe (fun H' s' => ⟨s'.seq h1, s'.seq h2⟩) (fun i x a H2 H2' ha s2 y => ?_) (fun H2 s2 g2 => fin s2 (by rw [filter_yes] at g2; exact g2))
        obtain ⟨t3, u, v, rfl, ht3, rfl, hu, hv⟩ := y
        have s3 := same_new (o := .tup [u, v]) ht3
        refine ⟨s3, turn_pair (SqT.of upd_same) rfl yes_of fun _ H4 s4 Q' hQ => ?_⟩
        have hR4 : R u v H4 := hR _ _ _ _ (s1.trans ((s2.trans s3).trans s4)) (paired_get hp hu hv)
        exact ⟨_, rfl, _, rfl, u, v, rfl, hR4, fun H5 s5 => hQ _ _ s5 rfl⟩
      · refine ⟨_, rfl, _, rfl, p, q, xs, ys, rfl, .inr ⟨h1, h2, fun De hDe => ?_⟩⟩
        refine lc_pure (walk_zipT (xs := xs) (ys := ys) rfl) (xs.zip ys) (fun _ => true) V.bl (fun _ => true) (List.length_zip ..).symm (by rw [List.length_zip]; omega) hDe (fun H' s' => ⟨s'.seqT h1, s'.seqT h2⟩) (fun i x a H2 H2' ha s2 y => ?_) (fun H2 s2 g2 => fin s2 (by rw [filter_yes] at g2; exact g2))
        obtain ⟨t3, u, v, rfl, ht3, rfl, hu, hv⟩ := y
        have s3 := same_new (o := .tup [u, v]) ht3
        refine ⟨s3, turn_pair (SqT.of upd_same) rfl yes_of fun _ H4 s4 Q' hQ => ?_⟩
        have hR4 : R u v H4 := hR _ _ _ _ (s1.trans ((s2.trans s3).trans s4)) (paired_get hp hu hv)
        exact ⟨_, rfl, _, rfl, u, v, rfl, hR4, fun H5 s5 => hQ _ _ s5 rfl⟩
theorem ok_same (T : Txt K mg D) : ∀ n : Nat, FnOk P w K mg base CX0 n D.f_lSame D.d_lSame ["_law_found", "_law_due"] (spSame (EqD n))
  | 0 => ⟨fun _ _ _ _ h => by obtain ⟨_, _, _, h, _⟩ := h; exact h.elim, fun _ _ _ _ _ _ _ _ _ _ _ _ _ h => by obtain ⟨_, _, _, h, _⟩ := h; exact h.elim⟩
  | n + 1 => same_step T (EqD.same n) (ok_same T n)
end
end K64W
set_option Elab.async false
set_option maxRecDepth 100000
set_option maxHeartbeats 4000000
/-! The law's room, need; what isinstance asks of own classes. -/
namespace K64W
open PySem L2 K64 K64R
/-- what isinstance asks of the two classes -/
structure TxtI (K : PySem.W.Frag) (D : Ad) : Prop where
  kEm : PySem.W.findIn K (.ref D.cEm) "__class__" = some (some (.builtin "object.__class__"))
  kBl : PySem.W.findIn K (.ref D.cBl) "__class__" = some (some (.builtin "object.__class__"))
  get : PySem.W.specialIn K (.builtin "object.__class__") "__get__" = some (some (.builtin "getset_descriptor.__get__"))
  tk : PySem.W.takesIn K (.builtin "object.__class__") = some true
  mEm : PySem.W.mroIn K D.cEm (.type "object") = some true
  mBl : PySem.W.mroIn K D.cBl (.type "object") = some true
  oEm : PySem.W.kitOne K (.ref D.cEm) (.ref D.cEm) = some true
  oBl : PySem.W.kitOne K (.ref D.cBl) (.ref D.cBl) = some true
section
variable {P : Program} {w : World} {K : PySem.W.Frag} {mg : Str → Option Value} {base : Heap} {D : Ad}
def spLRoom : Sp := fun vs H Q _ => ∃ (t r : Addr) (S : List Int) (N : List Pr), vs = [.ref t, .ref r] ∧ H t = some (.lst (S.map V.int)) ∧ S.length ≤ 64 ∧ (∀ s ∈ S, s ∈ SIZES) ∧ Rows H r e2 N ∧ (∀ p ∈ N, p.1 ∈ SIZES) ∧ N.length ≤ 64 ∧ ∀ H', Same H H' → Q (.int (room S N)) H'
abbrev nLRoom : List Str := ["_law_lot", "_law_rows", "_law_count", "_law_great", "_law_size"]
theorem sc_lRoom : FnScope nLRoom ["_law_lot", "_law_rows"] (defScope s_lRoom) := ⟨rfl, rfl, rfl, by decide +kernel, rfl, by decide +kernel, by decide +kernel⟩
theorem ok_lRoom (T : Txt K mg D) : FnOk P w K mg base CX0 3 D.f_lRoom D.d_lRoom ["_law_lot", "_law_rows"] spLRoom := by
  refine T.F_lRoom.ok sc_lRoom (fun vs H Q E h => ?_) (fun cdv A outer s H vs Q E hr h => ?_)
  · obtain ⟨t, r, S, N, rfl, _⟩ := h
    rfl
  · obtain ⟨t, r, S, N, rfl, ht, lS, hS, hR, hN, lN, k⟩ := h
    have nd := sc_lRoom.nd
    refine ⟨_, pss_one (ps_ret (pe_callB (sumK K) (by rfl) T.b_sum (by decide +kernel) (pa_cons (pe_lc (own := [("_law_count", 2), ("_law_great", 3)]) (g := gTup K 2 (gCons (gName 3) (gCons (gName 2) gNil))) (by rfl) nd
      (pi_list (pv 1))
      (blkOk_by (N := nLRoom) (sc := defScope s_lRoom) (own := [("_law_count", 2), ("_law_great", 3)]) (by decide +kernel))
      (fun _ _ _ _ _ => by exact tupK K rfl (pgs_cons (pg_name (i := 3) nd rfl (Or.inr rfl)) (pgs_cons (pg_name (i := 2) nd rfl (Or.inl rfl)) pgs_nil)))
      (fun _ _ _ _ _ => by exact pts_one (pt_val (pe_callB (anyK K) (by rfl) T.b_any (by decide +kernel) (pa_cons (pe_lc (own := [("_law_size", 4)]) (g := gName 4) (by rfl) nd (listK K (pv 0))
        (blkOk_by (N := nLRoom) (sc := relS _ (defScope s_lRoom)) (own := [("_law_size", 4)]) (by decide +kernel))
        (fun _ _ _ _ _ => pg_name (i := 4) nd rfl (Or.inl rfl)) (fun _ _ _ _ _ => pts_nil)
        (fun _ _ _ _ _ => by exact pe_call (ok_lLies T) hr (by rfl) T.g_lLies T.F_lLies.kp (b_lLies T) .nil pass0 (pa_cons (pv 4) (pa_cons (pv 3) pa_nil)))) pa_nil))))
      (fun _ _ _ _ _ => pv 2)) pa_nil))), ?_⟩
    obtain ⟨ks, hl, hks, hks2⟩ := hR
    refine ⟨_, rfl, r, rfl, ⟨_, SqL.of hl⟩, fun Dd hDd => ?_⟩
    refine lc_pure (walk_list (xs := ks.map fun p => V.ref p.1)) N (fun q => S.any fun s => lies s q.1) V.int (fun q => q.2) (by rw [List.length_map, ks_len hks2]) (by omega) hDd (fun H' s' => SqL.of (s' _ _ hl))
      (fun i x a H2 H2' ha s2 y => ?_) (fun H2 s2 h2 => ?_)
    · obtain ⟨rfl, q, hq, rfl, rfl⟩ := src_rows hks2 ha y
      have hmem := List.mem_of_getElem? ha
      refine ⟨Same.refl _, turn_pair (SqT.of (s2 _ _ (hks q hq))) rfl (fun Q' hQ => ?_) (fun hb H3 s3 Q' hQ => ⟨_, rfl, hQ _ _ (Same.refl _) rfl⟩)⟩
      refine ⟨_, rfl, t, rfl, ⟨_, SqL.of (s2 _ _ ht)⟩, fun De hDe => ?_⟩
      refine lc_pure (walk_list (xs := S.map V.int)) S (fun _ => true) V.bl (fun s => lies s q.2.1) (List.length_map ..) (by omega) hDe (fun H' s' => SqL.of (s' _ _ (s2 _ _ ht)))
        (fun i x a H3 H3' ha' s3 y => ?_) (fun H3 s3 h3 => ?_)
      · obtain ⟨rfl, rfl⟩ := src_list ha' y
        refine ⟨Same.refl _, turn_name rfl yes_of fun _ H4 s4 Q2 hQ2 => ?_⟩
        exact ⟨_, rfl, _, rfl, a, q.2.1, rfl, hS a (List.mem_of_getElem? ha'), hN _ hmem, fun H5 s5 => hQ2 _ _ s5 rfl⟩
      · refine ⟨De, (S.filter fun _ => true).map fun s => lies s q.2.1, rfl, SqL.of h3, ?_⟩
        rw [any_map, filter_yes]
        exact ⟨_, rfl, hQ _ s3⟩
    · refine ⟨Dd, (N.filter fun q => S.any fun s => lies s q.1).map fun q => q.2, rfl, SqL.of h2, ?_⟩
      have e : ((N.filter fun q => S.any fun s => lies s q.1).map fun q => q.2).sum = room S N := by
        rw [tot_sum, tot_filter]
        rfl
      rw [e]
      exact k _ s2
def spLNeed : Sp := fun vs H Q _ => ∃ (t r : Addr) (S : List Int) (N : List Pr), vs = [.ref t, .ref r] ∧ H t = some (.lst (S.map V.int)) ∧ S.length ≤ 64 ∧ Rows H r e2 N ∧ N.length ≤ 64 ∧ ∀ H', Same H H' → Q (.int (need S N)) H'
abbrev nLNeed : List Str := ["_law_lot", "_law_rows", "_law_count", "_law_size"]
theorem sc_lNeed : FnScope nLNeed ["_law_lot", "_law_rows"] (defScope s_lNeed) := ⟨rfl, rfl, rfl, by decide +kernel, rfl, by decide +kernel, by decide +kernel⟩
theorem ok_lNeed (T : Txt K mg D) : FnOk P w K mg base CX0 1 D.f_lNeed D.d_lNeed ["_law_lot", "_law_rows"] spLNeed := by
  refine T.F_lNeed.ok sc_lNeed (fun vs H Q E h => ?_) (fun cdv A outer s H vs Q E hr h => ?_)
  · obtain ⟨t, r, S, N, rfl, _⟩ := h
    rfl
  · obtain ⟨t, r, S, N, rfl, ht, lS, hR, lN, k⟩ := h
    have nd := sc_lNeed.nd
    refine ⟨_, pss_one (ps_ret (pe_callB (sumK K) (by rfl) T.b_sum (by decide +kernel) (pa_cons (pe_lc (own := [("_law_count", 2), ("_law_size", 3)]) (g := gTup K 2 (gCons (gName 3) (gCons (gName 2) gNil))) (by rfl) nd
      (pi_list (pv 1))
      (blkOk_by (N := nLNeed) (sc := defScope s_lNeed) (own := [("_law_count", 2), ("_law_size", 3)]) (by decide +kernel))
      (fun _ _ _ _ _ => by exact tupK K rfl (pgs_cons (pg_name (i := 3) nd rfl (Or.inl rfl)) (pgs_cons (pg_name (i := 2) nd rfl (Or.inl rfl)) pgs_nil)))
      (fun _ _ _ _ _ => by exact pts_one (pt_cmpR (inK K) (pv 3) (pv 0) (by rfl)))
      (fun _ _ _ _ _ => pv 2)) pa_nil))), ?_⟩
    obtain ⟨ks, hl, hks, hks2⟩ := hR
    refine ⟨_, rfl, r, rfl, ⟨_, SqL.of hl⟩, fun Dd hDd => ?_⟩
    refine lc_pure (walk_list (xs := ks.map fun p => V.ref p.1)) N (fun q => decide (q.1 ∈ S)) V.int (fun q => q.2) (by rw [List.length_map, ks_len hks2]) (by omega) hDd (fun H' s' => SqL.of (s' _ _ hl))
      (fun i x a H2 H2' ha s2 y => ?_) (fun H2 s2 h2 => ?_)
    · obtain ⟨rfl, q, hq, rfl, rfl⟩ := src_rows hks2 ha y
      refine ⟨Same.refl _, turn_pair (SqT.of (s2 _ _ (hks q hq))) rfl (fun Q' hQ => ?_) (fun hb H3 s3 Q' hQ => ⟨_, rfl, hQ _ _ (Same.refl _) rfl⟩)⟩
      refine ⟨_, rfl, _, rfl, t, _, rfl, .inl (SqL.of (s2 _ _ ht)), rfl, flat_ints _, decide (q.2.1 ∈ S), ?_, hQ _ (Same.refl _)⟩
      refine congrArg V.bl ?_
      by_cases c : q.2.1 ∈ S
      · rw [decide_eq_true c]; exact inV_yes c
      · rw [decide_eq_false c]; exact inV_no c
    · refine ⟨Dd, (N.filter fun q => decide (q.1 ∈ S)).map fun q => q.2, rfl, SqL.of h2, ?_⟩
      have e : ((N.filter fun q => decide (q.1 ∈ S)).map fun q => q.2).sum = need S N := by
        rw [tot_sum, tot_filter]
        exact tot_congr fun p _ => by simp
      rw [e]
      exact k _ s2
end
end K64W
set_option Elab.async false
set_option maxRecDepth 100000
set_option maxHeartbeats 4000000
/-! The law's look at an embedding's amounts. -/
namespace K64R
open PySem PySem.Spec PyProof.Rows L2
variable {X : Cx}
theorem call_len_setT2 : CallR X (.builtin "len") (fun xs H Q => ∃ (a : Addr) (L : List (Addr × List Int)), xs = [V.ref a] ∧ H a = some (SetTO X.prog X.w a L) ∧ (∀ p ∈ L, SqT X.K H p.1 (p.2.map V.int)) ∧ ((L.map (·.2)).Nodup → Q (.int ((L.length : Nat) : Int)) H)) := by
  intro pins s σ H xs us Q I r h
  obtain ⟨a, L, rfl, ha, ht, q⟩ := h
  rw [Vals.ref1 r]
  have R0 : SetT0 X.prog X.w s.heap a L := (I.hok a _ ha).1
  obtain ⟨es, ep, t, R⟩ := R0.full fun p hp => I.isT (ht p hp)
  obtain ⟨o, ho, hex, hd⟩ := R.ob
  have hn : es.size = L.length := R.size
  refine call_len_set ho hex hd R.fits (by rw [hn]; have := R.few; omega) ⟨.int (L.length : Nat), H, I.tok _, ⟨_, by rw [hn]⟩, q R.nd⟩
end K64R
namespace K64W
open PySem L2 K64 K64R
section
variable {P : Program} {w : World} {K : PySem.W.Frag} {mg : Str → Option Value} {base : Heap} {D : Ad}
theorem perm_nd {α : Type} [DecidableEq α] {l m : List α} (h1 : l.Nodup) (h2 : m.Nodup) (h : ∀ a, a ∈ l ↔ a ∈ m) : l.length = m.length := ((List.perm_ext_iff_of_nodup h1 h2).mpr h).length_eq
theorem f2_bd {L : List Pr} (h : Sh0 L) : ∀ r ∈ L, (f2 r).length = 2 ∧ TS.Bd BB (f2 r) := fun r hr => by
  have h1 := sizes_ok r.1 (h.sz r hr)
  have h2 := h.pos r hr
  refine ⟨rfl, fun m hm => ?_⟩
  simp only [f2, List.mem_cons, List.not_mem_nil, or_false] at hm
  unfold BB
  rcases hm with rfl | rfl <;> omega
theorem keys_cnt {L : List Pr} (hn : (keys L).Nodup) : (keys L).map (fun s => (s, cnt L s)) = L := by
  unfold keys
  rw [List.map_map]
  conv => rhs; rw [← List.map_id L]
  refine List.map_congr_left fun p hp => ?_
  show (p.1, cnt L p.1) = p
  rw [cnt_of hn hp]
theorem sort_prs {K : PySem.W.Frag} {H : Hp} {a : Addr} {R N : List Pr} (h : Rows H a e2 R) (hN : Sh0 N) (hlen : N.length < 64) (hp : R.Perm N) {Q : VK} (k : ∀ (H' : Hp) (p : Addr), Same H H' → Rows H' p e2 (srt N) → Q (.ref p) H') : rSortU K 2 BB [V.ref a] H Q := by
  refine sortU_of f2 (fun _ => rfl) h (by rw [hp.length_eq]; exact hlen) (fun x hx => f2_bd hN x (hp.mem_iff.mp hx)) fun L' H' p hp' hc s R' => ?_
  have e : L' = srt N := prs_unique hN.nd (hp'.trans hp) (hc.imp fun {r q} h => by rw [code2, code2] at h; exact h) fun p hp => by
    have := hN.pos p hp
    unfold BB; omega
  subst e
  exact k H' p s R'
def spLAm (D : Ad) : Sp := fun vs H Q _ => ∃ (o r p : Addr) (L N : List Pr) (M : List Tri), vs = [.ref o, .ref r, .ref p] ∧ Rows H o e2 L ∧ Rows H r e2 N ∧ Sh0 L ∧ Sh0 N ∧ L.length ≤ 7 ∧ N.length ≤ 7 ∧ IsEm D H p M ∧ VE (srt L) (srt N) M ∧ ∀ H', Same H H' → Q (.bl true) H'
abbrev nLAm : List Str := ["_law_one_here", "_law_other", "_law_found", "_law_amounts", "_law_used", "_law_given", "_law_keys", "_law_sizes", "_law_size", "_law_great", "_law_amount", "_law_count"]
theorem sc_lAm : FnScope nLAm ["_law_one_here", "_law_other", "_law_found"] (defScope s_lAmounts) := ⟨rfl, rfl, rfl, by decide +kernel, rfl, by decide +kernel, by decide +kernel⟩
theorem ok_lAm (T : Txt K mg D) (TI : TxtI K D) : FnOk P w K mg base CX0 3 D.f_lAmounts D.d_lAmounts ["_law_one_here", "_law_other", "_law_found"] (spLAm D) := by
  refine T.F_lAmounts.ok sc_lAm (fun vs H Q E h => ?_) (fun cdv A outer s H vs Q E hr h => ?_)
  · obtain ⟨o, r, p, L, N, M, rfl, _⟩ := h
    rfl
  · obtain ⟨o, r, p, L, N, M, rfl, hRo, hRr, hL, hN, lL, lN, hp, hV, k⟩ := h
    have nd := sc_lAm.nd
    have hu := hu_of hr
    have hu64 := hr.units
    have hr1 : Room 1 _ := hr.mono (by decide)
    refine ⟨_, pss_cons (ps_asg (pe_tup (pa_cons (pe_meth0 (pv 2) T.cEm T.M_emAmounts (ok_emAmounts T) hr1 (b_emAmounts T) .nil pass0) (pa_cons pe_dnewK (pa_cons pe_dnewK pa_nil)))) (pg_tup rfl (pgs_cons (pg_name (i := 3) nd rfl (Or.inl rfl)) (pgs_cons (pg_name (i := 4) nd rfl (Or.inr rfl)) (pgs_cons (pg_name (i := 5) nd rfl (Or.inr rfl)) pgs_nil)))))
      (pss_cons (ps_par (i := 6) (j := 7) (by rfl) nd rfl rfl (by decide) rfl rfl
          (pa_cons (pe_lc (own := [("_law_size", 8), ("_law_great", 9), ("_law_amount", 10)]) (g := gTup K 3 (gCons (gName 8) (gCons (gName 9) (gCons (gName 10) gNil)))) (by rfl) nd (pi_list (pv 3))
              (blkOk_by (N := nLAm) (sc := defScope s_lAmounts) (own := [("_law_size", 8), ("_law_great", 9), ("_law_amount", 10)]) (by decide +kernel))
              (fun _ _ _ _ _ => by exact tupK K rfl (pgs_cons (pg_name (i := 8) nd rfl (Or.inl rfl)) (pgs_cons (pg_name (i := 9) nd rfl (Or.inl rfl)) (pgs_cons (pg_name (i := 10) nd rfl (Or.inl rfl)) pgs_nil)))) (fun _ _ _ _ _ => pts_nil)
              (fun _ _ _ _ _ => pe_tup (pa_cons (pv 8) (pa_cons (pv 9) pa_nil))))
            (pa_cons (pe_lc (own := [("_law_size", 8), ("_law_count", 11)]) (g := gTup K 2 (gCons (gName 8) (gCons (gName 11) gNil))) (by rfl) nd (pi_list (pv 0))
              (blkOk_by (N := nLAm) (sc := defScope s_lAmounts) (own := [("_law_size", 8), ("_law_count", 11)]) (by decide +kernel))
              (fun _ _ _ _ _ => by exact tupK K rfl (pgs_cons (pg_name (i := 8) nd rfl (Or.inl rfl)) (pgs_cons (pg_name (i := 11) nd rfl (Or.inl rfl)) pgs_nil))) (fun _ _ _ _ _ => pts_nil)
              (fun _ _ _ _ _ => pv 8)) pa_nil)) (by rfl))
      (pss_cons (ps_if (PW.pt (pw_or (pt_not (pt_val (pe_callB call_isi (by rfl) T.b_isinstance (by decide +kernel) (pa_cons (pv 2) (pa_cons (pe_glob (v := .ref D.cEm) (by rfl) T.gEm rfl) pa_nil)))))
          (pw_or (pt_cmpR (op_neD hu64) (pv 3) (pe_callB (cr_sortT (d := 3) (B := BB) (by decide)) (by rfl) T.b_sorted (by decide +kernel) (pa_cons (pv 3) pa_nil)) (nomark _))
          (pw_or1 (pt_cmpR op_ne (pe_callB call_len_setT2 (by rfl) T.b_len (by decide +kernel) (pa_cons (pe_callTy (cr_setOfT (by rfl) hu64) (by rfl) T.b_set (by decide +kernel) (pa_cons (pv 6) pa_nil)) pa_nil)) (pe_callB call_len_seq (by rfl) T.b_len (by decide +kernel) (pa_cons (pv 6) pa_nil)) (nomark _)))))) pss_never pss_nil)
      (pss_cons (ps_for PassesOwn.never rfl (pi_list (pv 3)) (pg_tup rfl (pgs_cons (pg_name (i := 8) nd rfl (Or.inl rfl)) (pgs_cons (pg_name (i := 9) nd rfl (Or.inl rfl)) (pgs_cons (pg_name (i := 10) nd rfl (Or.inl rfl)) pgs_nil))))
        (pss_cons (ps_if (PW.pt (pw_or (pt_not (pt_val (pe_call (ok_lLies T) hr (by rfl) T.g_lLies T.F_lLies.kp (b_lLies T) .nil pass0 (pa_cons (pv 8) (pa_cons (pv 9) pa_nil)))))
            (pw_or (pt_cmpR op_lt (pv 10) pe_int (nomark _)) (pw_or1 (pt_cmpR op_notIn_seq (pv 8) (pv 7) (by rfl)))))) pss_never pss_nil)
        (pss_one (ps_asg (pe_tup (pa_cons (pe_op op_add (pe_dget2 hu (pv 4) (pv 8) pe_int m2) (pv 10)) (pa_cons (pe_op op_add (pe_dget2 hu (pv 5) (pv 9) pe_int m2) (pv 10)) pa_nil)))
          (pg_tup rfl (pgs_cons (pg_sub (pv 4) (pv 8) (set_dict hu) (fun _ => rfl)) (pgs_cons (pg_sub (pv 5) (pv 9) (set_dict hu) (fun _ => rfl)) pgs_nil)))))))
      (pss_cons (ps_if (pt_cmpR (op_neD hu64)
          (pe_callB (cr_sortT (d := 2) (B := BB) (by decide)) (by rfl) T.b_sorted (by decide +kernel) (pa_cons (pe_lock (pe_lc (own := [("_law_great", 9)]) (g := gName 9) (by rfl) nd (pi_keys (pv 5))
            (blkOk_by (N := nLAm) (sc := defScope s_lAmounts) (own := [("_law_great", 9)]) (by decide +kernel))
            (fun _ _ _ _ _ => pg_name (i := 9) nd rfl (Or.inl rfl)) (fun _ _ _ _ _ => pts_nil)
            (fun _ _ _ _ _ => by exact pe_tup (pa_cons (pv 9) (pa_cons (pe_dget (by exact hu) (pv 5) (pv 9) (fun _ _ => rfl)) pa_nil))))) pa_nil))
          (pe_callB (cr_sortT (d := 2) (B := BB) (by decide)) (by rfl) T.b_sorted (by decide +kernel) (pa_cons (pv 1) pa_nil)) (nomark _)) pss_never pss_nil)
      (pss_one (ps_ret (pe_callB (cr_all rfl) (by rfl) T.b_all (by decide +kernel) (pa_cons (pe_lc (own := [("_law_size", 8), ("_law_count", 11)]) (g := gTup K 2 (gCons (gName 8) (gCons (gName 11) gNil))) (by rfl) nd (pi_list (pv 0))
              (blkOk_by (N := nLAm) (sc := defScope s_lAmounts) (own := [("_law_size", 8), ("_law_count", 11)]) (by decide +kernel))
              (fun _ _ _ _ _ => by exact tupK K rfl (pgs_cons (pg_name (i := 8) nd rfl (Or.inl rfl)) (pgs_cons (pg_name (i := 11) nd rfl (Or.inl rfl)) pgs_nil))) (fun _ _ _ _ _ => pts_nil)
              (fun _ _ _ _ _ => by exact pe_cmpR op_ge (pe_dget2 (by exact hu) (pv 4) (pv 8) pe_int m2) (pv 11) (nomark _))) pa_nil)))))))), ?_⟩
    obtain ⟨dx, l0, hp1, hl0⟩ := id hp
    have hM49 := ve_len hV
    have hM50 : (srt L).length * (srt N).length ≤ 7 * 7 := Nat.mul_le_mul (by rw [srt_len]; exact lL) (by rw [srt_len]; exact lN)
    have hbnd := ve_bnd hL hN hV
    have szK : ∀ {T : List Pr}, Sh0 T → ∀ n ∈ keys T, n ∈ SIZES := fun {T} hT n hn => by
      obtain ⟨q, hq, e⟩ := List.mem_map.mp hn
      rw [← show q.1 = n from e]; exact hT.sz _ hq
    refine ⟨_, rfl, p, dx, _, rfl, hp1, rfl, p, M, rfl, hp, fun H1 la s1 R1 => ?_⟩
    intro du hdu dg hdg
    refine ⟨by show 3 ≤ sizeLine; decide, fun tu htu => ?_⟩
    have nug : du ≠ dg := fun e => by rw [← e, upd_same] at hdg; cases hdg
    have nut : du ≠ tu := fun e => by rw [← e, upd_ne nug, upd_same] at htu; cases htu
    have ngt : dg ≠ tu := fun e => by rw [← e, upd_same] at htu; cases htu
    have s2' := ((same_new (o := .dK []) hdu).new (o := .dK []) hdg).new (o := .tup [.ref la, .ref du, .ref dg]) htu
    have s2 := s1.trans s2'
    have hu0 : (upd (upd (upd H1 du (.dK [])) dg (.dK [])) tu (.tup [.ref la, .ref du, .ref dg])) du = some (.dK []) := by rw [upd_ne nut, upd_ne nug, upd_same]
    have hg0 : (upd (upd (upd H1 du (.dK [])) dg (.dK [])) tu (.tup [.ref la, .ref du, .ref dg])) dg = some (.dK []) := by rw [upd_ne ngt, upd_same]
    have nhu : H du = none := s1.free hdu
    have nhg : H dg = none := by
      have : H1 dg = none := by rw [upd_ne nug.symm] at hdg; exact hdg
      exact s1.free this
    refine ⟨tu, _, rfl, SqT.of upd_same, rfl, _, _, rfl, _, _, rfl, _, _, rfl, rfl, ?_⟩
    have R2 := R1.same s2'
    generalize upd (upd (upd H1 du (.dK [])) dg (.dK [])) tu (.tup [.ref la, .ref du, .ref dg]) = H2 at s2 hu0 hg0 R2 ⊢
    obtain ⟨ka, a1, a2, a3⟩ := R2
    have hkal := ks_len a3
    -- keys, sizes
    refine ⟨_, rfl, la, rfl, ⟨_, SqL.of a1⟩, fun lk hlk => ?_⟩
    refine lc_rows (walk_list (xs := ka.map fun p => V.ref p.1)) M (fun _ => true) e2 (fun r => (r.1, r.2.1)) (by rw [List.length_map, hkal]) (by omega) hlk (fun H' s' => SqL.of (s' _ _ a1)) (fun i x q H3 H3' hq s3 y => ?_) (fun H3 s3 R3 => ?_)
    · obtain ⟨rfl, pq, hpq, rfl, rfl⟩ := src_rows a3 hq y
      exact ⟨Same.refl _, turn_tri (SqT.of (s3 _ _ (a2 pq hpq))) rfl yes_of fun _ H4 s4 Q' hQ => ⟨_, rfl, _, rfl, by show 2 ≤ sizeLine; decide, fun t ht => hQ _ _ (same_new ht) ⟨t, rfl, upd_same⟩⟩⟩
    rw [filter_yes] at R3
    obtain ⟨ko, o1, o2, o3⟩ := hRo.same (s2.trans s3)
    refine ⟨_, rfl, o, rfl, ⟨_, SqL.of o1⟩, fun ls hls => ?_⟩
    refine lc_pure (walk_list (xs := ko.map fun p => V.ref p.1)) L (fun _ => true) V.int (fun q => q.1) (by rw [List.length_map, ks_len o3]) (by omega) hls (fun H' s' => SqL.of (s' _ _ o1)) (fun i x q H4 H4' hq s4 y => ?_) (fun H4 s4 h4 => ?_)
    · obtain ⟨rfl, pq, hpq, rfl, rfl⟩ := src_rows o3 hq y
      exact ⟨Same.refl _, turn_pair (SqT.of (s4 _ _ (o2 pq hpq))) rfl yes_of fun _ H5 s5 Q' hQ => ⟨_, rfl, hQ _ _ (Same.refl _) rfl⟩⟩
    rw [filter_yes] at h4
    have h4 : H4 ls = some (.lst ((keys L).map V.int)) := h4
    refine ⟨_, _, rfl, ?_⟩
    have s24 := s3.trans s4
    have sB := s2.trans s24
    -- the first look
    refine ⟨_, rfl, .ref p, .ref D.cEm, .ref D.cEm, .ref D.cEm, true, rfl, .own _, .base (.ins (sB _ _ hp1) T.cEm TI.kEm TI.get TI.tk TI.mEm), TI.oEm, true, rfl, iteF ?_⟩
    have Ra : Rows H4 la e3 M := Rows.same ⟨ka, a1, a2, a3⟩ s24
    refine ⟨_, rfl, _, rfl, ?_⟩
    dsimp only [tNil]
    refine sort_tri Ra (by omega) hV.srt hbnd fun H5 la2 s5 R5 => ?_
    refine ⟨_, _, dpRows (f := f3) (fun _ => rfl) (Ra.same s5), dpRows (f := f3) (fun _ => rfl) R5, sh_rows _, sh_rows _, _, rfl, ?_⟩
    rw [eqv_same (sh_rows _)]
    refine iteF ?_
    obtain ⟨kk, b1, b2, b3⟩ := R3.same (s4.trans s5)
    have hkkl := ks_len b3
    rw [List.length_map] at hkkl
    have hknd : (kk.map fun q => [q.2.1, q.2.2]).Nodup := by
      have h1 : (M.map fun r => [r.1, r.2.1]).Nodup := by
        show List.Pairwise _ _
        rw [List.pairwise_map]
        refine hV.srt.imp fun {a b} hab e => ?_
        injection e with e1 e
        injection e with e2 _
        rcases hab with z | z <;> omega
      have h2 : (kk.map fun q => [q.2.1, q.2.2]) = M.map fun r => [r.1, r.2.1] := by
        have := congrArg (List.map fun q : Pr => [q.1, q.2]) b3
        rw [List.map_map, List.map_map] at this
        exact this
      rw [h2]; exact h1
    refine ⟨_, rfl, lk, kk.map (fun q => (q.1, [q.2.1, q.2.2])), rfl, SqL.of (by rw [List.map_map]; exact b1), fun q hq => ?_, by rw [List.length_map, hkkl]; omega, fun aS LS haS hL1 hL2 => ?_⟩
    · obtain ⟨q', hq', rfl⟩ := List.mem_map.mp hq
      exact SqT.of (b2 q' hq')
    have s6 := same_new (o := SetTO P w aS LS) haS
    refine ⟨aS, LS, rfl, upd_same, fun q hq => ?_, fun hnd => ?_⟩
    · obtain ⟨q', hq', rfl⟩ := List.mem_map.mp (hL1 q hq)
      exact SqT.of (s6 _ _ (b2 q' hq'))
    have hlen : LS.length = kk.length := by
      have := perm_nd hnd hknd fun a => by
        constructor
        · intro h
          obtain ⟨q, hq, rfl⟩ := List.mem_map.mp h
          obtain ⟨q', hq', rfl⟩ := List.mem_map.mp (hL1 q hq)
          exact List.mem_map.mpr ⟨q', hq', rfl⟩
        · intro h
          obtain ⟨q', hq', rfl⟩ := List.mem_map.mp h
          exact hL2 (q'.1, [q'.2.1, q'.2.2]) (List.mem_map.mpr ⟨q', hq', rfl⟩)
      rw [List.length_map, List.length_map] at this
      exact this
    refine ⟨_, rfl, lk, _, rfl, .inl (SqL.of (s6 _ _ b1)), rfl, _, rfl, iteF' (by rw [hlen]; simp) ?_⟩
    generalize hH6 : upd H5 aS (SetTO _ _ aS LS) = H6
    replace s6 : Same H5 H6 := by rw [← hH6]; exact same_new haS
    have s26 := s24.trans (s5.trans s6)
    have hu6 := s26 _ _ hu0
    have hg6 := s26 _ _ hg0
    have s06 := s2.trans s26
    have ha6 := s26 _ _ a1
    have ha26 : ∀ q ∈ ka, _ := fun q hq => s26 _ _ (a2 q hq)
    have hls6 := (s5.trans s6) _ _ h4
    have nlu : ls ≠ du := ne_of hls6 hu6 (by intro z; cases z)
    have nlg : ls ≠ dg := ne_of hls6 hg6 (by intro z; cases z)
    have nau : la ≠ du := ne_of ha6 hu6 (by intro z; cases z)
    have nag : la ≠ dg := ne_of ha6 hg6 (by intro z; cases z)
    have ntu : ∀ {b l}, H6 b = some (HO.tup l) → b ≠ du := fun h => ne_of h hu6 (by intro z; cases z)
    have ntg : ∀ {b l}, H6 b = some (HO.tup l) → b ≠ dg := fun h => ne_of h hg6 (by intro z; cases z)
    -- the tallies
    refine ⟨_, rfl, la, rfl, ⟨_, SqL.of ha6⟩, for_list (K := K) (a := la) (xs := ka.map fun p => V.ref p.1)
      (fun i σ H' => ∃ v1 v2 v3, σ = [some (.ref o), some (.ref r), some (.ref p), some (.ref la), some (.ref du), some (.ref dg), some (.ref lk), some (.ref ls), v1, v2, v3, none] ∧ (∀ b o, b ≠ du → b ≠ dg → H6 b = some o → H' b = some o) ∧ H' du = some (.dK (kvs (tally (fun r => r.1) (M.take i)))) ∧ H' dg = some (.dK (kvs (tally (fun r => r.2.1) (M.take i)))))
      ⟨none, none, none, rfl, fun _ _ _ _ e => e, hu6, hg6⟩ (fun i σ H' _ ⟨_, _, _, _, s, _⟩ => SqL.of (s _ _ nau nag ha6)) ?_ ?_⟩
    · rintro i x σ H7 hx ⟨v1, v2, v3, rfl, s7, hu7, hg7⟩
      obtain ⟨q, hq, hqm, rfl, hMi⟩ := ks_get a3 hx
      have hmem := List.mem_of_getElem? hMi
      obtain ⟨h1, h2, h3, h4'⟩ := hV.row _ hmem
      have z0 := mem_keys_srt.mp h3
      have z1 := szK hL _ z0
      have z2 := szK hN _ (mem_keys_srt.mp h4')
      have hti : ∀ f : Tri → Int, (kvs (tally f (M.take i))).length < sizeLine := fun f => by
        rw [kvs_len]
        have := tally_len f (M.take i)
        rw [List.length_take] at this
        exact small1000 (by omega)
      have hq6 := ha26 q hqm
      refine ⟨q.1, _, rfl, SqT.of (s7 _ _ (ntu hq6) (ntg hq6) hq6), rfl, _, _, rfl, _, _, rfl, _, _, rfl, rfl, ?_⟩
      refine ⟨_, rfl, _, rfl, q.2.1, q.2.2.1, rfl, z1, z2, fun H8 s8 => ⟨_, rfl, ?_⟩⟩
      rw [h1]
      refine iteF ⟨_, rfl, _, _, rfl, rfl, _, rfl, iteF' (decide_eq_false (by omega)) ?_⟩
      refine ⟨_, rfl, _, rfl, ls, _, rfl, .inl (SqL.of (s8 _ _ (s7 _ _ nlu nlg hls6))), rfl, flat_ints _, _, rfl, iteF' (by show (!inV (V.int q.2.1) ((keys L).map V.int)) = false; rw [inV_yes z0]; rfl) ?_⟩
      have hu8 := s8 _ _ hu7
      have hg8 := s8 _ _ hg7
      refine ⟨_, rfl, du, rfl, .inl ⟨_, .inl hu8⟩, _, rfl, _, DGet.k (k := Sum.inl q.2.1) hu8, _, rfl, _, _, kvs_getD (tally_nd _ _) _, rfl, ?_⟩
      refine ⟨_, rfl, dg, rfl, .inl ⟨_, .inl hg8⟩, _, rfl, _, DGet.k (k := Sum.inl q.2.2.1) hg8, _, rfl, _, _, kvs_getD (tally_nd _ _) _, rfl, ?_⟩
      refine ⟨by show 2 ≤ sizeLine; decide, fun tt htt => ?_⟩
      have hu9 := (same_new (o := .tup [.int (cnt (tally (fun r => r.1) (M.take i)) q.2.1 + q.2.2.2), .int (cnt (tally (fun r => r.2.1) (M.take i)) q.2.2.1 + q.2.2.2)]) htt) _ _ hu8
      have hg9 := (same_new (o := .tup [.int (cnt (tally (fun r => r.1) (M.take i)) q.2.1 + q.2.2.2), .int (cnt (tally (fun r => r.2.1) (M.take i)) q.2.2.1 + q.2.2.2)]) htt) _ _ hg8
      have s9 := s8.trans (same_new (o := .tup [.int (cnt (tally (fun r => r.1) (M.take i)) q.2.1 + q.2.2.2), .int (cnt (tally (fun r => r.2.1) (M.take i)) q.2.2.1 + q.2.2.2)]) htt)
      refine ⟨tt, _, rfl, SqT.of upd_same, rfl, _, _, rfl, _, rfl, _, rfl, du, _, rfl, DPut.k (k := Sum.inl q.2.1) hu9 (hti _), ?_⟩
      rw [kvs_put]
      refine ⟨_, _, rfl, _, rfl, _, rfl, dg, _, rfl, DPut.k (k := Sum.inl q.2.2.1) (by rw [upd_ne nug.symm]; exact hg9) (hti _), rfl, ?_⟩
      rw [kvs_put]
      refine ⟨_, _, _, rfl, fun c o n1 n2 e => ?_, ?_, ?_⟩
      · rw [upd_ne n2, upd_ne n1]
        exact s9 _ _ (s7 _ _ n1 n2 e)
      · rw [upd_ne nug, upd_same, take_succ_of hMi, tally_snoc]
      · rw [upd_same, take_succ_of hMi, tally_snoc]
    rintro σ H7 ⟨v1, v2, v3, rfl, s7, hu7, hg7⟩
    rw [List.length_map, hkal, List.take_length] at hu7 hg7
    have s07 : Same H H7 := fun b o e => by
      refine s7 b o (fun z => ?_) (fun z => ?_) (s06 b o e)
      · rw [z, nhu] at e; cases e
      · rw [z, nhg] at e; cases e
    -- what is given
    refine ⟨dg, .dK (kvs (tally (fun r => r.2.1) M)), hg7, True.intro, fun od => ?_⟩
    have hg8 : (upd H7 dg (.frz od (.dK (kvs (tally (fun r => r.2.1) M))))) dg = some (.frz od (.dK (kvs (tally (fun r => r.2.1) M)))) := upd_same
    refine ⟨_, rfl, dg, od, rfl, .inl ⟨_, hg8, fun De hDe => ?_⟩⟩
    have htl := tally_len (fun r => r.2.1) M
    refine lc_rows walk_keys (keys (tally (fun r => r.2.1) M)) (fun _ => true) e2 (fun g => (g, cnt N g)) (by rw [kvs_len]; exact (List.length_map ..).symm) (by rw [List.length_map]; omega) hDe (fun H' s' => s' _ _ hg8) (fun i x n H8 H8' hn s8 y => ?_) (fun H8 s8 R8 => ?_)
    · obtain ⟨rfl, kk, v, hkv, rfl⟩ := y
      have hkn : kk = Sum.inl n := by
        obtain ⟨q, hq, e⟩ := get_map hkv
        obtain ⟨q2, hq2, e2⟩ := get_map hn
        rw [hq] at hq2
        cases hq2
        cases e
        rw [e2]
      subst hkn
      have hnm := List.mem_of_getElem? hn
      refine ⟨Same.refl _, turn_name rfl yes_of fun _ H9 s9 Q' hQ => ?_⟩
      have hg9 := s9 _ _ (s8 _ _ hg8)
      have hDG : DGet H9 dg (.int n) (some (.int (cnt (tally (fun r => r.2.1) M) n))) := .inl ⟨_, Sum.inl n, .inr ⟨od, hg9⟩, rfl, (kvs_cnt (tally_nd _ _) hnm).symm⟩
      refine ⟨_, rfl, _, rfl, _, rfl, dg, _, rfl, hDG, by show 2 ≤ sizeLine; decide, fun t ht => ?_⟩
      rw [ve_gcnt hN hV ((ve_gkeys hN hV n).mp hnm)]
      exact hQ _ _ (same_new ht) ⟨t, rfl, upd_same⟩
    rw [filter_yes] at R8
    have hg88 := s8 _ _ hg8
    have s9 : Same H7 (upd H8 dg (.dK (kvs (tally (fun r => r.2.1) M)))) := lock_back hg7 s8
    have R9 : Rows (upd H8 dg (.dK (kvs (tally (fun r => r.2.1) M)))) De e2 ((keys (tally (fun r => r.2.1) M)).map fun g => (g, cnt N g)) := by
      obtain ⟨k8, c1, c2, c3⟩ := R8
      exact ⟨k8, by rw [upd_ne (ne_of c1 hg88 (by intro z; cases z))]; exact c1, fun q hq => by rw [upd_ne (ne_of (c2 q hq) hg88 (by intro z; cases z))]; exact c2 q hq, c3⟩
    refine ⟨hg88, ?_⟩
    have hpN : ((keys (tally (fun r => r.2.1) M)).map fun g => (g, cnt N g)).Perm N := by
      have h1 := (perm_of_mem (tally_nd (fun r => r.2.1) M) hN.nd (ve_gkeys hN hV)).map fun g => (g, cnt N g)
      rw [keys_cnt hN.nd] at h1
      exact h1
    dsimp only [tNil]
    refine sort_prs R9 hN (by omega) hpN fun H10 la10 s10 R10 => ?_
    have s010 := (s07.trans s9).trans s10
    refine ⟨_, rfl, ?_⟩
    dsimp only [tNil]
    refine sort_prs (hRr.same s010) hN (by omega) (.refl _) fun H11 la11 s11 R11 => ?_
    refine ⟨_, _, dpRows (f := f2) (fun _ => rfl) (R10.same s11), dpRows (f := f2) (fun _ => rfl) R11, sh_rows _, sh_rows _, _, rfl, ?_⟩
    rw [eqv_same (sh_rows _)]
    refine iteF ?_
    have s711 := (s9.trans s10).trans s11
    obtain ⟨k12, d1, d2, d3⟩ := hRo.same (s07.trans s711)
    refine ⟨_, rfl, o, rfl, ⟨_, SqL.of d1⟩, fun Df hDf => ?_⟩
    refine lc_pure (walk_list (xs := k12.map fun p => V.ref p.1)) L (fun _ => true) V.bl (fun _ => true) (by rw [List.length_map, ks_len d3]) (by omega) hDf (fun H' s' => SqL.of (s' _ _ d1)) (fun i x q H12 H12' hq s12 y => ?_) (fun H12 s12 h12 => ?_)
    · obtain ⟨rfl, pq, hpq, rfl, rfl⟩ := src_rows d3 hq y
      refine ⟨Same.refl _, turn_pair (SqT.of (s12 _ _ (d2 pq hpq))) rfl yes_of fun _ H13 s13 Q' hQ => ?_⟩
      have hu13 := s13 _ _ (s12 _ _ (s711 _ _ hu7))
      exact ⟨_, rfl, du, rfl, .inl ⟨_, .inl hu13⟩, _, rfl, _, DGet.k (k := Sum.inl pq.2.1) hu13, _, rfl, _, _, kvs_getD (tally_nd _ _) _, rfl, hQ _ _ (Same.refl _) (congrArg V.bl (decide_eq_true (ve_ucnt hV (mem_srt.mpr (List.mem_of_getElem? hq)))))⟩
    refine ⟨Df, _, rfl, SqL.of h12, ?_⟩
    rw [all_true (fun _ _ => rfl)]
    exact k _ ((s07.trans s711).trans s12)
end
end K64W
set_option Elab.async false
set_option maxRecDepth 100000
set_option maxHeartbeats 4000000
/-! The law's look at sizes that bar. -/
namespace K64W
open PySem L2 K64 K64R
section
variable {P : Program} {w : World} {K : PySem.W.Frag} {mg : Str → Option Value} {base : Heap} {D : Ad}
theorem eqv_nil (g : Int) (t : List Int) : PyData.eqv (.list (dInts (g :: t))) (.list (dInts [])) = false := by
  simp [PyData.eqv, PyData.eqvAll]
def spLBar (D : Ad) : Sp := fun vs H Q _ => ∃ (o r nn p : Addr) (L N : List Pr) (kd : Str) (S ng : List Int), vs = [.ref o, .ref r, .ref nn, .ref p] ∧ Rows H o e2 L ∧ Rows H r e2 N ∧ Sh0 L ∧ Sh0 N ∧ L.length ≤ 7 ∧ N.length ≤ 7 ∧ H nn = some (.lst (ng.map V.int)) ∧ IsBl D H p kd S ∧
  ((∃ g t, ng = g :: t ∧ kd = "none" ∧ S = [g]) ∨ (ng = [] ∧ kd = "few" ∧ S.Pairwise (· < ·) ∧ (∀ s ∈ S, s ∈ keys L) ∧ room S N < need S L)) ∧ ∀ H', Same H H' → Q (.bl true) H'
abbrev nLBar : List Str := ["_law_one_here", "_law_other", "_law_none", "_law_found", "_law_sizes", "_law_lot", "_law_size", "_law_count"]
theorem sc_lBar : FnScope nLBar ["_law_one_here", "_law_other", "_law_none", "_law_found"] (defScope s_lBarred) := ⟨rfl, rfl, rfl, by decide +kernel, rfl, by decide +kernel, by decide +kernel⟩
theorem ok_lBar (T : Txt K mg D) (TI : TxtI K D) : FnOk P w K mg base CX0 4 D.f_lBarred D.d_lBarred ["_law_one_here", "_law_other", "_law_none", "_law_found"] (spLBar D) := by
  refine T.F_lBarred.ok sc_lBar (fun vs H Q E h => ?_) (fun cdv A outer s H vs Q E hr h => ?_)
  · obtain ⟨o, r, nn, p, L, N, kd, S, ng, rfl, _⟩ := h
    rfl
  · obtain ⟨o, r, nn, p, L, N, kd, S, ng, rfl, hRo, hRr, hL, hN, lL, lN, hnn, hp, hcase, k⟩ := h
    have nd := sc_lBar.nd
    have hu64 := hr.units
    have hr1 : Room 1 _ := hr.mono (by decide)
    have hr2 : Room 2 _ := hr.mono (by decide)
    refine ⟨_, pss_cons (ps_asg (pe_tup (pa_cons (pe_lc (own := [("_law_size", 6), ("_law_count", 7)]) (g := gTup K 2 (gCons (gName 6) (gCons (gName 7) gNil))) (by rfl) nd (pi_list (pv 0))
              (blkOk_by (N := nLBar) (sc := defScope s_lBarred) (own := [("_law_size", 6), ("_law_count", 7)]) (by decide +kernel))
              (fun _ _ _ _ _ => by exact tupK K rfl (pgs_cons (pg_name (i := 6) nd rfl (Or.inl rfl)) (pgs_cons (pg_name (i := 7) nd rfl (Or.inl rfl)) pgs_nil))) (fun _ _ _ _ _ => pts_nil)
              (fun _ _ _ _ _ => pv 6))
            (pa_cons (pe_callTy call_list_of (by rfl) T.b_list (by decide +kernel) (pa_cons (pe_prop (pv 3) T.cBl T.P_sizes (ok_blSizes T) hr2 (b_blSizes T) .nil pass0 rfl) pa_nil)) pa_nil))) (pg_tup rfl (pgs_cons (pg_name (i := 4) nd rfl (Or.inr rfl)) (pgs_cons (pg_name (i := 5) nd rfl (Or.inl rfl)) pgs_nil))))
      (pss_cons (ps_if (pt_cmpR (op_neD hu64) (pv 2) (pe_lst pa_nil) (nomark _))
        (pss_one (ps_ret (pe_and (pe_callB call_isi (by rfl) T.b_isinstance (by decide +kernel) (pa_cons (pv 3) (pa_cons (pe_glob (v := .ref D.cBl) (by rfl) T.gBl rfl) pa_nil)))
          (pe_one (pe_call (ok_same T 3) hr (by rfl) T.g_lSame T.F_lSame.kp (b_lSame T) .nil pass0 (pa_cons (pe_lst (pa_cons (pe_prop (pv 3) T.cBl T.P_kind (ok_blKind T) hr2 (b_blKind T) .nil pass0 rfl) (pa_cons (pe_prop (pv 3) T.cBl T.P_sizes (ok_blSizes T) hr2 (b_blSizes T) .nil pass0 rfl) pa_nil)))
            (pa_cons (pe_lst (pa_cons pe_str (pa_cons (pe_tup (pa_cons (pe_ix ix_list (pv 2) pe_int (fun _ _ => rfl)) pa_nil)) pa_nil))) pa_nil))))))) pss_nil)
      (pss_cons (ps_if (PW.pt (pw_or (pt_cmpR op_ne (pe_prop (pv 3) T.cBl T.P_kind (ok_blKind T) hr2 (b_blKind T) .nil pass0 rfl) pe_str (nomark _))
          (pw_or (pt_cmpR (op_neD hu64) (pv 5) (pe_callB (cr_sortedSet rfl) (by rfl) T.b_sorted (by decide +kernel) (pa_cons (pe_callTy (K64R.cr_setOfI rfl) (by rfl) T.b_set (by decide +kernel) (pa_cons (pv 5) pa_nil)) pa_nil)) (nomark _))
          (pw_or1 (pt_not (pt_val (pe_callB (cr_all rfl) (by rfl) T.b_all (by decide +kernel) (pa_cons (pe_lc (own := [("_law_size", 6)]) (g := gName 6) (by rfl) nd (pi_list (pv 5))
              (blkOk_by (N := nLBar) (sc := defScope s_lBarred) (own := [("_law_size", 6)]) (by decide +kernel))
              (fun _ _ _ _ _ => pg_name (i := 6) nd rfl (Or.inl rfl)) (fun _ _ _ _ _ => pts_nil)
              (fun _ _ _ _ _ => by exact pe_cmpR (inK K) (pv 6) (pv 4) (by rfl))) pa_nil)))))))) pss_never pss_nil)
      (pss_one (ps_ret (pe_and (pe_callB call_isi (by rfl) T.b_isinstance (by decide +kernel) (pa_cons (pe_prop (pv 3) T.cBl T.P_sizes (ok_blSizes T) hr2 (b_blSizes T) .nil pass0 rfl) (pa_cons (pe_bltn (v := .ty "tuple") (by rfl) T.b_tuple (by decide +kernel) rfl) pa_nil)))
        (pe_one (pe_cmpR op_gt (pe_call (ok_lNeed T) hr1 (by rfl) T.g_lNeed T.F_lNeed.kp (b_lNeed T) .nil pass0 (pa_cons (pv 5) (pa_cons (pv 0) pa_nil))) (pe_call (ok_lRoom T) hr (by rfl) T.g_lRoom T.F_lRoom.kp (b_lRoom T) .nil pass0 (pa_cons (pv 5) (pa_cons (pv 1) pa_nil))) (nomark _)))))))), ?_⟩
    obtain ⟨dx, t0, hp1, ht0⟩ := id hp
    have szK : ∀ {T : List Pr}, Sh0 T → ∀ n ∈ keys T, n ∈ SIZES := fun {T} hT n hn => by
      obtain ⟨q, hq, e⟩ := List.mem_map.mp hn
      rw [← show q.1 = n from e]; exact hT.sz _ hq
    have same_bl : ∀ {H' : Hp}, Same H H' → IsBl D H' p kd S := fun s => ⟨dx, t0, s _ _ hp1, s _ _ ht0⟩
    obtain ⟨ko, o1, o2, o3⟩ := id hRo
    refine ⟨_, rfl, o, rfl, ⟨_, SqL.of o1⟩, fun ls hls => ?_⟩
    refine lc_pure (walk_list (xs := ko.map fun p => V.ref p.1)) L (fun _ => true) V.int (fun q => q.1) (by rw [List.length_map, ks_len o3]) (by omega) hls (fun H' s' => SqL.of (s' _ _ o1)) (fun i x q H1 H1' hq s1 y => ?_) (fun H1 s1 h1 => ?_)
    · obtain ⟨rfl, pq, hpq, rfl, rfl⟩ := src_rows o3 hq y
      exact ⟨Same.refl _, turn_pair (SqT.of (s1 _ _ (o2 pq hpq))) rfl yes_of fun _ H5 s5 Q' hQ => ⟨_, rfl, hQ _ _ (Same.refl _) rfl⟩⟩
    rw [filter_yes] at h1
    have h1 : H1 ls = some (.lst ((keys L).map V.int)) := h1
    refine ⟨_, rfl, p, dx, _, rfl, s1 _ _ hp1, p, kd, S, rfl, same_bl s1, fun t ht => ⟨t, _, rfl, .inr (SqT.of ht), fun ll hll => ⟨by show 2 ≤ sizeLine; decide, fun tu htu => ⟨tu, _, rfl, SqT.of upd_same, rfl, _, _, rfl, _, _, rfl, rfl, ?_⟩⟩⟩⟩
    have s2 := (same_new (o := .lst (S.map V.int)) hll).new (o := .tup [.ref ls, .ref ll]) htu
    have hll2 := (same_new (o := .tup [.ref ls, .ref ll]) htu) _ _ (upd_same (H := H1) (a := ll) (o := .lst (S.map V.int)))
    have s02 := s1.trans s2
    have hls2 := s2 _ _ h1
    clear ht t
    generalize upd (upd H1 ll (.lst (S.map V.int))) tu (.tup [.ref ls, .ref ll]) = H2 at s2 hll2 s02 hls2 ⊢
    refine ⟨_, rfl, by show 0 ≤ sizeLine; decide, fun e he => ?_⟩
    have s3 := s02.new (o := .lst []) he
    have hll3 := (same_new (o := .lst []) he) _ _ hll2
    have hls3 := (same_new (o := .lst []) he) _ _ hls2
    have he3 : (upd H2 e (.lst [])) e = some (.lst (([] : List Int).map V.int)) := upd_same
    generalize upd H2 e (.lst []) = H3 at s3 hll3 hls3 he3 ⊢
    have hp3 := s3 _ _ hp1
    have hB3 := same_bl s3
    refine ⟨_, _, dpL (SqL.of (s3 _ _ hnn)), dpL (SqL.of he3), sh_ints _, sh_ints _, _, rfl, ?_⟩
    rcases hcase with ⟨g, tl, rfl, rfl, rfl⟩ | ⟨rfl, rfl, hasc, hin, hlt⟩
    · rw [eqv_nil]
      refine iteT ?_
      refine ⟨_, rfl, .ref p, .ref D.cBl, .ref D.cBl, .ref D.cBl, true, rfl, .own _, .base (.ins hp3 T.cBl TI.kBl TI.get TI.tk TI.mBl), TI.oBl, _, rfl, iteT ?_⟩
      refine ⟨_, rfl, p, dx, _, rfl, hp3, p, _, _, rfl, hB3, _, rfl, p, dx, _, rfl, hp3, p, _, _, rfl, hB3, fun t ht => ⟨by show 2 ≤ sizeLine; decide, fun l1 hl1 => ?_⟩⟩
      have s4 := same_new (o := .lst [.str "none", .ref t]) hl1
      refine ⟨_, rfl, nn, _, 0, _, rfl, rfl, SqL.of (s4 _ _ (s3 _ _ hnn)), at_zero, by show 1 ≤ sizeLine; decide, fun tg htg => ⟨by show 2 ≤ sizeLine; decide, fun l2 hl2 => ?_⟩⟩
      have s5 := (same_new (o := .tup [.int g]) htg).new (o := .lst [.str "none", .ref tg]) hl2
      refine ⟨.ref l1, .ref l2, rfl, ?_, fun H' s' => k _ (((s3.trans s4).trans s5).trans s')⟩
      refine .inr ⟨l1, l2, _, _, rfl, rfl, .cons (.inl ⟨rfl, .inr (.inr ⟨_, rfl⟩)⟩) (.cons (.inr ⟨t, tg, [.int g], [.int g], rfl, rfl, .cons (.inl ⟨rfl, .inr (.inl ⟨_, rfl⟩)⟩) .nil, (by show 1 ≤ 60; decide), .inr ⟨s5 _ _ (s4 _ _ ht), (same_new hl2) _ _ upd_same⟩⟩) .nil), (by show 2 ≤ 60; decide), .inl ⟨s5 _ _ upd_same, upd_same⟩⟩
    · rw [eqv_same (sh_ints [])]
      refine iteF ?_
      have ndS : S.Nodup := hasc.imp fun h => by omega
      have lenS : S.length ≤ 7 := by
        have := length_le_of_nodup ndS hin
        rw [keys_len] at this
        omega
      refine ⟨_, rfl, p, dx, _, rfl, hp3, p, _, _, rfl, hB3, rfl, _, rfl, iteF' (by simp) ?_⟩
      refine ⟨_, rfl, _, rfl, ll, S, rfl, SqL.of hll3, by omega, fun a6 c ha6 hc6 => ?_⟩
      refine ⟨a6, _, c, rfl, upd_same, by omega, fun ns l7 hns hmem _ hl7 => ?_⟩
      have ens : ns = S := asc_unique hns hasc fun k => by rw [hmem k]; simp
      subst ens
      have s7 : Same H3 (upd (upd H3 a6 (SetO w a6 (fun j => decide (j ∈ ns)) c)) l7 (.lst (ns.map V.int))) := (same_new ha6).new hl7
      refine ⟨_, _, dpL (SqL.of (s7 _ _ hll3)), dpL (SqL.of upd_same), sh_ints _, sh_ints _, _, rfl, ?_⟩
      rw [eqv_same (sh_ints ns)]
      refine iteF ?_
      have s8 := s3.trans s7
      have hll8 := s7 _ _ hll3
      have hls8 := s7 _ _ hls3
      refine ⟨_, rfl, ll, rfl, ⟨_, SqL.of hll8⟩, fun De hDe => ?_⟩
      refine lc_pure (walk_list (xs := ns.map V.int)) ns (fun _ => true) V.bl (fun _ => true) (List.length_map ..) (by omega) hDe (fun H' s' => SqL.of (s' _ _ hll8)) (fun i x n H4 H4' hn s4 y => ?_) (fun H4 s4 h4 => ?_)
      · obtain ⟨rfl, rfl⟩ := src_list hn y
        refine ⟨Same.refl _, turn_name rfl yes_of fun _ H5 s5 Q' hQ => ?_⟩
        exact ⟨_, rfl, _, rfl, ls, _, rfl, .inl (SqL.of (s5 _ _ (s4 _ _ hls8))), rfl, flat_ints _, hQ _ _ (Same.refl _) (congrArg V.bl (inV_yes (hin n (List.mem_of_getElem? hn))))⟩
      refine ⟨De, _, rfl, SqL.of h4, ?_⟩
      rw [all_true (fun _ _ => rfl)]
      refine ⟨true, rfl, iteF ?_⟩
      have s9 := s8.trans s4
      have hll9 := s4 _ _ hll8
      refine ⟨_, rfl, p, dx, _, rfl, s9 _ _ hp1, p, _, _, rfl, same_bl s9, fun t ht => ⟨.ref t, .ty "tuple", .type "tuple", .type "tuple", true, rfl, .ty _, .base (.tup ht), kit_ty (by decide +kernel), _, rfl, iteT ?_⟩⟩
      refine ⟨_, rfl, _, rfl, ll, o, ns, L, rfl, hll9, by omega, hRo.same s9, by omega, fun H10 s10 => ?_⟩
      refine ⟨_, rfl, _, rfl, ll, r, ns, N, rfl, s10 _ _ hll9, by omega, fun s hs => szK hL s (hin s hs), hRr.same (s9.trans s10), hN.sz, by omega, fun H11 s11 => ?_⟩
      refine ⟨_, _, rfl, rfl, ?_⟩
      have e : decide (room ns N < need ns L) = true := decide_eq_true hlt
      show Q (.bl (decide (room ns N < need ns L))) H11
      rw [e]
      exact k _ ((s9.trans s10).trans s11)
end
end K64W
set_option Elab.async false
set_option maxRecDepth 100000
set_option maxHeartbeats 4000000
/-! What embed answers, and what the law asks of it. -/
namespace K64W
open PySem L2 K64 K64R
/-- the bare greats -/
def ngs (L N : List Pr) : List Int := ((srt N).filter fun q => !(keys L).any fun s => lies s q.1).map fun q => q.1
/-- a choice bars -/
def bars (L N : List Pr) : Bool := (lots (keys L)).any fun S => decide (room S N < need S L)
theorem any_srt (L : List Pr) (g : Int) : ((srt L).any fun q => lies q.1 g) = (keys L).any fun s => lies s g := by
  rw [Bool.eq_iff_iff, List.any_eq_true, List.any_eq_true]
  constructor
  · rintro ⟨q, hq, h⟩
    exact ⟨q.1, mem_keys_srt.mp (List.mem_map_of_mem (f := (·.1)) hq), h⟩
  · rintro ⟨s, hs, h⟩
    obtain ⟨q, hq, e⟩ := List.mem_map.mp (mem_keys_srt.mpr hs)
    exact ⟨q, hq, by rw [show q.1 = s from e]; exact h⟩
theorem find_filter {α : Type} {p : α → Bool} : ∀ {L : List α} {a : α}, L.find? p = some a → ∃ t, L.filter p = a :: t
  | x :: L, a, h => by
    rw [List.find?_cons] at h
    cases hx : p x with
    | true =>
      rw [hx] at h
      cases h
      exact ⟨_, List.filter_cons_of_pos hx⟩
    | false =>
      rw [hx] at h
      obtain ⟨t, ht⟩ := find_filter h
      exact ⟨t, by rw [List.filter_cons_of_neg (by rw [hx]; decide)]; exact ht⟩
theorem bare_none {L N : List Pr} (h : bare (srt L) (srt N) = none) : ngs L N = [] := by
  have h1 := List.find?_eq_none.mp (Option.map_eq_none_iff.mp h)
  unfold ngs
  rw [List.filter_eq_nil_iff.mpr fun q hq => ?_]
  · rfl
  · rw [← any_srt]; exact h1 q hq
theorem res_ok {L N : List Pr} (hL : Sh0 L) (hN : Sh0 N) {r : Res} (h : embF (srt L) (srt N) = some r) :
    match r with
    | .none g => (∃ t, ngs L N = g :: t) ∧ BlOk L N "none" [g]
    | .few S => ngs L N = [] ∧ bars L N = true ∧ BlOk L N "few" S
    | .emb rows => ngs L N = [] ∧ bars L N = false ∧ VE (srt L) (srt N) rows := by
  have hA := srt_shp hL
  have hB := srt_shp hN
  obtain ⟨r', h1, h2⟩ := embF_ok hA hB
  rw [h] at h1
  cases h1
  cases r with
  | none g =>
    have h2 : bare (srt L) (srt N) = some g := h2
    obtain ⟨q, hq, e⟩ := Option.map_eq_some_iff.mp h2
    have hq1 := List.mem_of_find?_eq_some hq
    have hq2 := List.find?_some hq
    have ep : (fun q : Pr => !(srt L).any fun r => lies r.1 q.1) = fun q => !(keys L).any fun s => lies s q.1 := funext fun q => by rw [any_srt]
    obtain ⟨t, ht⟩ := find_filter hq
    refine ⟨⟨t.map fun q => q.1, ?_⟩, .inl ⟨rfl, g, rfl, ?_, fun s hs => ?_⟩⟩
    · unfold ngs
      rw [← ep, ht, ← e]
      rfl
    · rw [← e]
      exact mem_keys_srt.mp (List.mem_map_of_mem (f := (·.1)) hq1)
    · have h3 : ((srt L).any fun r => lies r.1 q.1) = false := by simpa using hq2
      rw [any_srt, List.any_eq_false] at h3
      rw [← e]
      simpa using h3 s hs
  | few S =>
    obtain ⟨hb, hf⟩ := h2
    obtain ⟨f1, f2, f3, f4, f5⟩ := few_ok hA hf
    rw [room_srt, need_srt] at f5
    have hin : ∀ s ∈ S, s ∈ keys L := fun s hs => mem_keys_srt.mp (f1.subset hs)
    refine ⟨bare_none hb, ?_, .inr ⟨rfl, hin, f4, f5⟩⟩
    unfold bars
    rw [List.any_eq_true]
    refine ⟨(keys L).filter fun s => decide (s ∈ S), mem_lots.mpr List.filter_sublist, decide_eq_true ?_⟩
    have mT : ∀ s, s ∈ ((keys L).filter fun s => decide (s ∈ S)) ↔ s ∈ S := fun s => by
      rw [List.mem_filter, decide_eq_true_eq]
      exact ⟨fun h => h.2, fun h => ⟨hin s h, h⟩⟩
    have a1 : need ((keys L).filter fun s => decide (s ∈ S)) L = need S L := tot_congr fun p _ => by
      by_cases c : p.1 ∈ S
      · rw [if_pos c, if_pos ((mT _).mpr c)]
      · rw [if_neg c, if_neg fun z => c ((mT _).mp z)]
    have a2 : room ((keys L).filter fun s => decide (s ∈ S)) N = room S N := tot_congr fun p _ => by
      have : (((keys L).filter fun s => decide (s ∈ S)).any fun s => lies s p.1) = (S.any fun s => lies s p.1) := by
        rw [Bool.eq_iff_iff, List.any_eq_true, List.any_eq_true]
        exact ⟨fun ⟨s, h1, h2⟩ => ⟨s, (mT s).mp h1, h2⟩, fun ⟨s, h1, h2⟩ => ⟨s, (mT s).mpr h1, h2⟩⟩
      rw [this]
    rw [a1, a2]
    exact f5
  | emb rows =>
    obtain ⟨hb, _, hV⟩ := h2
    refine ⟨bare_none hb, ?_, hV⟩
    unfold bars
    rw [List.any_eq_false]
    intro S _ hS
    have h3 := hV.hall hA S
    rw [need_srt, room_srt] at h3
    have := of_decide_eq_true hS
    omega
/-- a shape that was drawn -/
structure Drawn (ns : List Int) (L : List Pr) : Prop where
  nd : (keys L).Nodup
  sub : ∀ s ∈ keys L, s ∈ ns
  pos : ∀ p ∈ L, 1 ≤ p.2 ∧ p.2 ≤ 10 ^ 30
theorem Drawn.sh0 {ns : List Int} {L : List Pr} (d : Drawn ns L) (h : ∀ s ∈ ns, s ∈ SIZES) : Sh0 L := ⟨d.nd, fun p hp => h _ (d.sub _ (List.mem_map_of_mem (f := (·.1)) hp)), d.pos⟩
theorem Drawn.len {ns : List Int} {L : List Pr} (d : Drawn ns L) : L.length ≤ ns.length := by
  have := length_le_of_nodup d.nd d.sub
  rwa [keys_len] at this
theorem Drawn.of {ns : List Int} {L : List Pr} (h : (keys L).Sublist ns) (hn : ns.Nodup) (hp : ∀ p ∈ L, 1 ≤ p.2 ∧ p.2 ≤ 10 ^ 30) : Drawn ns L := ⟨hn.sublist h, fun _ hs => h.subset hs, hp⟩
theorem Drawn.perm {ns ms : List Int} {L : List Pr} (d : Drawn ms L) (h : ms.Perm ns) : Drawn ns L := ⟨d.nd, fun s hs => h.mem_iff.mp (d.sub s hs), d.pos⟩
theorem Drawn.more {ns : List Int} {L N : List Pr} (dL : Drawn ns L) (dN : Drawn ns N) : Drawn ns (N ++ (L.filter fun q => !decide (q.1 ∈ keys N)).map fun q => (q.1, 1)) where
  nd := by
    show ((N ++ (L.filter fun q => !decide (q.1 ∈ keys N)).map fun q => (q.1, (1 : Int))).map (·.1)).Nodup
    rw [List.map_append, List.map_map, List.nodup_append]
    refine ⟨dN.nd, ?_, fun a ha b hb e => ?_⟩
    · exact dL.nd.sublist (List.filter_sublist.map _)
    · obtain ⟨q, hq, rfl⟩ := List.mem_map.mp hb
      have := (List.mem_filter.mp hq).2
      subst e
      have h1 : q.1 ∉ keys N := by simpa using this
      exact h1 ha
  sub := fun s hs => by
    have hs : s ∈ (N ++ (L.filter fun q => !decide (q.1 ∈ keys N)).map fun q => (q.1, (1 : Int))).map (·.1) := hs
    rw [List.map_append, List.mem_append] at hs
    rcases hs with h | h
    · exact dN.sub s h
    · obtain ⟨q, hq, rfl⟩ := List.mem_map.mp h
      obtain ⟨q', hq', rfl⟩ := List.mem_map.mp hq
      exact dL.sub _ (List.mem_map_of_mem (f := (·.1)) (List.mem_filter.mp hq').1)
  pos := fun p hp => by
    rcases List.mem_append.mp hp with h | h
    · exact dN.pos p h
    · obtain ⟨q', _, rfl⟩ := List.mem_map.mp h
      exact ⟨by show (1 : Int) ≤ 1; decide, by show (1 : Int) ≤ 10 ^ 30; decide⟩
def MENUS : List (List Int) := [[2, 4, 8, 16, 64], [2, 4, 16, 3, 9], [2, 4, 8, 32, 64], [3, 9, 27, 5, 25], [2, 4, 8, 16, 32, 64]]
theorem menus_ok : ∀ ns ∈ MENUS, ns.Nodup ∧ (∀ s ∈ ns, s ∈ SIZES) ∧ ns.length ≤ 6 ∧ 1 ≤ ns.length := by decide +kernel
end K64W
set_option Elab.async false
set_option maxRecDepth 100000
set_option maxHeartbeats 4000000
/-! Helpers of the law's turns. -/
namespace K64W
open PySem L2 K64 K64R
section
variable {X : Cx}
theorem pe_either {e : Expr} {t u : TE} (h1 : PE X e t) (h2 : PE X e u) : PE X e (fun σ H Q => t σ H Q ∨ u σ H Q) := ⟨fun pins s σ H Q I h => h.elim (h1.run pins s σ H Q I) (h2.run pins s σ H Q I)⟩
theorem call_either {f : Value} {r q : List V → Hp → VK → Prop} (h1 : CallR X f r) (h2 : CallR X f q) : CallR X f (fun xs H Q => r xs H Q ∨ q xs H Q) := fun pins s σ H xs us Q I rv h => h.elim (h1 pins s σ H xs us Q I rv) (h2 pins s σ H xs us Q I rv)
end
theorem sx_ts {H H' : Hp} {b : Addr} {o : HO} (s : SameX b H H') (h : H b = some o) (hn : ∀ l, o ≠ .tup l) : TSt H H' := fun c l e => s c _ (fun z => by rw [z, h] at e; cases e; exact hn l rfl) e
theorem Rows.sx {α : Type} {enc : α → List V} {L : List α} {H H' : Hp} {l b : Addr} {o : HO} (r : Rows H l enc L) (s : SameX b H H') (hl : l ≠ b) (h : H b = some o) (hn : ∀ l, o ≠ .tup l) : Rows H' l enc L := by
  obtain ⟨ks, h1, h2, h3⟩ := r
  exact ⟨ks, s _ _ hl h1, fun p hp => sx_ts s h hn _ _ (h2 p hp), h3⟩
theorem Rows.app {α : Type} {enc : α → List V} {L : List α} {H : Hp} {D t : Addr} {a : α} (r : Rows H D enc L) (ht : H t = some (.tup (enc a))) : ∃ acc, H D = some (.lst acc) ∧ acc.length = L.length ∧ Rows (upd H D (.lst (acc ++ [.ref t]))) D enc (L ++ [a]) := by
  obtain ⟨ks, h1, h2, h3⟩ := r
  refine ⟨_, h1, by rw [List.length_map, ks_len h3], ks ++ [(t, a)], ?_, fun p hp => ?_, by rw [List.map_append, h3]; rfl⟩
  · rw [upd_same, List.map_append]; rfl
  · rcases List.mem_append.mp hp with q | q
    · rw [upd_ne (ne_of (h2 p q) h1 (by intro z; cases z))]; exact h2 p q
    · rw [List.mem_singleton.mp q, upd_ne (ne_of ht h1 (by intro z; cases z))]; exact ht
theorem lc_drawn {K : PySem.W.Frag} {tt : TT} {te : TE} {vs : List Nat} {σ : L2.St} {H1 : Hp} {Dd src b c : Addr} {i m : Nat} {ns : List Int} {Qd : Hp → Prop} (hsrc : H1 src = some (.lst (ns.map V.int))) (hsb : src ≠ b) (hB : Bag H1 b c m) (hD : H1 Dd = none) (hlen : ns.length ≤ 64)
    (hw : ∀ x, wipe ((wipe σ vs).set i (some x)) vs = wipe σ vs)
    (ht : ∀ n k H (Q : Bool → Hp → Prop), n ∈ ns → Bag H b c k → k ≤ m + 128 → (∀ bb H', SameX b H H' → Bag H' b c (k + 1) → Q bb H') → tt ((wipe σ vs).set i (some (.int n))) H Q)
    (he : ∀ n k H (Q : VK), n ∈ ns → Bag H b c k → k ≤ m + 128 → (∀ H' t v, SameX b H H' → Bag H' b c (k + 1) → H' t = some (.tup [.int n, .int v]) → 1 ≤ v → v ≤ 10 ^ 30 → Q (.ref t) H') → te ((wipe σ vs).set i (some (.int n))) H Q)
    (hd : ∀ H L, SameX b H1 H → Bag H b c (m + 2 * ns.length) → Rows H Dd e2 L → (keys L).Sublist ns → (∀ p ∈ L, 1 ≤ p.2 ∧ p.2 ≤ 10 ^ 30) → Qd H) :
    ∃ W : Nat → Nat → Hp → Prop, (∃ m, W 0 m (upd H1 Dd (.lst []))) ∧ ∀ j m H, W j m H →
      ((Itl K src).stop j H ∧ Qd H) ∨ ((Itl K src).go j H ∧ ∃ Nx : Hp → Prop, (∀ H', Nx H' → ∃ m', m' < m ∧ W (j + 1) m' H') ∧ ∀ x H', (Itl K src).yld j H x H' → gName i x (wipe σ vs) H' fun σ2 H2 => wipe σ2 vs = wipe σ vs ∧ tt σ2 H2 fun b H3 =>
        if b = true then te σ2 H3 fun y H4 => ∃ acc, H4 Dd = some (.lst acc) ∧ acc.length < sizeLine ∧ Nx (upd H4 Dd (.lst (acc ++ [y]))) else Nx H3) := by
  obtain ⟨⟨bs, hbs⟩, cs, hcs⟩ := id hB.lst
  have nDb : Dd ≠ b := (ne_of_none hbs hD).symm
  have nDc : Dd ≠ c := (ne_of_none hcs hD).symm
  refine lc_it (walk_list (K := K) (a := src) (xs := ns.map V.int)) (fun j H => SameX b H1 H ∧ Bag H b c (m + 2 * j) ∧ ∃ L, Rows H Dd e2 L ∧ (keys L).Sublist (ns.take j) ∧ ∀ p ∈ L, 1 ≤ p.2 ∧ p.2 ≤ 10 ^ 30) ⟨(same_new hD).x, hB.same (same_new hD), [], ⟨[], upd_same, fun _ h => (by cases h), rfl⟩, List.nil_sublist _, fun _ h => by cases h⟩ (fun j H _ ⟨s, _⟩ => SqL.of (s _ _ hsb hsrc)) ?_ ?_
  · rintro j x H H' hj ⟨s1, hB1, L, hR, hsub, hpos⟩ ⟨rfl, hx⟩
    obtain ⟨n, hn, rfl⟩ := get_map hx
    have hmem := List.mem_of_getElem? hn
    have hj' := get_lt hn
    refine ⟨hw _, ht n _ _ _ hmem hB1 (by omega) fun bb H2 s2 hB2 => ?_⟩
    have hR2 : Rows H2 Dd e2 L := by
      obtain ⟨⟨b1, hb1⟩, _⟩ := hB1.lst
      exact hR.sx s2 nDb hb1 (by intro l z; cases z)
    have hsub2 : (keys L).Sublist (ns.take (j + 1)) := hsub.trans (by rw [take_succ_of hn]; exact List.sublist_append_left _ _)
    cases bb with
    | false => exact ⟨s1.trans s2, hB2.mono (by omega), L, hR2, hsub2, hpos⟩
    | true =>
      refine he n _ _ _ hmem hB2 (by omega) fun H3 t v s3 hB3 htt hv1 hv2 => ?_
      have hR3 : Rows H3 Dd e2 L := by
        obtain ⟨⟨b1, hb1⟩, _⟩ := hB2.lst
        exact hR2.sx s3 nDb hb1 (by intro l z; cases z)
      obtain ⟨acc, h1, h2, h3⟩ := hR3.app (a := (n, v)) htt
      have hLl : L.length ≤ 64 := by
        have := hsub.length_le
        rw [keys_len, List.length_take] at this
        omega
      refine ⟨acc, h1, by rw [h2]; exact small1000 (by omega), fun a o na e => ?_, (hB3.upd nDb nDc).mono (by omega), L ++ [(n, v)], h3, ?_, fun p hp => ?_⟩
      · rw [upd_ne (ne_of_none e hD)]
        exact s3 _ _ na (s2 _ _ na (s1 _ _ na e))
      · show ((L ++ [(n, v)]).map (·.1)).Sublist _
        rw [List.map_append, take_succ_of hn]
        exact hsub.append (List.Sublist.refl _)
      · rcases List.mem_append.mp hp with q | q
        · exact hpos p q
        · rw [List.mem_singleton.mp q]; exact ⟨hv1, hv2⟩
  · rintro H ⟨s1, hB1, L, hR, hsub, hpos⟩
    rw [List.length_map] at hB1 hsub
    rw [List.take_length] at hsub
    exact hd H L s1 hB1 hR hsub hpos
/-- a list of lists of ints -/
def LRows (H : Hp) (l : Addr) (LL : List (List Int)) : Prop := ∃ ks : List (Addr × List Int), H l = some (.lst (ks.map fun p => V.ref p.1)) ∧ (∀ p ∈ ks, H p.1 = some (.lst (p.2.map V.int))) ∧ ks.map (·.2) = LL
theorem LRows.same {H H' : Hp} {l : Addr} {LL : List (List Int)} (r : LRows H l LL) (s : Same H H') : LRows H' l LL := by
  obtain ⟨ks, h1, h2, h3⟩ := r
  exact ⟨ks, s _ _ h1, fun p hp => s _ _ (h2 p hp), h3⟩
end K64W
set_option Elab.async false
set_option maxRecDepth 100000
set_option maxHeartbeats 4000000
/-! The law. -/
namespace K64W
open PySem L2 K64 K64R
theorem at0 {x : V} {xs : List V} : atI (x :: xs) 0 = some x := at_zero
theorem eqv_nilR (g : List Int) (t : List (List Int)) : PyData.eqv (.list (dRows (g :: t))) (.list (dRows [])) = false := by
  simp [PyData.eqv, PyData.eqvAll]
theorem rows_nil {H : Hp} {e : Addr} (h : H e = some (.lst [])) : Rows H e e2 [] := ⟨[], h, fun _ h => (by cases h), rfl⟩
theorem rows_cat {H : Hp} {a b : Addr} {L M : List Pr} (h1 : Rows H a e2 L) (h2 : Rows H b e2 M) : ∃ xs ys, H a = some (.lst xs) ∧ H b = some (.lst ys) ∧ xs.length = L.length ∧ ys.length = M.length ∧ ∀ z, H z = none → Rows (upd H z (.lst (xs ++ ys))) z e2 (L ++ M) := by
  obtain ⟨k1, a1, a2, a3⟩ := h1
  obtain ⟨k2, b1, b2, b3⟩ := h2
  refine ⟨_, _, a1, b1, by rw [List.length_map, ks_len a3], by rw [List.length_map, ks_len b3], fun z hz => ⟨k1 ++ k2, ?_, fun p hp => ?_, by rw [List.map_append, a3, b3]⟩⟩
  · rw [upd_same, List.map_append]
  · rcases List.mem_append.mp hp with h | h
    · exact (same_new hz) _ _ (a2 p h)
    · exact (same_new hz) _ _ (b2 p h)
/-- the menus -/
def MnAt (H : Hp) (mn b : Addr) : Prop := ∃ xs, H mn = some (.lst xs) ∧ xs.length = 5 ∧ mn ≠ b ∧ ∀ x ∈ xs, ∃ (a : Addr) (ns : List Int), x = .ref a ∧ H a = some (.lst (ns.map V.int)) ∧ a ≠ b ∧ ns ∈ MENUS
theorem MnAt.sx {H H' : Hp} {mn b : Addr} (m : MnAt H mn b) (s : SameX b H H') : MnAt H' mn b := by
  obtain ⟨xs, h1, h2, h3, h4⟩ := m
  refine ⟨xs, s _ _ h3 h1, h2, h3, fun x hx => ?_⟩
  obtain ⟨a, ns, e, h5, h6, h7⟩ := h4 x hx
  exact ⟨a, ns, e, s _ _ h6 h5, h6, h7⟩
/-- what a turn holds -/
structure TB (H : Hp) (b c mn a o : Addr) (m : Nat) (menu : List Int) (L : List Pr) : Prop where
  bag : Bag H b c m
  mn : MnAt H mn b
  menu : H a = some (.lst (menu.map V.int))
  rows : Rows H o e2 L
  na : a ≠ b
  no : o ≠ b
theorem TB.sx {H H' : Hp} {b c mn a o : Addr} {m m' : Nat} {menu : List Int} {L : List Pr} (t : TB H b c mn a o m menu L) (s : SameX b H H') (hB : Bag H' b c m') : TB H' b c mn a o m' menu L := by
  obtain ⟨⟨bs, hb⟩, _⟩ := t.bag.lst
  exact ⟨hB, t.mn.sx s, s _ _ t.na t.menu, t.rows.sx s t.no hb (by intro l z; cases z), t.na, t.no⟩
theorem TB.same {H H' : Hp} {b c mn a o : Addr} {m : Nat} {menu : List Int} {L : List Pr} (t : TB H b c mn a o m menu L) (s : Same H H') : TB H' b c mn a o m menu L := t.sx s.x (t.bag.same s)
theorem Bag.ne {H : Hp} {b c a : Addr} {m : Nat} (g : Bag H b c m) (h : H a = none) : a ≠ b := by
  obtain ⟨⟨bs, hb⟩, _⟩ := g.lst
  exact (ne_of_none hb h).symm
section
variable {P : Program} {w : World} {K : PySem.W.Frag} {mg : Str → Option Value} {base : Heap} {D : Ad}
def spLaw (K : PySem.W.Frag) : Sp := fun vs H Q _ => ∃ (l : Addr) (ns : List Int), vs = [.ref l] ∧ SqL K H l (ns.map V.int) ∧ ns.length ≤ 63 ∧ ∀ H', Q (.bl true) H'
abbrev nLaw : List Str := ["_law_script", "_law_bag", "_law_menus", "_law_turn", "_law_menu", "_law_most", "_law_one_here", "_law_other", "_law_there", "_law_first", "_law_second", "_law_found", "_law_smalls", "_law_none", "_law_lots", "_law_good", "_law_again", "_law_size", "_law_count", "_law_great", "_law_lot"]
theorem sc_law : FnScope nLaw ["_law_script"] (defScope s_law) := ⟨rfl, rfl, rfl, by decide +kernel, rfl, by decide +kernel, by decide +kernel⟩
theorem ok_law (T : Txt K mg D) (TI : TxtI K D) : FnOk P w K mg base CX0 7 D.f_law D.d_law ["_law_script"] (spLaw K) := by
  refine T.F_law.ok sc_law (fun vs H Q E h => ?_) (fun cdv A outer s H vs Q E hr h => ?_)
  · obtain ⟨l, ns, rfl, _⟩ := h
    rfl
  · obtain ⟨l, ns, rfl, hl, h63, k⟩ := h
    have nd := sc_law.nd
    have hu64 := hr.units
    have hr1 : Room 1 _ := hr.mono (by decide)
    have hr2 : Room 2 _ := hr.mono (by decide)
    have hr3 : Room 3 _ := hr.mono (by decide)
    have hr4 : Room 4 _ := hr.mono (by decide)
    have hr5 : Room 5 _ := hr.mono (by decide)
    obtain ⟨dsh, vsh, bsh⟩ := b_shInit T
    refine ⟨_, pss_cons (ps_set (i := 1) nd rfl (Or.inr rfl) (pe_call (ok_lCells T) hr1 (by rfl) T.g_lCells T.F_lCells.kp (b_lCells T) .nil pass0 (pa_cons (pv 0) pa_nil)))
      (pss_cons (ps_set (i := 2) nd rfl (Or.inl rfl) (pe_lst (pa_cons (pe_lst (pa_cons pe_int (pa_cons pe_int (pa_cons pe_int (pa_cons pe_int (pa_cons pe_int pa_nil)))))) (pa_cons (pe_lst (pa_cons pe_int (pa_cons pe_int (pa_cons pe_int (pa_cons pe_int (pa_cons pe_int pa_nil)))))) (pa_cons (pe_lst (pa_cons pe_int (pa_cons pe_int (pa_cons pe_int (pa_cons pe_int (pa_cons pe_int pa_nil)))))) (pa_cons (pe_lst (pa_cons pe_int (pa_cons pe_int (pa_cons pe_int (pa_cons pe_int (pa_cons pe_int pa_nil)))))) (pa_cons (pe_lst (pa_cons pe_int (pa_cons pe_int (pa_cons pe_int (pa_cons pe_int (pa_cons pe_int (pa_cons pe_int pa_nil))))))) pa_nil)))))))
      (pss_cons (ps_for PassesOwn.never rfl (pi_range1 (by rfl) T.b_range (pa_cons pe_int pa_nil)) (pg_name (i := 3) nd rfl (Or.inl rfl))
        (pss_cons (ps_asg (pe_tup (pa_cons (pe_call (ok_lOne T) hr2 (by rfl) T.g_lOne T.F_lOne.kp (b_lOne T) .nil pass0 (pa_cons (pv 1) (pa_cons (pv 2) pa_nil))) (pa_cons (pe_call (ok_lOne T) hr2 (by rfl) T.g_lOne T.F_lOne.kp (b_lOne T) .nil pass0 (pa_cons (pv 1) (pa_cons (pe_lst (pa_cons pe_int (pa_cons pe_int (pa_cons (pe_op op_pow pe_int pe_int) pa_nil)))) pa_nil))) pa_nil))) (pg_tup rfl (pgs_cons (pg_name (i := 4) nd rfl (Or.inl rfl)) (pgs_cons (pg_name (i := 5) nd rfl (Or.inr rfl)) pgs_nil))))
        (pss_cons (ps_set (i := 6) nd rfl (Or.inr rfl) (pe_lc (own := [("_law_size", 17)]) (g := gName 17) (by rfl) nd (pi_list (pv 4))
            (blkOk_by (N := nLaw) (sc := defScope s_law) (own := [("_law_size", 17)]) (by decide +kernel))
            (fun _ _ _ _ _ => pg_name (i := 17) nd rfl (Or.inl rfl))
            (fun _ _ _ _ _ => by exact pts_one (PW.pt (pw_or (pt_cmpR op_eq (pe_call (ok_lDraw T) hr1 (by rfl) T.g_lDraw T.F_lDraw.kp (b_lDraw T) .nil pass0 (pa_cons (pv 1) (pa_cons pe_int pa_nil))) pe_int (nomark _)) (pw_or1 (pt_cmpR op_lt (pv 17) pe_int (nomark _))))))
            (fun _ _ _ _ _ => by exact pe_tup (pa_cons (pv 17) (pa_cons (pe_op op_add pe_int (pe_call (ok_lDraw T) hr1 (by rfl) T.g_lDraw T.F_lDraw.kp (b_lDraw T) .nil pass0 (pa_cons (pv 1) (pa_cons (pv 5) pa_nil)))) pa_nil)))))
        (pss_cons (ps_set (i := 7) nd rfl (Or.inr rfl) (pe_lc (own := [("_law_size", 17)]) (g := gName 17) (by rfl) nd (pi_list (pe_call (ok_lMixed T) hr2 (by rfl) T.g_lMixed T.F_lMixed.kp (b_lMixed T) .nil pass0 (pa_cons (pv 1) (pa_cons (pv 4) pa_nil))))
            (blkOk_by (N := nLaw) (sc := defScope s_law) (own := [("_law_size", 17)]) (by decide +kernel))
            (fun _ _ _ _ _ => pg_name (i := 17) nd rfl (Or.inl rfl))
            (fun _ _ _ _ _ => by exact pts_one (PW.pt (pw_or (pt_cmpR op_gt (pe_call (ok_lDraw T) hr1 (by rfl) T.g_lDraw T.F_lDraw.kp (b_lDraw T) .nil pass0 (pa_cons (pv 1) (pa_cons pe_int pa_nil))) pe_int (nomark _)) (pw_or1 (pt_cmpR op_eq (pv 17) pe_int (nomark _))))))
            (fun _ _ _ _ _ => by exact pe_tup (pa_cons (pv 17) (pa_cons (pe_op op_add pe_int (pe_call (ok_lDraw T) hr1 (by rfl) T.g_lDraw T.F_lDraw.kp (b_lDraw T) .nil pass0 (pa_cons (pv 1) (pa_cons (pv 5) pa_nil)))) pa_nil)))))
        (pss_cons (ps_if (pt_cmpR op_eq (pe_call (ok_lDraw T) hr1 (by rfl) T.g_lDraw T.F_lDraw.kp (b_lDraw T) .nil pass0 (pa_cons (pv 1) (pa_cons pe_int pa_nil))) pe_int (nomark _))
          (pss_cons (ps_set (i := 8) nd rfl (Or.inr rfl) (pe_lc (own := [("_law_size", 17), ("_law_count", 18)]) (g := gTup K 2 (gCons (gName 17) (gCons (gName 18) gNil))) (by rfl) nd (pi_list (pv 7))
              (blkOk_by (N := nLaw) (sc := defScope s_law) (own := [("_law_size", 17), ("_law_count", 18)]) (by decide +kernel))
              (fun _ _ _ _ _ => by exact tupK K rfl (pgs_cons (pg_name (i := 17) nd rfl (Or.inl rfl)) (pgs_cons (pg_name (i := 18) nd rfl (Or.inl rfl)) pgs_nil))) (fun _ _ _ _ _ => pts_nil) (fun _ _ _ _ _ => pv 17)))
          (pss_one (ps_set (i := 7) nd rfl (Or.inr rfl) (pe_op op_cat (pv 7) (pe_lc (own := [("_law_size", 17), ("_law_count", 18)]) (g := gTup K 2 (gCons (gName 17) (gCons (gName 18) gNil))) (by rfl) nd (pi_list (pv 6))
              (blkOk_by (N := nLaw) (sc := defScope s_law) (own := [("_law_size", 17), ("_law_count", 18)]) (by decide +kernel))
              (fun _ _ _ _ _ => by exact tupK K rfl (pgs_cons (pg_name (i := 17) nd rfl (Or.inl rfl)) (pgs_cons (pg_name (i := 18) nd rfl (Or.inl rfl)) pgs_nil)))
              (fun _ _ _ _ _ => by exact pts_one (pt_cmpR (notInK K) (pv 17) (pv 8) (by rfl)))
              (fun _ _ _ _ _ => pe_tup (pa_cons (pv 17) (pa_cons pe_int pa_nil)))))))) pss_nil)
        (pss_cons (ps_set (i := 7) nd rfl (Or.inr rfl) (pe_ifExp (pt_cmpR (op_neD hu64) (pv 7) (pe_lst pa_nil) (nomark _)) (pv 7) (pe_lst (pa_cons (pe_tup (pa_cons (pe_ix ix_list (pv 4) pe_int (fun _ _ => rfl)) (pa_cons pe_int pa_nil))) pa_nil))))
        (pss_cons (ps_par (i := 9) (j := 10) (by rfl) nd rfl rfl (by decide) rfl rfl (pa_cons (pe_make T.KSh (ok_shInit T) hr4 (by rfl) T.gSh bsh vsh pass0 (pa_cons (pv 6) pa_nil)) (pa_cons (pe_make T.KSh (ok_shInit T) hr4 (by rfl) T.gSh bsh vsh pass0 (pa_cons (pv 7) pa_nil)) pa_nil)) (by rfl))
        (pss_cons (ps_asg (pe_tup (pa_cons (pe_call (ok_embed T) hr (by rfl) T.g_embed T.F_embed.kp (b_embed T) .nil pass0 (pa_cons (pv 9) (pa_cons (pv 10) pa_nil)))
            (pa_cons (pe_lc (own := [("_law_size", 17), ("_law_count", 18)]) (g := gTup K 2 (gCons (gName 17) (gCons (gName 18) gNil))) (by rfl) nd (pi_list (pv 6))
              (blkOk_by (N := nLaw) (sc := defScope s_law) (own := [("_law_size", 17), ("_law_count", 18)]) (by decide +kernel))
              (fun _ _ _ _ _ => by exact tupK K rfl (pgs_cons (pg_name (i := 17) nd rfl (Or.inl rfl)) (pgs_cons (pg_name (i := 18) nd rfl (Or.inl rfl)) pgs_nil))) (fun _ _ _ _ _ => pts_nil) (fun _ _ _ _ _ => pv 17)) pa_nil)))
            (pg_tup rfl (pgs_cons (pg_name (i := 11) nd rfl (Or.inl rfl)) (pgs_cons (pg_name (i := 12) nd rfl (Or.inr rfl)) pgs_nil))))
        (pss_cons (ps_setLc (i := 13) (own := [("_law_count", 18), ("_law_great", 19)]) (g := gTup K 2 (gCons (gName 19) (gCons (gName 18) gNil))) (by rfl) nd rfl rfl (by rfl) (pi_list (pe_callB (cr_sortT (d := 2) (B := BB) (by decide)) (by rfl) T.b_sorted (by decide +kernel) (pa_cons (pv 7) pa_nil)))
            (blkOk_by (N := nLaw) (sc := defScope s_law) (own := [("_law_count", 18), ("_law_great", 19)]) (by decide +kernel))
            (fun _ _ _ _ _ => by exact tupK K rfl (pgs_cons (pg_name (i := 19) nd rfl (Or.inr rfl)) (pgs_cons (pg_name (i := 18) nd rfl (Or.inl rfl)) pgs_nil)))
            (fun _ _ _ _ _ => by exact pts_one (pt_not (pt_val (pe_callB (anyK K) (by rfl) T.b_any (by decide +kernel) (pa_cons (pe_lc (own := [("_law_size", 17)]) (g := gName 17) (by rfl) nd (listK K (pv 12))
              (blkOk_by (N := nLaw) (sc := relS _ (defScope s_law)) (own := [("_law_size", 17)]) (by decide +kernel))
              (fun _ _ _ _ _ => pg_name (i := 17) nd rfl (Or.inl rfl)) (fun _ _ _ _ _ => pts_nil)
              (fun _ _ _ _ _ => by exact pe_call (ok_lLies T) hr2 (by rfl) T.g_lLies T.F_lLies.kp (b_lLies T) .nil pass0 (pa_cons (pv 17) (pa_cons (pv 19) pa_nil)))) pa_nil)))))
            (fun _ _ _ _ _ => pv 19))
        (pss_cons (ps_set (i := 14) nd rfl (Or.inl rfl) (pe_lst (pa_cons (pe_lst pa_nil) pa_nil)))
        (pss_cons (ps_for PassesOwn.never rfl (pi_list (pv 12)) (pg_name (i := 17) nd rfl (Or.inr rfl))
          (pss_one (ps_set (i := 14) nd rfl (Or.inl rfl) (pe_op op_cat (pv 14) (pe_lc (own := [("_law_lot", 20)]) (g := gName 20) (by rfl) nd (pi_list (pv 14))
              (blkOk_by (N := nLaw) (sc := defScope s_law) (own := [("_law_lot", 20)]) (by decide +kernel))
              (fun _ _ _ _ _ => pg_name (i := 20) nd rfl (Or.inl rfl)) (fun _ _ _ _ _ => pts_nil)
              (fun _ _ _ _ _ => by exact pe_op op_cat (pv 20) (pe_lst (pa_cons (pv 17) pa_nil))))))))
        (pss_cons (ps_set (i := 15) nd rfl (Or.inl rfl) (pe_and (pe_cmpR (op_eqD hu64) (pv 13) (pe_lst pa_nil) (nomark _)) (pe_one (pe_not (pe_callB (anyK K) (by rfl) T.b_any (by decide +kernel) (pa_cons (pe_lc (own := [("_law_lot", 20)]) (g := gName 20) (by rfl) nd (pi_list (pv 14))
              (blkOk_by (N := nLaw) (sc := defScope s_law) (own := [("_law_lot", 20)]) (by decide +kernel))
              (fun _ _ _ _ _ => pg_name (i := 20) nd rfl (Or.inl rfl)) (fun _ _ _ _ _ => pts_nil)
              (fun _ _ _ _ _ => by exact pe_cmpR op_gt (pe_call (ok_lNeed T) hr1 (by rfl) T.g_lNeed T.F_lNeed.kp (b_lNeed T) .nil pass0 (pa_cons (pv 20) (pa_cons (pv 6) pa_nil))) (pe_call (ok_lRoom T) hr3 (by rfl) T.g_lRoom T.F_lRoom.kp (b_lRoom T) .nil pass0 (pa_cons (pv 20) (pa_cons (pv 7) pa_nil))) (nomark _))) pa_nil))))))
        (pss_cons (ps_if (pt_not (pt_val (pe_call (ok_same T 2) hr2 (by rfl) T.g_lSame T.F_lSame.kp (b_lSame T) .nil pass0 (pa_cons (pe_lst (pa_cons (pe_callTy (call_either (call_boolOwn T.M_emBool.at_ T.M_emBool.fn (ok_emBool T) hr3 (b_emBool T) pass0) (call_boolOwn T.M_blBool.at_ T.M_blBool.fn (ok_blBool T) hr3 (b_blBool T) pass0)) (by rfl) T.b_bool (by decide +kernel) (pa_cons (pv 11) pa_nil))
              (pa_cons (pe_either (pe_meth (pv 11) T.cEm T.M_emHolds (ok_emHolds T) hr5 (b_emHolds T) .nil pass0 (pa_cons (pv 9) (pa_cons (pv 10) pa_nil))) (pe_meth (pv 11) T.cBl T.M_blHolds (ok_blHolds T) hr5 (b_blHolds T) .nil pass0 (pa_cons (pv 9) (pa_cons (pv 10) pa_nil)))) pa_nil)))
            (pa_cons (pe_lst (pa_cons (pv 15) (pa_cons pe_bl pa_nil))) pa_nil))))) pss_never pss_nil)
        (pss_cons (ps_set (i := 16) nd rfl (Or.inl rfl) (pe_call (ok_embed T) hr (by rfl) T.g_embed T.F_embed.kp (b_embed T) .nil pass0 (pa_cons (pv 9) (pa_cons (pv 10) pa_nil))))
        (pss_cons (ps_if (pt_cmpR (op_neD hu64) (pe_ifExp (pt_val (pv 15)) (pe_meth0 (pv 16) T.cEm T.M_emAmounts (ok_emAmounts T) hr1 (b_emAmounts T) .nil pass0) (pe_prop (pv 16) T.cBl T.P_sizes (ok_blSizes T) hr2 (b_blSizes T) .nil pass0 rfl))
            (pe_ifExp (pt_val (pv 15)) (pe_meth0 (pv 11) T.cEm T.M_emAmounts (ok_emAmounts T) hr1 (b_emAmounts T) .nil pass0) (pe_prop (pv 11) T.cBl T.P_sizes (ok_blSizes T) hr2 (b_blSizes T) .nil pass0 rfl)) (nomark _)) pss_never pss_nil)
        (pss_one (ps_if (PW.pt (pw_or (PW.pt (pw_and (pt_val (pv 15)) (pw_and1 (pt_not (pt_val (pe_call (ok_lAm T TI) hr3 (by rfl) T.g_lAmounts T.F_lAmounts.kp (b_lAmounts T) .nil pass0 (pa_cons (pv 6) (pa_cons (pv 7) (pa_cons (pv 11) pa_nil)))))))))
            (pw_or1 (PW.pt (pw_and (pt_not (pt_val (pv 15))) (pw_and1 (pt_not (pt_val (pe_call (ok_lBar T TI) hr4 (by rfl) T.g_lBarred T.F_lBarred.kp (b_lBarred T) .nil pass0 (pa_cons (pv 6) (pa_cons (pv 7) (pa_cons (pv 13) (pa_cons (pv 11) pa_nil))))))))))))) pss_never pss_nil)))))))))))))))))
      (pss_one (ps_ret pe_bl)))), ?_⟩
    refine ⟨_, rfl, l, ns, rfl, hl, h63, fun H1 b c s1 hb0 hc0 hB => ?_⟩
    refine ⟨by show 5 ≤ sizeLine; decide, fun m1 hm1 => ⟨by show 5 ≤ sizeLine; decide, fun m2 hm2 => ⟨by show 5 ≤ sizeLine; decide, fun m3 hm3 => ⟨by show 5 ≤ sizeLine; decide, fun m4 hm4 => ⟨by show 6 ≤ sizeLine; decide, fun m5 hm5 => ⟨by show 5 ≤ sizeLine; decide, fun mn hmn => ?_⟩⟩⟩⟩⟩⟩
    have t1 := same_new (o := .lst ([2, 4, 8, 16, 64].map V.int)) hm1
    have t2 := same_new (o := .lst ([2, 4, 16, 3, 9].map V.int)) hm2
    have t3 := same_new (o := .lst ([2, 4, 8, 32, 64].map V.int)) hm3
    have t4 := same_new (o := .lst ([3, 9, 27, 5, 25].map V.int)) hm4
    have t5 := same_new (o := .lst ([2, 4, 8, 16, 32, 64].map V.int)) hm5
    have t6 := same_new (o := .lst [.ref m1, .ref m2, .ref m3, .ref m4, .ref m5]) hmn
    have hB2 := hB.same (t1.trans (t2.trans (t3.trans (t4.trans (t5.trans t6)))))
    have hM2 : MnAt (upd (upd (upd (upd (upd (upd H1 m1 (.lst ([2, 4, 8, 16, 64].map V.int))) m2 (.lst ([2, 4, 16, 3, 9].map V.int))) m3 (.lst ([2, 4, 8, 32, 64].map V.int))) m4 (.lst ([3, 9, 27, 5, 25].map V.int))) m5 (.lst ([2, 4, 8, 16, 32, 64].map V.int))) mn (.lst [.ref m1, .ref m2, .ref m3, .ref m4, .ref m5])) mn b := by
      refine ⟨_, upd_same, rfl, ((hB.same (t1.trans (t2.trans (t3.trans (t4.trans t5))))).ne hmn), fun x hx => ?_⟩
      simp only [List.mem_cons, List.not_mem_nil, or_false] at hx
      rcases hx with rfl | rfl | rfl | rfl | rfl
      · exact ⟨_, [2, 4, 8, 16, 64], rfl, (t2.trans (t3.trans (t4.trans (t5.trans t6)))) _ _ upd_same, hB.ne hm1, by decide⟩
      · exact ⟨_, [2, 4, 16, 3, 9], rfl, (t3.trans (t4.trans (t5.trans t6))) _ _ upd_same, (hB.same t1).ne hm2, by decide⟩
      · exact ⟨_, [2, 4, 8, 32, 64], rfl, (t4.trans (t5.trans t6)) _ _ upd_same, (hB.same (t1.trans t2)).ne hm3, by decide⟩
      · exact ⟨_, [3, 9, 27, 5, 25], rfl, (t5.trans t6) _ _ upd_same, (hB.same (t1.trans (t2.trans t3))).ne hm4, by decide⟩
      · exact ⟨_, [2, 4, 8, 16, 32, 64], rfl, t6 _ _ upd_same, (hB.same (t1.trans (t2.trans (t3.trans t4)))).ne hm5, by decide⟩
    clear t1 t2 t3 t4 t5 t6
    refine ⟨4, rfl, by decide, by decide, for_range (lo := 0) (n := (4 : Int).toNat) (fun i σ H' => ∃ v3 v4 v5 v6 v7 v8 v9 v10 v11 v12 v13 v14 v15 v16 v17 v18 v19 v20, σ = [some (.ref l), some (.ref b), some (.ref mn), v3, v4, v5, v6, v7, v8, v9, v10, v11, v12, v13, v14, v15, v16, v17, v18, v19, v20] ∧ Bag H' b c (1000 * i) ∧ MnAt H' mn b) ⟨_, _, _, _, _, _, _, _, _, _, _, _, _, _, _, _, _, _, rfl, ?_, ?_⟩ ?_ ?_⟩
    · exact hB2
    · exact hM2
    · rintro i σ H3 hi ⟨v3, v4, v5, v6, v7, v8, v9, v10, v11, v12, v13, v14, v15, v16, v17, v18, v19, v20, rfl, hB3, hM3⟩
      have hi4 : i < 4 := hi
      -- the menu, the greatest count
      obtain ⟨xs, hxs, hx5, nmb, hall⟩ := id hM3
      refine ⟨_, rfl, _, rfl, b, c, mn, xs, 1000 * i, rfl, hB3, by omega, hxs, nmb, by omega, by omega, fun H4 x hx sx4 hB4 => ?_⟩
      obtain ⟨a, menu, rfl, ha3, nab, hmenu⟩ := hall x hx
      obtain ⟨mnd, msz, mlen, mpos⟩ := menus_ok menu hmenu
      have hM4 := hM3.sx sx4
      have ha4 := sx4 _ _ nab ha3
      refine ⟨_, rfl, _, _, rfl, rfl, ⟨by decide, by decide, by decide⟩, by show 3 ≤ sizeLine; decide, fun l3 hl3 => ?_⟩
      have t5 := same_new (o := .lst [.int 2, .int 4, .int (10 ^ 30)]) hl3
      refine ⟨b, c, l3, [.int 2, .int 4, .int (10 ^ 30)], 1000 * i + 1, rfl, hB4.same t5, by omega, upd_same, hB4.ne hl3, by show 1 ≤ 3; decide, by show 3 ≤ 64; decide, fun H5 y hy sx5 hB5 => ?_⟩
      have hd : ∃ d : Int, y = .int d ∧ 1 ≤ d ∧ d ≤ 10 ^ 30 := by
        simp only [List.mem_cons, List.not_mem_nil, or_false] at hy
        rcases hy with rfl | rfl | rfl
        · exact ⟨2, rfl, by decide, by decide⟩
        · exact ⟨4, rfl, by decide, by decide⟩
        · exact ⟨10 ^ 30, rfl, by decide, by decide⟩
      obtain ⟨d, rfl, hd1, hd2⟩ := hd
      have hM5 := (hM4.sx t5.x).sx sx5
      have ha5 := sx5 _ _ nab (t5 _ _ ha4)
      refine ⟨by show 2 ≤ sizeLine; decide, fun t ht => ⟨t, _, rfl, SqT.of upd_same, rfl, _, _, rfl, _, _, rfl, rfl, ?_⟩⟩
      have t6 := same_new (o := .tup [.ref a, .int d]) ht
      have hB6 := hB5.same t6
      have hM6 := hM5.sx t6.x
      have ha6 := t6 _ _ ha5
      clear sx4 sx5 hM4 hM5 ha3 ha4 ha5 hB4 hB5 hx hall hxs hM3 hB3 hy
      generalize upd H5 t (.tup [.ref a, .int d]) = H6 at hB6 hM6 ha6 ⊢
      clear t5 t6 ht hl3
      -- the first shape
      refine ⟨_, rfl, a, rfl, ⟨_, SqL.of ha6⟩, fun o ho => ?_⟩
      refine lc_drawn (m := 1000 * i + 2) ha6 nab hB6 ho (by omega) (fun _ => rfl) (fun n kk H7 Q' hn hBk hkk hQ => ?_) (fun n kk H7 Q' hn hBk hkk hQ => ?_) (fun H7 L sx7 hB7 hR7 hsub7 hpos7 => ?_)
      · refine ⟨_, rfl, b, c, 3, kk, rfl, hBk, by omega, by decide, by decide, fun H8 r s8 hB8 h0 h1 => ⟨rfl, _, rfl, ?_⟩⟩
        by_cases z : r = 0
        · exact iteT' (decide_eq_true (congrArg V.int z)) (hQ _ _ s8 hB8)
        · exact iteF' (decide_eq_false fun q => z (V.int.inj q)) ⟨_, rfl, _, _, rfl, rfl, _, rfl, hQ _ _ s8 hB8⟩
      · refine ⟨_, rfl, _, rfl, _, rfl, b, c, d, kk, rfl, hBk, by omega, hd1, hd2, fun H8 r s8 hB8 h0 h1 => ⟨_, _, rfl, rfl, by show 2 ≤ sizeLine; decide, fun t ht => ?_⟩⟩
        exact hQ _ t (1 + r) (s8.trans (same_new ht).x) (hB8.same (same_new ht)) upd_same (by omega) (by omega)
      have dL := Drawn.of hsub7 mnd hpos7
      have nob := hB6.ne ho
      have T7 : TB H7 b c mn a o (1000 * i + 2 + 2 * menu.length) menu L := ⟨hB7, hM6.sx sx7, sx7 _ _ nab ha6, hR7, nab, nob⟩
      clear sx7 hB7 hR7 hM6 ha6 hB6 ho
      -- the second one
      refine ⟨_, rfl, _, rfl, b, c, a, menu, _, rfl, T7.bag, by omega, T7.menu, nab, by omega, fun H8 lx ms hperm sx8 hB8 hlx hlx0 => ?_⟩
      have nlx := T7.bag.ne hlx0
      have T8 := T7.sx sx8 hB8
      refine ⟨lx, rfl, ⟨_, SqL.of hlx⟩, fun e he => ?_⟩
      have hpl := hperm.length_eq
      refine lc_drawn (m := 1000 * i + 2 + 2 * menu.length + menu.length) hlx nlx hB8 he (by omega) (fun _ => rfl) (fun n kk H9 Q' hn hBk hkk hQ => ?_) (fun n kk H9 Q' hn hBk hkk hQ => ?_) (fun H9 N sx9 hB9 hR9 hsub9 hpos9 => ?_)
      · refine ⟨_, rfl, b, c, 3, kk, rfl, hBk, by omega, by decide, by decide, fun H8 r s8 hB8 h0 h1 => ⟨_, _, rfl, rfl, _, rfl, ?_⟩⟩
        by_cases z : 0 < r
        · exact iteT' (decide_eq_true z) (hQ _ _ s8 hB8)
        · exact iteF' (decide_eq_false z) ⟨_, rfl, rfl, _, rfl, hQ _ _ s8 hB8⟩
      · refine ⟨_, rfl, _, rfl, _, rfl, b, c, d, kk, rfl, hBk, by omega, hd1, hd2, fun H8 r s8 hB8 h0 h1 => ⟨_, _, rfl, rfl, by show 2 ≤ sizeLine; decide, fun t ht => ?_⟩⟩
        exact hQ _ t (1 + r) (s8.trans (same_new ht).x) (hB8.same (same_new ht)) upd_same (by omega) (by omega)
      have dN := (Drawn.of hsub9 (hperm.nodup_iff.mpr mnd) hpos9).perm hperm
      have neb := hB8.ne he
      have T9 := T8.sx sx9 hB9
      clear sx8 sx9 hB8 hB9 T7 T8 hlx hlx0 he
      have hm9 : 1000 * i + 2 + 2 * menu.length + menu.length + 2 * ms.length ≤ 1000 * i + 50 := by omega
      replace T9 : TB H9 b c mn a o (1000 * i + 50) menu L := T9.sx (Same.refl _).x (T9.bag.mono hm9)
      try dsimp only
      -- more of it
      refine seq_mid (fun σ' H' => ∃ r N v8, σ' = [some (.ref l), some (.ref b), some (.ref mn), some (.int (0 + i)), some (.ref a), some (.int d), some (.ref o), some (.ref r), v8, v9, v10, v11, v12, v13, v14, v15, v16, v17, v18, v19, v20] ∧ TB H' b c mn a o (1000 * i + 51) menu L ∧ Rows H' r e2 N ∧ r ≠ b ∧ Drawn menu N) (fun nx hnx => ?_) ?_
      · refine ⟨_, rfl, b, c, 3, _, rfl, T9.bag, by omega, by decide, by decide, fun H10 r0 sx hB h0 h1 => ⟨rfl, _, rfl, ?_⟩⟩
        have T10 := T9.sx sx hB
        have R10 : Rows H10 e e2 N := by
          obtain ⟨⟨bs, hb⟩, _⟩ := T9.bag.lst
          exact hR9.sx sx neb hb (by intro l z; cases z)
        clear T9 hR9 sx hB
        have lN := dN.len
        have lL := dL.len
        by_cases z : r0 = 0
        · refine iteT' (decide_eq_true (congrArg V.int z)) ?_
          obtain ⟨kr, r1, r2, r3⟩ := id R10
          refine ⟨_, rfl, e, rfl, ⟨_, SqL.of r1⟩, fun th hth => ?_⟩
          refine lc_pure (walk_list (xs := kr.map fun p => V.ref p.1)) N (fun _ => true) V.int (fun q => q.1) (by rw [List.length_map, ks_len r3]) (by omega) hth (fun H' s' => SqL.of (s' _ _ r1)) (fun j x q H11 H11' hq s11 y => ?_) (fun H11 s11 h11 => ?_)
          · obtain ⟨rfl, pq, hpq, rfl, rfl⟩ := src_rows r3 hq y
            exact ⟨Same.refl _, turn_pair (SqT.of (s11 _ _ (r2 pq hpq))) rfl yes_of fun _ H12 s12 Q' hQ => ⟨_, rfl, hQ _ _ (Same.refl _) rfl⟩⟩
          rw [filter_yes] at h11
          have h11 : H11 th = some (.lst ((keys N).map V.int)) := h11
          have T11 := T10.same s11
          obtain ⟨ko, o1, o2, o3⟩ := id T11.rows
          refine ⟨_, rfl, _, rfl, o, rfl, ⟨_, SqL.of o1⟩, fun De hDe => ?_⟩
          refine lc_rows (walk_list (xs := ko.map fun p => V.ref p.1)) L (fun q => !decide (q.1 ∈ keys N)) e2 (fun q => (q.1, (1 : Int))) (by rw [List.length_map, ks_len o3]) (by omega) hDe (fun H' s' => SqL.of (s' _ _ o1)) (fun j x q H12 H12' hq s12 y => ?_) (fun H12 s12 R12 => ?_)
          · obtain ⟨rfl, pq, hpq, rfl, rfl⟩ := src_rows o3 hq y
            refine ⟨Same.refl _, turn_pair (SqT.of (s12 _ _ (o2 pq hpq))) rfl (fun Q' hQ => ?_) fun _ H13 s13 Q' hQ => ⟨_, rfl, by show 2 ≤ sizeLine; decide, fun t ht => hQ _ _ (same_new ht) ⟨t, rfl, upd_same⟩⟩⟩
            refine ⟨_, rfl, _, rfl, th, _, rfl, .inl (SqL.of (s12 _ _ h11)), rfl, flat_ints _, !decide (pq.2.1 ∈ keys N), ?_, hQ _ (Same.refl _)⟩
            refine congrArg V.bl ?_
            show (!inV (V.int pq.2.1) ((keys N).map V.int)) = _
            by_cases c : pq.2.1 ∈ keys N
            · rw [decide_eq_true c, inV_yes c]
            · rw [decide_eq_false c, inV_no c]
          have T12 := T11.same s12
          have R12' := (R10.same s11).same s12
          obtain ⟨xs, ys, hx, hy, lx, ly, hcat⟩ := rows_cat R12' R12
          have hfl : ys.length ≤ L.length := by rw [ly, List.length_map]; exact List.length_filter_le _ _
          refine ⟨e, De, xs, ys, rfl, rfl, hx, hy, ?_, fun z hz => ?_⟩
          · exact Nat.le_of_lt (small1000 (by omega))
          exact hnx _ _ ⟨z, _, _, rfl, T12.same (same_new hz), hcat z hz, T12.bag.ne hz, dL.more dN⟩
        · refine iteF' (decide_eq_false fun q => z (V.int.inj q)) ?_
          exact hnx _ _ ⟨e, N, _, rfl, T10, R10, neb, dN⟩
      clear hR9 T9 dN neb hsub9 hpos9 hm9
      rintro σ H10 ⟨r, N, v8, rfl, T10, R10, nrb, dN⟩
      try dsimp only
      refine seq_mid (fun σ' H' => ∃ r N, σ' = [some (.ref l), some (.ref b), some (.ref mn), some (.int (0 + i)), some (.ref a), some (.int d), some (.ref o), some (.ref r), v8, v9, v10, v11, v12, v13, v14, v15, v16, v17, v18, v19, v20] ∧ TB H' b c mn a o (1000 * i + 51) menu L ∧ Rows H' r e2 N ∧ r ≠ b ∧ Drawn menu N) (fun nx hnx => ?_) ?_
      · refine ⟨_, rfl, by show 0 ≤ sizeLine; decide, fun e he => ?_⟩
        have s11 := same_new (o := .lst []) he
        refine ⟨_, _, dpRows (f := f2) (fun _ => rfl) (R10.same s11), dpRows (f := f2) (fun _ => rfl) (rows_nil upd_same), sh_rows _, sh_rows _, _, rfl, ?_⟩
        cases N with
        | nil =>
          rw [eqv_same (sh_rows _)]
          refine iteF ?_
          obtain ⟨m0, mr, hmr⟩ : ∃ m0 mr, menu = m0 :: mr := by
            cases menu with
            | nil => exact absurd mpos (by decide)
            | cons m0 mr => exact ⟨m0, mr, rfl⟩
          have ha11 := s11 _ _ T10.menu
          rw [hmr] at ha11
          refine ⟨_, rfl, a, _, 0, _, rfl, rfl, SqL.of ha11, at_zero, by show 2 ≤ sizeLine; decide, fun t ht => ⟨by show 1 ≤ sizeLine; decide, fun z hz => ?_⟩⟩
          have s12 := (s11.new (o := .tup [.int m0, .int 1]) ht).new (o := .lst [.ref t]) hz
          have T12 := T10.same s12
          refine hnx _ _ ⟨z, [(m0, 1)], rfl, T12, ⟨[(t, (m0, 1))], upd_same, fun p hp => by rw [List.mem_singleton.mp hp]; exact (same_new hz) _ _ upd_same, rfl⟩, ((T10.bag.same s11).same (same_new ht)).ne hz, ⟨by simp [keys], fun s hs => ?_, fun p hp => ?_⟩⟩
          · rw [show s = m0 by simpa [keys] using hs, hmr]; exact List.mem_cons_self ..
          · rw [List.mem_singleton.mp hp]; exact ⟨by show (1 : Int) ≤ 1; decide, by show (1 : Int) ≤ 10 ^ 30; decide⟩
        | cons q N =>
          have e1 : PyData.eqv (.list (dRows ((q :: N).map f2))) (.list (dRows (([] : List Pr).map f2))) = false := eqv_nilR _ _
          rw [e1]
          exact iteT ⟨_, rfl, hnx _ _ ⟨r, q :: N, rfl, T10.same s11, R10.same s11, nrb, dN⟩⟩
      clear T10 R10 nrb dN
      rintro σ H10 ⟨r, N, rfl, T10, R10, nrb, dN⟩
      try dsimp only
      have hL := dL.sh0 msz
      have hN := dN.sh0 msz
      have lL := dL.len
      have lN := dN.len
      have hRo := T10.rows
      -- the shapes
      refine ⟨_, rfl, ?_⟩
      intro f dxf hf hdf hnf
      have sf : Same H10 (upd (upd H10 dxf (.own f)) f (.ins D.cSh dxf [])) := same_made hf hdf hnf (fun _ _ _ e => e)
      refine ⟨f, o, dxf, L, rfl, upd_same, hRo.same sf, hL, fun H11 sX11 hF => ⟨rfl, ?_⟩⟩
      have s11 : Same H10 H11 := same_made hf hdf hnf sX11
      refine ⟨_, rfl, ?_⟩
      intro g dxg hg hdg hng
      have sg : Same H11 (upd (upd H11 dxg (.own g)) g (.ins D.cSh dxg [])) := same_made hg hdg hng (fun _ _ _ e => e)
      refine ⟨g, r, dxg, N, rfl, upd_same, (R10.same s11).same sg, hN, fun H12 sX12 hG => ⟨rfl, ?_⟩⟩
      have s12 : Same H11 H12 := same_made hg hdg hng sX12
      have hF := hF.same s12
      have T12 := (T10.same s11).same s12
      have R12 := (R10.same s11).same s12
      refine ⟨_, _, rfl, ?_⟩
      clear sX11 sX12 sf sg hf hdf hnf hg hdg hng s11 s12 T10 R10 hRo
      -- the answer
      refine ⟨_, rfl, _, rfl, f, g, L, N, rfl, hF, hG, hL, hN, by omega, by omega, fun H13 p rr hrr s13 hRes => ?_⟩
      have T13 := T12.same s13
      obtain ⟨ko, o1, o2, o3⟩ := id T13.rows
      refine ⟨_, rfl, o, rfl, ⟨_, SqL.of o1⟩, fun sm hsm => ?_⟩
      refine lc_pure (walk_list (xs := ko.map fun p => V.ref p.1)) L (fun _ => true) V.int (fun q => q.1) (by rw [List.length_map, ks_len o3]) (by omega) hsm (fun H' s' => SqL.of (s' _ _ o1)) (fun j x q H14 H14' hq s14 y => ?_) (fun H14 s14 h14 => ?_)
      · obtain ⟨rfl, pq, hpq, rfl, rfl⟩ := src_rows o3 hq y
        exact ⟨Same.refl _, turn_pair (SqT.of (s14 _ _ (o2 pq hpq))) rfl yes_of fun _ H15 s15 Q' hQ => ⟨_, rfl, hQ _ _ (Same.refl _) rfl⟩⟩
      rw [filter_yes] at h14
      have h14 : H14 sm = some (.lst ((keys L).map V.int)) := h14
      refine ⟨by show 2 ≤ sizeLine; decide, fun tu htu => ⟨tu, _, rfl, SqT.of upd_same, rfl, _, _, rfl, _, _, rfl, rfl, ?_⟩⟩
      have s15 := (s13.trans s14).new (o := .tup [.ref p, .ref sm]) htu
      have res_same : ∀ {H H' : Hp} {p : Addr} {rr : Res}, IsRes D H p rr → Same H H' → IsRes D H' p rr := fun {H H' p rr} h s => by
        cases rr with
        | emb rows => exact IsEm.same (show IsEm D H p rows from h) s
        | none g =>
          obtain ⟨dx, t, h1, h2⟩ := (show IsBl D H p "none" [g] from h)
          exact ⟨dx, t, s _ _ h1, s _ _ h2⟩
        | few S =>
          obtain ⟨dx, t, h1, h2⟩ := (show IsBl D H p "few" S from h)
          exact ⟨dx, t, s _ _ h1, s _ _ h2⟩
      have hRes15 := res_same hRes (s14.new (o := .tup [.ref p, .ref sm]) htu)
      have T15 := T12.same s15
      have R15 := R12.same s15
      have hF15 := hF.same s15
      have hG15 := hG.same s15
      have h15 := (same_new (o := .tup [.ref p, .ref sm]) htu) _ _ h14
      clear hRes T12 T13 R12 hF hG s13 s14 s15 h14 o1 o2 o3
      generalize upd H14 tu (.tup [.ref p, .ref sm]) = H15 at hRes15 T15 R15 hF15 hG15 h15 ⊢
      try dsimp only
      -- the bare greats
      refine ⟨_, rfl, ?_⟩
      dsimp only [tNil]
      refine sort_prs R15 hN (by omega) (.refl _) fun H16 q16 s16 R16 => ?_
      obtain ⟨k16, c1, c2, c3⟩ := R16
      have h16 := s16 _ _ h15
      have lkL : (keys L).length ≤ 6 := by rw [keys_len]; omega
      have szL : ∀ s ∈ keys L, s ∈ SIZES := fun s hs => msz s (dL.sub s hs)
      refine ⟨q16, rfl, ⟨_, SqL.of c1⟩, fun Dn hDn => ?_⟩
      refine lc_pure (walk_list (xs := k16.map fun p => V.ref p.1)) (srt N) (fun q => !(keys L).any fun s => lies s q.1) V.int (fun q => q.1) (by rw [List.length_map, ks_len c3]) (by rw [srt_len]; omega) hDn (fun H' s' => SqL.of (s' _ _ c1)) (fun j x q H17 H17' hq s17 y => ?_) (fun H17 s17 h17 => ?_)
      · obtain ⟨rfl, pq, hpq, rfl, rfl⟩ := src_rows c3 hq y
        refine ⟨Same.refl _, turn_pair (SqT.of (s17 _ _ (c2 pq hpq))) rfl (fun Q' hQ => ?_) fun _ H18 s18 Q' hQ => ⟨_, rfl, hQ _ _ (Same.refl _) rfl⟩⟩
        refine ⟨_, rfl, sm, rfl, ⟨_, SqL.of (s17 _ _ h16)⟩, fun De hDe => ?_⟩
        refine lc_pure (walk_list (xs := (keys L).map V.int)) (keys L) (fun _ => true) V.bl (fun s => lies s pq.2.1) (List.length_map ..) (by omega) hDe (fun H' s' => SqL.of (s' _ _ (s17 _ _ h16))) (fun jj x n H18 H18' hn s18 y => ?_) (fun H18 s18 h18 => ?_)
        · obtain ⟨rfl, rfl⟩ := src_list hn y
          refine ⟨Same.refl _, turn_name rfl yes_of fun _ H19 s19 Q2 hQ2 => ?_⟩
          exact ⟨_, rfl, _, rfl, n, pq.2.1, rfl, szL n (List.mem_of_getElem? hn), hN.sz _ (mem_srt.mp (List.mem_of_getElem? hq)), fun H20 s20 => hQ2 _ _ s20 rfl⟩
        · refine ⟨De, _, rfl, SqL.of h18, ?_⟩
          rw [any_map, filter_yes]
          exact ⟨_, rfl, hQ _ s18⟩
      have h17 : H17 Dn = some (.lst ((ngs L N).map V.int)) := h17
      have s1517 := s16.trans s17
      have T17 := T15.same s1517
      have R17 := R15.same s1517
      have hF17 := hF15.same s1517
      have hG17 := hG15.same s1517
      have hRes17 := res_same hRes15 s1517
      have h17s := s17 _ _ h16
      clear T15 R15 hF15 hG15 hRes15 h15 h16 s16 s17 s1517 c1 c2 c3
      -- the choices
      refine ⟨by show 0 ≤ sizeLine; decide, fun e0 he0 => ⟨by show 1 ≤ sizeLine; decide, fun lt0 hlt0 => ?_⟩⟩
      have s18 := (same_new (o := .lst []) he0).new (o := .lst [.ref e0]) hlt0
      have hLR : LRows (upd (upd H17 e0 (.lst [])) lt0 (.lst [.ref e0])) lt0 (lots ((keys L).take 0)) := ⟨[(e0, [])], upd_same, fun q hq => by rw [List.mem_singleton.mp hq]; exact (same_new hlt0) _ _ upd_same, rfl⟩
      have T18 := T17.same s18
      have R18 := R17.same s18
      have hF18 := hF17.same s18
      have hG18 := hG17.same s18
      have hRes18 := res_same hRes17 s18
      have h18s := s18 _ _ h17s
      have h18 := s18 _ _ h17
      clear T17 R17 hF17 hG17 hRes17 h17s h17 s18
      generalize upd (upd H17 e0 (.lst [])) lt0 (.lst [.ref e0]) = H18 at hLR T18 R18 hF18 hG18 hRes18 h18s h18 ⊢
      refine ⟨_, rfl, sm, rfl, ⟨_, SqL.of h18s⟩, for_list (K := K) (a := sm) (xs := (keys L).map V.int) (fun j σ H' => ∃ lt v17, σ = [some (.ref l), some (.ref b), some (.ref mn), some (.int (0 + i)), some (.ref a), some (.int d), some (.ref o), some (.ref r), v8, some (.ref f), some (.ref g), some (.ref p), some (.ref sm), some (.ref Dn), some (.ref lt), v15, v16, v17, v18, v19, v20] ∧ Same H18 H' ∧ LRows H' lt (lots ((keys L).take j))) ⟨lt0, _, rfl, Same.refl _, hLR⟩ (fun j σ H' _ ⟨_, _, _, s, _⟩ => SqL.of (s _ _ h18s)) ?_ ?_⟩
      · rintro j x σ H19 hx ⟨lt, v17, rfl, s19, kz, z1, z2, z3⟩
        obtain ⟨n, hn, rfl⟩ := get_map hx
        have hzl := ks_len z3
        have hlt := lots_le (l := keys L) (by omega) j
        refine ⟨_, rfl, _, rfl, lt, rfl, ⟨_, SqL.of z1⟩, fun Dd hDd => ?_⟩
        refine lc_w (walk_list (xs := kz.map fun p => V.ref p.1)) (fun jj acc H => ∃ ky : List (Addr × List Int), acc = ky.map (fun p => V.ref p.1) ∧ (∀ p ∈ ky, H p.1 = some (.lst (p.2.map V.int)) ∧ p.1 ≠ Dd) ∧ ky.map (·.2) = ((lots ((keys L).take j)).take jj).map fun r => r ++ [n]) hDd (fun H' s' => SqL.of (s' _ _ z1)) ⟨[], rfl, fun _ h => (by cases h), by simp⟩ (fun jj x acc H20 H20' hjj s20 hacc hal hgd y => ?_) (fun acc H20 s20 hacc hgd => ?_)
        · obtain ⟨rfl, hx2⟩ := y
          obtain ⟨q, hq, hqm, rfl, hqi⟩ := ks_get z3 hx2
          obtain ⟨ky, e1, e2, e3⟩ := hgd
          have hq20 := s20 _ _ (z2 q hqm)
          have hqs := (mem_lots.mp (List.mem_of_getElem? hqi)).length_le
          rw [List.length_take] at hqs
          refine ⟨rfl, ?_⟩
          refine ⟨_, rfl, _, rfl, by show 1 ≤ sizeLine; decide, fun u hu => ?_⟩
          refine ⟨q.1, u, _, _, rfl, rfl, (same_new hu) _ _ hq20, upd_same, ?_, fun z hz => ?_⟩
          · rw [List.length_map]
            exact Nat.le_of_lt (small1000 (by simp; omega))
          have s21 := (same_new (o := .lst [.int n]) hu).new (o := .lst (q.2.map V.int ++ [.int n])) hz
          rw [List.length_map] at hjj
          refine LcP.put s21 s20 hDd hacc hal (by omega) ⟨ky ++ [(z, q.2 ++ [n])], by rw [e1, List.map_append]; rfl, fun p hp => ?_, ?_⟩
          · have hzD : z ≠ Dd := (ne_of_none ((same_new hu) _ _ hacc) hz).symm
            rcases List.mem_append.mp hp with h | h
            · obtain ⟨g1, g2⟩ := e2 p h
              exact ⟨by rw [upd_ne g2]; exact s21 _ _ g1, g2⟩
            · rw [List.mem_singleton.mp h]
              refine ⟨?_, hzD⟩
              rw [upd_ne hzD, upd_same, List.map_append]
              rfl
          · rw [List.map_append, e3, take_succ_of hqi, List.map_append]
            rfl
        · obtain ⟨ky, e1, e2, e3⟩ := hgd
          rw [List.length_map, hzl, List.take_length] at e3
          refine ⟨lt, Dd, _, _, rfl, rfl, s20 _ _ z1, hacc, ?_, fun z hz => ?_⟩
          · rw [e1, List.length_map, List.length_map, hzl]
            have : ky.length = (lots ((keys L).take j)).length := by
              have := congrArg List.length e3
              rw [List.length_map, List.length_map] at this
              exact this
            exact Nat.le_of_lt (small1000 (by omega))
          refine ⟨z, _, rfl, (s19.trans s20).new hz, kz ++ ky, ?_, fun p hp => ?_, ?_⟩
          · rw [upd_same, e1, List.map_append]
          · rcases List.mem_append.mp hp with h | h
            · exact (same_new hz) _ _ (s20 _ _ (z2 p h))
            · exact (same_new hz) _ _ (e2 p h).1
          · rw [List.map_append, z3, e3, lots_take hn]
      rintro σ H19 ⟨lt, v17, rfl, s19, hLR19⟩
      rw [List.length_map, List.take_length] at hLR19
      try dsimp only
      -- good
      refine seq_mid (fun σ' H' => ∃ lt v17 gd, σ' = [some (.ref l), some (.ref b), some (.ref mn), some (.int (0 + i)), some (.ref a), some (.int d), some (.ref o), some (.ref r), v8, some (.ref f), some (.ref g), some (.ref p), some (.ref sm), some (.ref Dn), some (.ref lt), some (.bl gd), v16, v17, v18, v19, v20] ∧ gd = (decide (ngs L N = []) && !bars L N) ∧ Same H18 H') (fun nx hnx => ?_) ?_
      · refine ⟨_, rfl, by show 0 ≤ sizeLine; decide, fun e he => ?_⟩
        have s20 := s19.new (o := .lst []) he
        have hLR20 := hLR19.same (same_new (o := .lst []) he)
        refine ⟨_, _, dpL (SqL.of (s20 _ _ h18)), dpL (ns := []) (SqL.of upd_same), sh_ints _, sh_ints _, _, rfl, ?_⟩
        cases hng : ngs L N with
        | cons g0 tl =>
          rw [eqv_nil]
          refine iteF (hnx _ _ ⟨lt, _, false, rfl, ?_, s20⟩)
          rw [hng]; rfl
        | nil =>
          rw [eqv_same (sh_ints [])]
          refine iteT ?_
          obtain ⟨kz, z1, z2, z3⟩ := hLR20
          have hzl := ks_len z3
          have hll := lots_le (l := keys L) (by omega) (keys L).length
          rw [List.take_length] at hll
          refine ⟨_, rfl, lt, rfl, ⟨_, SqL.of z1⟩, fun De hDe => ?_⟩
          refine lc_pure (walk_list (xs := kz.map fun p => V.ref p.1)) (lots (keys L)) (fun _ => true) V.bl (fun S => decide (room S N < need S L)) (by rw [List.length_map, hzl]) (by omega) hDe (fun H' s' => SqL.of (s' _ _ z1)) (fun jj x S H21 H21' hS s21 y => ?_) (fun H21 s21 h21 => ?_)
          · obtain ⟨rfl, pq, hpq, rfl, rfl⟩ := src_rows z3 hS y
            have hSs := mem_lots.mp (List.mem_of_getElem? hS)
            have hSl := hSs.length_le
            refine ⟨Same.refl _, turn_name rfl yes_of fun _ H22 s22 Q' hQ => ?_⟩
            have s1822 := (s20.trans s21).trans s22
            have hz22 := s22 _ _ (s21 _ _ (z2 pq hpq))
            refine ⟨_, rfl, _, rfl, pq.1, o, pq.2, L, rfl, hz22, by omega, T18.rows.same s1822, by omega, fun H23 s23 => ?_⟩
            refine ⟨_, rfl, _, rfl, pq.1, r, pq.2, N, rfl, s23 _ _ hz22, by omega, fun s hs => szL s (hSs.subset hs), R18.same (s1822.trans s23), hN.sz, by omega, fun H24 s24 => ?_⟩
            exact ⟨_, _, rfl, rfl, hQ _ _ (s23.trans s24) rfl⟩
          refine ⟨De, _, rfl, SqL.of h21, ?_⟩
          rw [any_map, filter_yes]
          refine ⟨_, rfl, hnx _ _ ⟨lt, _, _, rfl, ?_, s20.trans s21⟩⟩
          rw [hng]; rfl
      clear hLR19 s19 hLR
      rintro σ H19 ⟨lt, v17, gd, rfl, hgd, s19⟩
      try dsimp only
      have T19 := T18.same s19
      have R19 := R18.same s19
      have hF19 := hF18.same s19
      have hG19 := hG18.same s19
      have hRes19 := res_same hRes18 s19
      have h19 := s19 _ _ h18
      clear T18 R18 hF18 hG18 hRes18 h18 h18s s19
      have hcase : (∃ rows, rr = .emb rows ∧ gd = true ∧ VE (srt L) (srt N) rows) ∨ (∃ kd S, gd = false ∧ BlOk L N kd S ∧ ((∃ g t, ngs L N = g :: t ∧ kd = "none" ∧ S = [g]) ∨ (ngs L N = [] ∧ kd = "few" ∧ S.Pairwise (· < ·) ∧ (∀ s ∈ S, s ∈ keys L) ∧ room S N < need S L)) ∧ ∀ H p, IsRes D H p rr → IsBl D H p kd S) := by
        have hres := res_ok hL hN hrr
        cases rr with
        | none g0 =>
          obtain ⟨⟨t0, h1⟩, h2⟩ := hres
          refine .inr ⟨"none", [g0], ?_, h2, .inl ⟨g0, t0, h1, rfl, rfl⟩, fun H p h => h⟩
          rw [hgd, h1]; rfl
        | few S =>
          obtain ⟨h1, h2, h3⟩ := hres
          have h4 : (∀ s ∈ S, s ∈ keys L) ∧ S.Pairwise (· < ·) ∧ room S N < need S L := by
            rcases h3 with ⟨e, _⟩ | ⟨_, h⟩
            · exact absurd e (by decide)
            · exact h
          refine .inr ⟨"few", S, ?_, h3, .inr ⟨h1, rfl, h4.2.1, h4.1, h4.2.2⟩, fun H p h => h⟩
          rw [hgd, h2, Bool.not_true, Bool.and_false]
        | emb rows =>
          obtain ⟨h1, h2, h3⟩ := hres
          refine .inl ⟨rows, rfl, ?_, h3⟩
          rw [hgd, h1, h2]; rfl
      have end_ : ∀ {H' : Hp}, Same H19 H' → Bag H' b c (1000 * (i + 1)) ∧ MnAt H' mn b := fun {H'} s => ⟨((T19.same s).bag).mono (by omega), (T19.same s).mn⟩
      rcases hcase with ⟨rows, rfl, rfl, hV⟩ | ⟨kd, S, rfl, hOk, hcd, hBl⟩
      · have hEm19 : IsEm D H19 p rows := hRes19
        obtain ⟨dx, l0, hp1, hl0⟩ := id hEm19
        have hM49 := ve_len hV
        have hM50 : (srt L).length * (srt N).length ≤ 7 * 7 := Nat.mul_le_mul (by rw [srt_len]; omega) (by rw [srt_len]; omega)
        refine ⟨_, rfl, .inl ⟨p, dx, _, rfl, hp1, _, rfl, true, rfl, ?_⟩⟩
        refine .inl ⟨_, rfl, p, dx, _, rfl, hp1, rfl, _, rfl, _, rfl, p, f, g, rows, L, N, rfl, hEm19, hF19, hG19, hL, hN, hV, by omega, fun H20 s20 => ?_⟩
        refine ⟨by show 2 ≤ sizeLine; decide, fun l1 hl1 => ⟨_, rfl, by show 2 ≤ sizeLine; decide, fun l2 hl2 => ?_⟩⟩
        have s21 := (same_new (o := .lst [.bl true, .bl true]) hl1).new (o := .lst [.bl true, .bl true]) hl2
        refine ⟨.ref l1, .ref l2, rfl, .inr ⟨l1, l2, [.bl true, .bl true], [.bl true, .bl true], rfl, rfl, .cons (.inl ⟨rfl, .inl ⟨_, rfl⟩⟩) (.cons (.inl ⟨rfl, .inl ⟨_, rfl⟩⟩) .nil), (by show 2 ≤ 60; decide), .inl ⟨(same_new hl2) _ _ upd_same, upd_same⟩⟩, fun H22 s22 => ⟨true, rfl, iteF ?_⟩⟩
        have s1922 := (s20.trans s21).trans s22
        refine ⟨_, rfl, _, rfl, f, g, L, N, rfl, hF19.same s1922, hG19.same s1922, hL, hN, by omega, by omega, fun H23 p2 r2 hr2 s23 hRes2 => ?_⟩
        have e2 : r2 = .emb rows := Option.some.inj (hr2.symm.trans hrr)
        subst e2
        have hEm23 : IsEm D H23 p2 rows := hRes2
        obtain ⟨dx2, l02, hp2, hl02⟩ := id hEm23
        have s1923 := s1922.trans s23
        refine ⟨_, rfl, true, rfl, iteT ⟨_, rfl, p2, dx2, _, rfl, hp2, rfl, p2, rows, rfl, hEm23, fun H24 la s24 R24 => ⟨_, rfl, true, rfl, iteT ⟨_, rfl, p, dx, _, rfl, (s1923.trans s24) _ _ hp1, rfl, p, rows, rfl, hEm19.same (s1923.trans s24), fun H25 lb s25 R25 => ?_⟩⟩⟩⟩
        refine ⟨_, _, dpRows (f := f3) (fun _ => rfl) (R24.same s25), dpRows (f := f3) (fun _ => rfl) R25, sh_rows _, sh_rows _, _, rfl, ?_⟩
        rw [eqv_same (sh_rows _)]
        refine iteF ?_
        have s1925 := (s1923.trans s24).trans s25
        refine ⟨_, rfl, true, rfl, iteT ⟨_, rfl, _, rfl, _, rfl, o, r, p, L, N, rows, rfl, T19.rows.same s1925, R19.same s1925, hL, hN, by omega, by omega, hEm19.same s1925, hV, fun H26 s26 => ⟨true, rfl, iteF ⟨_, rfl, true, rfl, iteF (iteF ?_)⟩⟩⟩⟩
        exact ⟨_, _, _, _, _, _, _, _, _, _, _, _, _, _, _, _, _, _, rfl, end_ (s1925.trans s26)⟩
      · have hBl19 : IsBl D H19 p kd S := hBl _ _ hRes19
        obtain ⟨dx, t0, hp1, ht0⟩ := id hBl19
        have bl_same : ∀ {H' : Hp}, Same H19 H' → IsBl D H' p kd S := fun s => ⟨dx, t0, s _ _ hp1, s _ _ ht0⟩
        refine ⟨_, rfl, .inr ⟨p, dx, _, rfl, hp1, _, rfl, false, rfl, ?_⟩⟩
        refine .inr ⟨_, rfl, p, dx, _, rfl, hp1, rfl, _, rfl, _, rfl, p, f, g, kd, S, L, N, rfl, hBl19, hF19, hG19, hL, hN, hOk, fun H20 s20 => ?_⟩
        refine ⟨by show 2 ≤ sizeLine; decide, fun l1 hl1 => ⟨_, rfl, by show 2 ≤ sizeLine; decide, fun l2 hl2 => ?_⟩⟩
        have s21 := (same_new (o := .lst [.bl false, .bl true]) hl1).new (o := .lst [.bl false, .bl true]) hl2
        refine ⟨.ref l1, .ref l2, rfl, .inr ⟨l1, l2, [.bl false, .bl true], [.bl false, .bl true], rfl, rfl, .cons (.inl ⟨rfl, .inl ⟨_, rfl⟩⟩) (.cons (.inl ⟨rfl, .inl ⟨_, rfl⟩⟩) .nil), (by show 2 ≤ 60; decide), .inl ⟨(same_new hl2) _ _ upd_same, upd_same⟩⟩, fun H22 s22 => ⟨true, rfl, iteF ?_⟩⟩
        have s1922 := (s20.trans s21).trans s22
        refine ⟨_, rfl, _, rfl, f, g, L, N, rfl, hF19.same s1922, hG19.same s1922, hL, hN, by omega, by omega, fun H23 p2 r2 hr2 s23 hRes2 => ?_⟩
        have e2 : r2 = rr := Option.some.inj (hr2.symm.trans hrr)
        subst e2
        have hBl23 : IsBl D H23 p2 kd S := hBl _ _ hRes2
        obtain ⟨dx2, t02, hp2, ht02⟩ := id hBl23
        have s1923 := s1922.trans s23
        refine ⟨_, rfl, false, rfl, iteF ⟨_, rfl, p2, dx2, _, rfl, hp2, p2, kd, S, rfl, hBl23, fun t ht => ⟨_, rfl, false, rfl, iteF ⟨_, rfl, p, dx, _, rfl, s1923 _ _ hp1, p, kd, S, rfl, bl_same s1923, fun t' ht' => ?_⟩⟩⟩⟩
        refine ⟨_, _, dpT (SqT.of ht), dpT (SqT.of ht'), sh_intsT _, sh_intsT _, _, rfl, ?_⟩
        rw [eqv_same (sh_intsT _)]
        refine iteF ?_
        refine ⟨_, rfl, false, rfl, iteF (iteF ⟨_, rfl, false, rfl, iteT ⟨_, rfl, _, rfl, _, rfl, _, rfl, o, r, Dn, p, L, N, kd, S, ngs L N, rfl, T19.rows.same s1923, R19.same s1923, hL, hN, by omega, by omega, s1923 _ _ h19, bl_same s1923, hcd, fun H26 s26 => ⟨true, rfl, iteF ?_⟩⟩⟩)⟩
        exact ⟨_, _, _, _, _, _, _, _, _, _, _, _, _, _, _, _, _, _, rfl, end_ (s1923.trans s26)⟩
    · rintro σ H' ⟨v3, v4, v5, v6, v7, v8, v9, v10, v11, v12, v13, v14, v15, v16, v17, v18, v19, v20, rfl, _, _⟩
      exact k _
end
end K64W
set_option Elab.async false
set_option maxRecDepth 100000
set_option maxHeartbeats 4000000
/-! The law's def, for the end. -/
namespace K64W
open PySem PySem.Spec PyProof.Rows L2 K64
theorem law_end {P : Program} {w : World} {K : PySem.W.Frag} {mg : PySem.Str → Option Value} {D : Ad} {fa : Addr} (e : D.f_law = fa) (T : Txt K mg D) (TI : TxtI K D) :
    ∃ fd : FuncData, (∀ (s : Shared) (u : Value), BindsTo s fd ⟨[u], []⟩ [("_law_script", u)]) ∧ ∀ base : Heap, K.In base → base.Ns mainGlobals mg → FnOk P w K mg base CX0 7 fa fd ["_law_script"] (spLaw K) := by
  subst e
  obtain ⟨oc, od, kV, doc, pm, an, cdv, ct, osl, e2, _, _⟩ := T.F_law.ex
  refine ⟨D.d_law, fun s u => ?_, fun base _ _ => ok_law T TI⟩
  rw [e2]
  exact .of_eq rfl
end K64W
namespace K64W
open PySem L2 K64
/-- ints read off values -/
def valsInts : List Value → Option (List Int)
  | [] => some []
  | .int i _ :: r => (valsInts r).map (i :: ·)
  | _ :: _ => none
theorem valsInts_ok : ∀ {l : List Value} {ns : List Int}, valsInts l = some ns → Vals (ns.map V.int) l
  | [], ns, h => by
    cases h
    exact .nil
  | v :: r, ns, h => by
    cases v with
    | int i t =>
      have h1 : (valsInts r).map (i :: ·) = some ns := h
      obtain ⟨ms, e1, e2⟩ := Option.map_eq_some_iff.mp h1
      subst e2
      exact .cons ⟨t, rfl⟩ (valsInts_ok e1)
    | _ => exact absurd (show (none : Option (List Int)) = some ns from h) (by simp)
theorem txt_use {K : PySem.W.Frag} {h : Heap} {mg : Str → Option Value} {fa : Addr} {goal : Prop} (X : K.In h) (G : h.Ns mainGlobals mg) (hfa : mg "law" = some (.ref fa))
    {f_isWhole f_isSize f_primeOf f_degreeOf f_liesIn f_roomFor f_chosenSizes f_embed f_lCells f_lDraw f_lOne f_lMixed f_lSame f_lSplit f_lLies f_lRoom f_lNeed f_lAmounts f_lBarred f_law f_shInit f_shCounts f_shCount f_emInit f_emAmounts f_emHolds f_emBool f_blInit f_blKind f_blSizes f_blHolds f_blBool f_gvInit f_gvPath f_gvUse f_gvGiven cSh cEm cBl cGv aSIZES pKind pSizes kD : Addr}
    {od_isWhole an_isWhole od_isSize an_isSize od_primeOf an_primeOf od_degreeOf an_degreeOf od_liesIn an_liesIn od_roomFor an_roomFor od_chosenSizes an_chosenSizes od_embed an_embed od_lCells an_lCells od_lDraw an_lDraw od_lOne an_lOne od_lMixed an_lMixed od_lSame an_lSame od_lSplit an_lSplit od_lLies an_lLies od_lRoom an_lRoom od_lNeed an_lNeed od_lAmounts an_lAmounts od_lBarred an_lBarred od_law an_law od_shInit an_shInit od_shCounts an_shCounts od_shCount an_shCount od_emInit an_emInit od_emAmounts an_emAmounts od_emHolds an_emHolds od_emBool an_emBool od_blInit an_blInit od_blKind an_blKind od_blSizes an_blSizes od_blHolds an_blHolds od_blBool an_blBool od_gvInit an_gvInit od_gvPath an_gvPath od_gvUse an_gvUse od_gvGiven an_gvGiven od_S : Option Addr}
    {sl_isWhole sl_isSize sl_primeOf sl_degreeOf sl_liesIn sl_roomFor sl_chosenSizes sl_embed sl_lCells sl_lDraw sl_lOne sl_lMixed sl_lSame sl_lSplit sl_lLies sl_lRoom sl_lNeed sl_lAmounts sl_lBarred sl_law sl_shInit sl_shCounts sl_shCount sl_emInit sl_emAmounts sl_emHolds sl_emBool sl_blInit sl_blKind sl_blSizes sl_blHolds sl_blBool sl_gvInit sl_gvPath sl_gvUse sl_gvGiven sl_S : Array (Option Value)}
    {oc_isWhole kV_isWhole dc_isWhole pm_isWhole cd_isWhole ct_isWhole oc_isSize kV_isSize dc_isSize pm_isSize cd_isSize ct_isSize oc_primeOf kV_primeOf dc_primeOf pm_primeOf cd_primeOf ct_primeOf oc_degreeOf kV_degreeOf dc_degreeOf pm_degreeOf cd_degreeOf ct_degreeOf oc_liesIn kV_liesIn dc_liesIn pm_liesIn cd_liesIn ct_liesIn oc_roomFor kV_roomFor dc_roomFor pm_roomFor cd_roomFor ct_roomFor oc_chosenSizes kV_chosenSizes dc_chosenSizes pm_chosenSizes cd_chosenSizes ct_chosenSizes oc_embed kV_embed dc_embed pm_embed cd_embed ct_embed oc_lCells kV_lCells dc_lCells pm_lCells cd_lCells ct_lCells oc_lDraw kV_lDraw dc_lDraw pm_lDraw cd_lDraw ct_lDraw oc_lOne kV_lOne dc_lOne pm_lOne cd_lOne ct_lOne oc_lMixed kV_lMixed dc_lMixed pm_lMixed cd_lMixed ct_lMixed oc_lSame kV_lSame dc_lSame pm_lSame cd_lSame ct_lSame oc_lSplit kV_lSplit dc_lSplit pm_lSplit cd_lSplit ct_lSplit oc_lLies kV_lLies dc_lLies pm_lLies cd_lLies ct_lLies oc_lRoom kV_lRoom dc_lRoom pm_lRoom cd_lRoom ct_lRoom oc_lNeed kV_lNeed dc_lNeed pm_lNeed cd_lNeed ct_lNeed oc_lAmounts kV_lAmounts dc_lAmounts pm_lAmounts cd_lAmounts ct_lAmounts oc_lBarred kV_lBarred dc_lBarred pm_lBarred cd_lBarred ct_lBarred oc_law kV_law dc_law pm_law cd_law ct_law oc_shCounts kV_shCounts dc_shCounts pm_shCounts cd_shCounts ct_shCounts oc_shCount kV_shCount dc_shCount pm_shCount cd_shCount ct_shCount oc_emInit kV_emInit dc_emInit pm_emInit cd_emInit ct_emInit oc_emAmounts kV_emAmounts dc_emAmounts pm_emAmounts cd_emAmounts ct_emAmounts oc_emHolds kV_emHolds dc_emHolds pm_emHolds cd_emHolds ct_emHolds oc_emBool kV_emBool dc_emBool pm_emBool cd_emBool ct_emBool oc_blInit kV_blInit dc_blInit pm_blInit cd_blInit ct_blInit oc_blKind kV_blKind dc_blKind pm_blKind cd_blKind ct_blKind oc_blSizes kV_blSizes dc_blSizes pm_blSizes cd_blSizes ct_blSizes oc_blHolds kV_blHolds dc_blHolds pm_blHolds cd_blHolds ct_blHolds oc_blBool kV_blBool dc_blBool pm_blBool cd_blBool ct_blBool oc_gvInit kV_gvInit dc_gvInit pm_gvInit cd_gvInit ct_gvInit oc_gvPath kV_gvPath dc_gvPath pm_gvPath cd_gvPath ct_gvPath oc_gvUse kV_gvUse dc_gvUse pm_gvUse cd_gvUse ct_gvUse oc_gvGiven kV_gvGiven dc_gvGiven pm_gvGiven cd_gvGiven ct_gvGiven oc_shInit dc_shInit pm_shInit cd_shInit ct_shInit : Value}
    {rest_blKind rest_blSizes : List Value} {itS : Array Value} {nS : Nat} {tk0 : Tok}
    (a_isWhole : PySem.W.nsIn K mainGlobals "is_whole" = some (some (.ref f_isWhole)))
    (l_isWhole : K.lookup f_isWhole = some ⟨oc_isWhole, od_isWhole, .func (PySem.W.fnOf "is_whole" "is_whole" (defArgs s_isWhole) (defBody s_isWhole) (defScope s_isWhole) .none kV_isWhole dc_isWhole pm_isWhole an_isWhole cd_isWhole ct_isWhole), sl_isWhole⟩)
    (c_isWhole : PySem.W.codeIn K cd_isWhole "is_whole" = true)
    (k_isWhole : PySem.W.keepIn K (.ref f_isWhole) = true)
    (a_isSize : PySem.W.nsIn K mainGlobals "is_size" = some (some (.ref f_isSize)))
    (l_isSize : K.lookup f_isSize = some ⟨oc_isSize, od_isSize, .func (PySem.W.fnOf "is_size" "is_size" (defArgs s_isSize) (defBody s_isSize) (defScope s_isSize) .none kV_isSize dc_isSize pm_isSize an_isSize cd_isSize ct_isSize), sl_isSize⟩)
    (c_isSize : PySem.W.codeIn K cd_isSize "is_size" = true)
    (k_isSize : PySem.W.keepIn K (.ref f_isSize) = true)
    (a_primeOf : PySem.W.nsIn K mainGlobals "prime_of" = some (some (.ref f_primeOf)))
    (l_primeOf : K.lookup f_primeOf = some ⟨oc_primeOf, od_primeOf, .func (PySem.W.fnOf "prime_of" "prime_of" (defArgs s_primeOf) (defBody s_primeOf) (defScope s_primeOf) .none kV_primeOf dc_primeOf pm_primeOf an_primeOf cd_primeOf ct_primeOf), sl_primeOf⟩)
    (c_primeOf : PySem.W.codeIn K cd_primeOf "prime_of" = true)
    (k_primeOf : PySem.W.keepIn K (.ref f_primeOf) = true)
    (a_degreeOf : PySem.W.nsIn K mainGlobals "degree_of" = some (some (.ref f_degreeOf)))
    (l_degreeOf : K.lookup f_degreeOf = some ⟨oc_degreeOf, od_degreeOf, .func (PySem.W.fnOf "degree_of" "degree_of" (defArgs s_degreeOf) (defBody s_degreeOf) (defScope s_degreeOf) .none kV_degreeOf dc_degreeOf pm_degreeOf an_degreeOf cd_degreeOf ct_degreeOf), sl_degreeOf⟩)
    (c_degreeOf : PySem.W.codeIn K cd_degreeOf "degree_of" = true)
    (k_degreeOf : PySem.W.keepIn K (.ref f_degreeOf) = true)
    (a_liesIn : PySem.W.nsIn K mainGlobals "lies_in" = some (some (.ref f_liesIn)))
    (l_liesIn : K.lookup f_liesIn = some ⟨oc_liesIn, od_liesIn, .func (PySem.W.fnOf "lies_in" "lies_in" (defArgs s_liesIn) (defBody s_liesIn) (defScope s_liesIn) .none kV_liesIn dc_liesIn pm_liesIn an_liesIn cd_liesIn ct_liesIn), sl_liesIn⟩)
    (c_liesIn : PySem.W.codeIn K cd_liesIn "lies_in" = true)
    (k_liesIn : PySem.W.keepIn K (.ref f_liesIn) = true)
    (a_roomFor : PySem.W.nsIn K mainGlobals "room_for" = some (some (.ref f_roomFor)))
    (l_roomFor : K.lookup f_roomFor = some ⟨oc_roomFor, od_roomFor, .func (PySem.W.fnOf "room_for" "room_for" (defArgs s_roomFor) (defBody s_roomFor) (defScope s_roomFor) .none kV_roomFor dc_roomFor pm_roomFor an_roomFor cd_roomFor ct_roomFor), sl_roomFor⟩)
    (c_roomFor : PySem.W.codeIn K cd_roomFor "room_for" = true)
    (k_roomFor : PySem.W.keepIn K (.ref f_roomFor) = true)
    (a_chosenSizes : PySem.W.nsIn K mainGlobals "chosen_sizes" = some (some (.ref f_chosenSizes)))
    (l_chosenSizes : K.lookup f_chosenSizes = some ⟨oc_chosenSizes, od_chosenSizes, .func (PySem.W.fnOf "chosen_sizes" "chosen_sizes" (defArgs s_chosenSizes) (defBody s_chosenSizes) (defScope s_chosenSizes) .none kV_chosenSizes dc_chosenSizes pm_chosenSizes an_chosenSizes cd_chosenSizes ct_chosenSizes), sl_chosenSizes⟩)
    (c_chosenSizes : PySem.W.codeIn K cd_chosenSizes "chosen_sizes" = true)
    (k_chosenSizes : PySem.W.keepIn K (.ref f_chosenSizes) = true)
    (a_embed : PySem.W.nsIn K mainGlobals "embed" = some (some (.ref f_embed)))
    (l_embed : K.lookup f_embed = some ⟨oc_embed, od_embed, .func (PySem.W.fnOf "embed" "embed" (defArgs s_embed) (defBody s_embed) (defScope s_embed) .none kV_embed dc_embed pm_embed an_embed cd_embed ct_embed), sl_embed⟩)
    (c_embed : PySem.W.codeIn K cd_embed "embed" = true)
    (k_embed : PySem.W.keepIn K (.ref f_embed) = true)
    (a_lCells : PySem.W.nsIn K mainGlobals "_law_cells" = some (some (.ref f_lCells)))
    (l_lCells : K.lookup f_lCells = some ⟨oc_lCells, od_lCells, .func (PySem.W.fnOf "_law_cells" "_law_cells" (defArgs s_lCells) (defBody s_lCells) (defScope s_lCells) .none kV_lCells dc_lCells pm_lCells an_lCells cd_lCells ct_lCells), sl_lCells⟩)
    (c_lCells : PySem.W.codeIn K cd_lCells "_law_cells" = true)
    (k_lCells : PySem.W.keepIn K (.ref f_lCells) = true)
    (a_lDraw : PySem.W.nsIn K mainGlobals "_law_draw" = some (some (.ref f_lDraw)))
    (l_lDraw : K.lookup f_lDraw = some ⟨oc_lDraw, od_lDraw, .func (PySem.W.fnOf "_law_draw" "_law_draw" (defArgs s_lDraw) (defBody s_lDraw) (defScope s_lDraw) .none kV_lDraw dc_lDraw pm_lDraw an_lDraw cd_lDraw ct_lDraw), sl_lDraw⟩)
    (c_lDraw : PySem.W.codeIn K cd_lDraw "_law_draw" = true)
    (k_lDraw : PySem.W.keepIn K (.ref f_lDraw) = true)
    (a_lOne : PySem.W.nsIn K mainGlobals "_law_one" = some (some (.ref f_lOne)))
    (l_lOne : K.lookup f_lOne = some ⟨oc_lOne, od_lOne, .func (PySem.W.fnOf "_law_one" "_law_one" (defArgs s_lOne) (defBody s_lOne) (defScope s_lOne) .none kV_lOne dc_lOne pm_lOne an_lOne cd_lOne ct_lOne), sl_lOne⟩)
    (c_lOne : PySem.W.codeIn K cd_lOne "_law_one" = true)
    (k_lOne : PySem.W.keepIn K (.ref f_lOne) = true)
    (a_lMixed : PySem.W.nsIn K mainGlobals "_law_mixed" = some (some (.ref f_lMixed)))
    (l_lMixed : K.lookup f_lMixed = some ⟨oc_lMixed, od_lMixed, .func (PySem.W.fnOf "_law_mixed" "_law_mixed" (defArgs s_lMixed) (defBody s_lMixed) (defScope s_lMixed) .none kV_lMixed dc_lMixed pm_lMixed an_lMixed cd_lMixed ct_lMixed), sl_lMixed⟩)
    (c_lMixed : PySem.W.codeIn K cd_lMixed "_law_mixed" = true)
    (k_lMixed : PySem.W.keepIn K (.ref f_lMixed) = true)
    (a_lSame : PySem.W.nsIn K mainGlobals "_law_same" = some (some (.ref f_lSame)))
    (l_lSame : K.lookup f_lSame = some ⟨oc_lSame, od_lSame, .func (PySem.W.fnOf "_law_same" "_law_same" (defArgs s_lSame) (defBody s_lSame) (defScope s_lSame) .none kV_lSame dc_lSame pm_lSame an_lSame cd_lSame ct_lSame), sl_lSame⟩)
    (c_lSame : PySem.W.codeIn K cd_lSame "_law_same" = true)
    (k_lSame : PySem.W.keepIn K (.ref f_lSame) = true)
    (a_lSplit : PySem.W.nsIn K mainGlobals "_law_split" = some (some (.ref f_lSplit)))
    (l_lSplit : K.lookup f_lSplit = some ⟨oc_lSplit, od_lSplit, .func (PySem.W.fnOf "_law_split" "_law_split" (defArgs s_lSplit) (defBody s_lSplit) (defScope s_lSplit) .none kV_lSplit dc_lSplit pm_lSplit an_lSplit cd_lSplit ct_lSplit), sl_lSplit⟩)
    (c_lSplit : PySem.W.codeIn K cd_lSplit "_law_split" = true)
    (k_lSplit : PySem.W.keepIn K (.ref f_lSplit) = true)
    (a_lLies : PySem.W.nsIn K mainGlobals "_law_lies" = some (some (.ref f_lLies)))
    (l_lLies : K.lookup f_lLies = some ⟨oc_lLies, od_lLies, .func (PySem.W.fnOf "_law_lies" "_law_lies" (defArgs s_lLies) (defBody s_lLies) (defScope s_lLies) .none kV_lLies dc_lLies pm_lLies an_lLies cd_lLies ct_lLies), sl_lLies⟩)
    (c_lLies : PySem.W.codeIn K cd_lLies "_law_lies" = true)
    (k_lLies : PySem.W.keepIn K (.ref f_lLies) = true)
    (a_lRoom : PySem.W.nsIn K mainGlobals "_law_room" = some (some (.ref f_lRoom)))
    (l_lRoom : K.lookup f_lRoom = some ⟨oc_lRoom, od_lRoom, .func (PySem.W.fnOf "_law_room" "_law_room" (defArgs s_lRoom) (defBody s_lRoom) (defScope s_lRoom) .none kV_lRoom dc_lRoom pm_lRoom an_lRoom cd_lRoom ct_lRoom), sl_lRoom⟩)
    (c_lRoom : PySem.W.codeIn K cd_lRoom "_law_room" = true)
    (k_lRoom : PySem.W.keepIn K (.ref f_lRoom) = true)
    (a_lNeed : PySem.W.nsIn K mainGlobals "_law_need" = some (some (.ref f_lNeed)))
    (l_lNeed : K.lookup f_lNeed = some ⟨oc_lNeed, od_lNeed, .func (PySem.W.fnOf "_law_need" "_law_need" (defArgs s_lNeed) (defBody s_lNeed) (defScope s_lNeed) .none kV_lNeed dc_lNeed pm_lNeed an_lNeed cd_lNeed ct_lNeed), sl_lNeed⟩)
    (c_lNeed : PySem.W.codeIn K cd_lNeed "_law_need" = true)
    (k_lNeed : PySem.W.keepIn K (.ref f_lNeed) = true)
    (a_lAmounts : PySem.W.nsIn K mainGlobals "_law_amounts_so" = some (some (.ref f_lAmounts)))
    (l_lAmounts : K.lookup f_lAmounts = some ⟨oc_lAmounts, od_lAmounts, .func (PySem.W.fnOf "_law_amounts_so" "_law_amounts_so" (defArgs s_lAmounts) (defBody s_lAmounts) (defScope s_lAmounts) .none kV_lAmounts dc_lAmounts pm_lAmounts an_lAmounts cd_lAmounts ct_lAmounts), sl_lAmounts⟩)
    (c_lAmounts : PySem.W.codeIn K cd_lAmounts "_law_amounts_so" = true)
    (k_lAmounts : PySem.W.keepIn K (.ref f_lAmounts) = true)
    (a_lBarred : PySem.W.nsIn K mainGlobals "_law_barred_so" = some (some (.ref f_lBarred)))
    (l_lBarred : K.lookup f_lBarred = some ⟨oc_lBarred, od_lBarred, .func (PySem.W.fnOf "_law_barred_so" "_law_barred_so" (defArgs s_lBarred) (defBody s_lBarred) (defScope s_lBarred) .none kV_lBarred dc_lBarred pm_lBarred an_lBarred cd_lBarred ct_lBarred), sl_lBarred⟩)
    (c_lBarred : PySem.W.codeIn K cd_lBarred "_law_barred_so" = true)
    (k_lBarred : PySem.W.keepIn K (.ref f_lBarred) = true)
    (a_law : PySem.W.nsIn K mainGlobals "law" = some (some (.ref f_law)))
    (l_law : K.lookup f_law = some ⟨oc_law, od_law, .func (PySem.W.fnOf "law" "law" (defArgs s_law) (defBody s_law) (defScope s_law) .none kV_law dc_law pm_law an_law cd_law ct_law), sl_law⟩)
    (c_law : PySem.W.codeIn K cd_law "law" = true)
    (k_law : PySem.W.keepIn K (.ref f_law) = true)
    (g_Sh : PySem.W.nsIn K mainGlobals "Shape" = some (some (.ref cSh)))
    (pg_Sh : PySem.W.plainGet K cSh Str.empty = true)
    (hd_Sh : PySem.W.hasDictIn K cSh = true)
    (po_Sh : PySem.W.plainOver K cSh = true)
    (sa_Sh : PySem.W.findIn K (.ref cSh) "__setattr__" = some (some (.builtin "object.__setattr__")))
    (mk_Sh : PySem.W.makesIn K cSh = true)
    (kc_Sh : PySem.W.keepIn K (.ref cSh) = true)
    (g_Em : PySem.W.nsIn K mainGlobals "Embedding" = some (some (.ref cEm)))
    (pg_Em : PySem.W.plainGet K cEm Str.empty = true)
    (hd_Em : PySem.W.hasDictIn K cEm = true)
    (po_Em : PySem.W.plainOver K cEm = true)
    (sa_Em : PySem.W.findIn K (.ref cEm) "__setattr__" = some (some (.builtin "object.__setattr__")))
    (mk_Em : PySem.W.makesIn K cEm = true)
    (kc_Em : PySem.W.keepIn K (.ref cEm) = true)
    (g_Bl : PySem.W.nsIn K mainGlobals "Blocked" = some (some (.ref cBl)))
    (pg_Bl : PySem.W.plainGet K cBl Str.empty = true)
    (hd_Bl : PySem.W.hasDictIn K cBl = true)
    (po_Bl : PySem.W.plainOver K cBl = true)
    (sa_Bl : PySem.W.findIn K (.ref cBl) "__setattr__" = some (some (.builtin "object.__setattr__")))
    (mk_Bl : PySem.W.makesIn K cBl = true)
    (kc_Bl : PySem.W.keepIn K (.ref cBl) = true)
    (g_Gv : PySem.W.nsIn K mainGlobals "Giver" = some (some (.ref cGv)))
    (pg_Gv : PySem.W.plainGet K cGv Str.empty = true)
    (hd_Gv : PySem.W.hasDictIn K cGv = true)
    (po_Gv : PySem.W.plainOver K cGv = true)
    (sa_Gv : PySem.W.findIn K (.ref cGv) "__setattr__" = some (some (.builtin "object.__setattr__")))
    (mk_Gv : PySem.W.makesIn K cGv = true)
    (kc_Gv : PySem.W.keepIn K (.ref cGv) = true)
    (a_shCounts : PySem.W.findIn K (.ref cSh) "counts" = some (some (.ref f_shCounts)))
    (i_shCounts : PySem.W.isFn K (.ref f_shCounts) = true)
    (l_shCounts : K.lookup f_shCounts = some ⟨oc_shCounts, od_shCounts, .func (PySem.W.fnOf "counts" "Shape.counts" (defArgs s_shCounts) (defBody s_shCounts) (defScope s_shCounts) .none kV_shCounts dc_shCounts pm_shCounts an_shCounts cd_shCounts ct_shCounts), sl_shCounts⟩)
    (c_shCounts : PySem.W.codeIn K cd_shCounts "Shape.counts" = true)
    (k_shCounts : PySem.W.keepIn K (.ref f_shCounts) = true)
    (a_shCount : PySem.W.findIn K (.ref cSh) "count" = some (some (.ref f_shCount)))
    (i_shCount : PySem.W.isFn K (.ref f_shCount) = true)
    (l_shCount : K.lookup f_shCount = some ⟨oc_shCount, od_shCount, .func (PySem.W.fnOf "count" "Shape.count" (defArgs s_shCount) (defBody s_shCount) (defScope s_shCount) .none kV_shCount dc_shCount pm_shCount an_shCount cd_shCount ct_shCount), sl_shCount⟩)
    (c_shCount : PySem.W.codeIn K cd_shCount "Shape.count" = true)
    (k_shCount : PySem.W.keepIn K (.ref f_shCount) = true)
    (a_emInit : PySem.W.findIn K (.ref cEm) "__init__" = some (some (.ref f_emInit)))
    (i_emInit : PySem.W.isFn K (.ref f_emInit) = true)
    (l_emInit : K.lookup f_emInit = some ⟨oc_emInit, od_emInit, .func (PySem.W.fnOf "__init__" "Embedding.__init__" (defArgs s_emInit) (defBody s_emInit) (defScope s_emInit) .none kV_emInit dc_emInit pm_emInit an_emInit cd_emInit ct_emInit), sl_emInit⟩)
    (c_emInit : PySem.W.codeIn K cd_emInit "Embedding.__init__" = true)
    (k_emInit : PySem.W.keepIn K (.ref f_emInit) = true)
    (a_emAmounts : PySem.W.findIn K (.ref cEm) "amounts" = some (some (.ref f_emAmounts)))
    (i_emAmounts : PySem.W.isFn K (.ref f_emAmounts) = true)
    (l_emAmounts : K.lookup f_emAmounts = some ⟨oc_emAmounts, od_emAmounts, .func (PySem.W.fnOf "amounts" "Embedding.amounts" (defArgs s_emAmounts) (defBody s_emAmounts) (defScope s_emAmounts) .none kV_emAmounts dc_emAmounts pm_emAmounts an_emAmounts cd_emAmounts ct_emAmounts), sl_emAmounts⟩)
    (c_emAmounts : PySem.W.codeIn K cd_emAmounts "Embedding.amounts" = true)
    (k_emAmounts : PySem.W.keepIn K (.ref f_emAmounts) = true)
    (a_emHolds : PySem.W.findIn K (.ref cEm) "holds" = some (some (.ref f_emHolds)))
    (i_emHolds : PySem.W.isFn K (.ref f_emHolds) = true)
    (l_emHolds : K.lookup f_emHolds = some ⟨oc_emHolds, od_emHolds, .func (PySem.W.fnOf "holds" "Embedding.holds" (defArgs s_emHolds) (defBody s_emHolds) (defScope s_emHolds) .none kV_emHolds dc_emHolds pm_emHolds an_emHolds cd_emHolds ct_emHolds), sl_emHolds⟩)
    (c_emHolds : PySem.W.codeIn K cd_emHolds "Embedding.holds" = true)
    (k_emHolds : PySem.W.keepIn K (.ref f_emHolds) = true)
    (a_emBool : PySem.W.findIn K (.ref cEm) "__bool__" = some (some (.ref f_emBool)))
    (i_emBool : PySem.W.isFn K (.ref f_emBool) = true)
    (l_emBool : K.lookup f_emBool = some ⟨oc_emBool, od_emBool, .func (PySem.W.fnOf "__bool__" "Embedding.__bool__" (defArgs s_emBool) (defBody s_emBool) (defScope s_emBool) .none kV_emBool dc_emBool pm_emBool an_emBool cd_emBool ct_emBool), sl_emBool⟩)
    (c_emBool : PySem.W.codeIn K cd_emBool "Embedding.__bool__" = true)
    (k_emBool : PySem.W.keepIn K (.ref f_emBool) = true)
    (a_blInit : PySem.W.findIn K (.ref cBl) "__init__" = some (some (.ref f_blInit)))
    (i_blInit : PySem.W.isFn K (.ref f_blInit) = true)
    (l_blInit : K.lookup f_blInit = some ⟨oc_blInit, od_blInit, .func (PySem.W.fnOf "__init__" "Blocked.__init__" (defArgs s_blInit) (defBody s_blInit) (defScope s_blInit) .none kV_blInit dc_blInit pm_blInit an_blInit cd_blInit ct_blInit), sl_blInit⟩)
    (c_blInit : PySem.W.codeIn K cd_blInit "Blocked.__init__" = true)
    (k_blInit : PySem.W.keepIn K (.ref f_blInit) = true)
    (pa_blKind : PySem.W.findIn K (.ref cBl) "kind" = some (some (.ref pKind)))
    (pg_blKind : PySem.W.specialIn K (.ref pKind) "__get__" = some (some (.builtin "property.__get__")))
    (pt_blKind : PySem.W.takesIn K (.ref pKind) = some true)
    (pr_blKind : PySem.W.recIn K pKind "property" = some (.ref f_blKind :: rest_blKind))
    (l_blKind : K.lookup f_blKind = some ⟨oc_blKind, od_blKind, .func (PySem.W.fnOf "kind" "Blocked.kind" (defArgs s_blKind) (defBody s_blKind) (defScope s_blKind) .none kV_blKind dc_blKind pm_blKind an_blKind cd_blKind ct_blKind), sl_blKind⟩)
    (c_blKind : PySem.W.codeIn K cd_blKind "Blocked.kind" = true)
    (k_blKind : PySem.W.keepIn K (.ref f_blKind) = true)
    (pa_blSizes : PySem.W.findIn K (.ref cBl) "sizes" = some (some (.ref pSizes)))
    (pg_blSizes : PySem.W.specialIn K (.ref pSizes) "__get__" = some (some (.builtin "property.__get__")))
    (pt_blSizes : PySem.W.takesIn K (.ref pSizes) = some true)
    (pr_blSizes : PySem.W.recIn K pSizes "property" = some (.ref f_blSizes :: rest_blSizes))
    (l_blSizes : K.lookup f_blSizes = some ⟨oc_blSizes, od_blSizes, .func (PySem.W.fnOf "sizes" "Blocked.sizes" (defArgs s_blSizes) (defBody s_blSizes) (defScope s_blSizes) .none kV_blSizes dc_blSizes pm_blSizes an_blSizes cd_blSizes ct_blSizes), sl_blSizes⟩)
    (c_blSizes : PySem.W.codeIn K cd_blSizes "Blocked.sizes" = true)
    (k_blSizes : PySem.W.keepIn K (.ref f_blSizes) = true)
    (a_blHolds : PySem.W.findIn K (.ref cBl) "holds" = some (some (.ref f_blHolds)))
    (i_blHolds : PySem.W.isFn K (.ref f_blHolds) = true)
    (l_blHolds : K.lookup f_blHolds = some ⟨oc_blHolds, od_blHolds, .func (PySem.W.fnOf "holds" "Blocked.holds" (defArgs s_blHolds) (defBody s_blHolds) (defScope s_blHolds) .none kV_blHolds dc_blHolds pm_blHolds an_blHolds cd_blHolds ct_blHolds), sl_blHolds⟩)
    (c_blHolds : PySem.W.codeIn K cd_blHolds "Blocked.holds" = true)
    (k_blHolds : PySem.W.keepIn K (.ref f_blHolds) = true)
    (a_blBool : PySem.W.findIn K (.ref cBl) "__bool__" = some (some (.ref f_blBool)))
    (i_blBool : PySem.W.isFn K (.ref f_blBool) = true)
    (l_blBool : K.lookup f_blBool = some ⟨oc_blBool, od_blBool, .func (PySem.W.fnOf "__bool__" "Blocked.__bool__" (defArgs s_blBool) (defBody s_blBool) (defScope s_blBool) .none kV_blBool dc_blBool pm_blBool an_blBool cd_blBool ct_blBool), sl_blBool⟩)
    (c_blBool : PySem.W.codeIn K cd_blBool "Blocked.__bool__" = true)
    (k_blBool : PySem.W.keepIn K (.ref f_blBool) = true)
    (a_gvInit : PySem.W.findIn K (.ref cGv) "__init__" = some (some (.ref f_gvInit)))
    (i_gvInit : PySem.W.isFn K (.ref f_gvInit) = true)
    (l_gvInit : K.lookup f_gvInit = some ⟨oc_gvInit, od_gvInit, .func (PySem.W.fnOf "__init__" "Giver.__init__" (defArgs s_gvInit) (defBody s_gvInit) (defScope s_gvInit) .none kV_gvInit dc_gvInit pm_gvInit an_gvInit cd_gvInit ct_gvInit), sl_gvInit⟩)
    (c_gvInit : PySem.W.codeIn K cd_gvInit "Giver.__init__" = true)
    (k_gvInit : PySem.W.keepIn K (.ref f_gvInit) = true)
    (a_gvPath : PySem.W.findIn K (.ref cGv) "path_from" = some (some (.ref f_gvPath)))
    (i_gvPath : PySem.W.isFn K (.ref f_gvPath) = true)
    (l_gvPath : K.lookup f_gvPath = some ⟨oc_gvPath, od_gvPath, .func (PySem.W.fnOf "path_from" "Giver.path_from" (defArgs s_gvPath) (defBody s_gvPath) (defScope s_gvPath) .none kV_gvPath dc_gvPath pm_gvPath an_gvPath cd_gvPath ct_gvPath), sl_gvPath⟩)
    (c_gvPath : PySem.W.codeIn K cd_gvPath "Giver.path_from" = true)
    (k_gvPath : PySem.W.keepIn K (.ref f_gvPath) = true)
    (a_gvUse : PySem.W.findIn K (.ref cGv) "use" = some (some (.ref f_gvUse)))
    (i_gvUse : PySem.W.isFn K (.ref f_gvUse) = true)
    (l_gvUse : K.lookup f_gvUse = some ⟨oc_gvUse, od_gvUse, .func (PySem.W.fnOf "use" "Giver.use" (defArgs s_gvUse) (defBody s_gvUse) (defScope s_gvUse) .none kV_gvUse dc_gvUse pm_gvUse an_gvUse cd_gvUse ct_gvUse), sl_gvUse⟩)
    (c_gvUse : PySem.W.codeIn K cd_gvUse "Giver.use" = true)
    (k_gvUse : PySem.W.keepIn K (.ref f_gvUse) = true)
    (a_gvGiven : PySem.W.findIn K (.ref cGv) "given" = some (some (.ref f_gvGiven)))
    (i_gvGiven : PySem.W.isFn K (.ref f_gvGiven) = true)
    (l_gvGiven : K.lookup f_gvGiven = some ⟨oc_gvGiven, od_gvGiven, .func (PySem.W.fnOf "given" "Giver.given" (defArgs s_gvGiven) (defBody s_gvGiven) (defScope s_gvGiven) .none kV_gvGiven dc_gvGiven pm_gvGiven an_gvGiven cd_gvGiven ct_gvGiven), sl_gvGiven⟩)
    (c_gvGiven : PySem.W.codeIn K cd_gvGiven "Giver.given" = true)
    (k_gvGiven : PySem.W.keepIn K (.ref f_gvGiven) = true)
    (a_shInit : PySem.W.findIn K (.ref cSh) "__init__" = some (some (.ref f_shInit)))
    (i_shInit : PySem.W.isFn K (.ref f_shInit) = true)
    (l_shInit : K.lookup f_shInit = some ⟨oc_shInit, od_shInit, .func (PySem.W.fnOf "__init__" "Shape.__init__" (defArgs s_shInit) (defBody s_shInit) (defScope s_shInit) .none (.ref kD) dc_shInit pm_shInit an_shInit cd_shInit ct_shInit), sl_shInit⟩)
    (m_shInit : PySem.W.nsIn K kD "most" = some (some (.int (10 ^ 30) tk0)))
    (c_shInit : PySem.W.codeIn K cd_shInit "Shape.__init__" = true)
    (k_shInit : PySem.W.keepIn K (.ref f_shInit) = true)
    (n_own_counts : PySem.W.findIn K (.ref cSh) "own_counts" = some none)
    (n_own_amounts : PySem.W.findIn K (.ref cEm) "own_amounts" = some none)
    (n_own_kind : PySem.W.findIn K (.ref cBl) "own_kind" = some none)
    (n_own_sizes : PySem.W.findIn K (.ref cBl) "own_sizes" = some none)
    (n_needs : PySem.W.findIn K (.ref cGv) "needs" = some none)
    (n_free : PySem.W.findIn K (.ref cGv) "free" = some none)
    (n_shares : PySem.W.findIn K (.ref cGv) "shares" = some none)
    (g_SIZES : PySem.W.nsIn K mainGlobals "SIZES" = some (some (.ref aSIZES)))
    (l_SIZES : K.lookup aSIZES = some ⟨.type "tuple", od_S, .seq itS nS, sl_S⟩)
    (v_SIZES : valsInts itS.toList = some SIZES)
    (z_SIZES : itS.size ≤ sizeLine)
    (b_isinstance : PySem.W.nsIn K mainGlobals "isinstance" = some none)
    (b_range : PySem.W.nsIn K mainGlobals "range" = some none)
    (b_sorted : PySem.W.nsIn K mainGlobals "sorted" = some none)
    (b_set : PySem.W.nsIn K mainGlobals "set" = some none)
    (b_list : PySem.W.nsIn K mainGlobals "list" = some none)
    (b_dict : PySem.W.nsIn K mainGlobals "dict" = some none)
    (b_tuple : PySem.W.nsIn K mainGlobals "tuple" = some none)
    (b_sum : PySem.W.nsIn K mainGlobals "sum" = some none)
    (b_any : PySem.W.nsIn K mainGlobals "any" = some none)
    (b_all : PySem.W.nsIn K mainGlobals "all" = some none)
    (b_min : PySem.W.nsIn K mainGlobals "min" = some none)
    (b_len : PySem.W.nsIn K mainGlobals "len" = some none)
    (b_zip : PySem.W.nsIn K mainGlobals "zip" = some none)
    (b_bool : PySem.W.nsIn K mainGlobals "bool" = some none)
    (b_int : PySem.W.nsIn K mainGlobals "int" = some none)
    (b_str : PySem.W.nsIn K mainGlobals "str" = some none)
    (i_kEm : PySem.W.findIn K (.ref cEm) "__class__" = some (some (.builtin "object.__class__")))
    (i_kBl : PySem.W.findIn K (.ref cBl) "__class__" = some (some (.builtin "object.__class__")))
    (i_get : PySem.W.specialIn K (.builtin "object.__class__") "__get__" = some (some (.builtin "getset_descriptor.__get__")))
    (i_tk : PySem.W.takesIn K (.builtin "object.__class__") = some true)
    (i_mEm : PySem.W.mroIn K cEm (.type "object") = some true)
    (i_mBl : PySem.W.mroIn K cBl (.type "object") = some true)
    (i_oEm : PySem.W.kitOne K (.ref cEm) (.ref cEm) = some true)
    (i_oBl : PySem.W.kitOne K (.ref cBl) (.ref cBl) = some true)
    (kont : ∀ D : Ad, D.f_law = fa → Txt K mg D → TxtI K D → goal) : goal := by
  have e0 := hfa.symm.trans (PySem.W.mg_of X G a_law)
  cases e0
  refine kont { f_isWhole := f_isWhole, d_isWhole := (PySem.W.fnOf "is_whole" "is_whole" (defArgs s_isWhole) (defBody s_isWhole) (defScope s_isWhole) .none kV_isWhole dc_isWhole pm_isWhole an_isWhole cd_isWhole ct_isWhole), f_isSize := f_isSize, d_isSize := (PySem.W.fnOf "is_size" "is_size" (defArgs s_isSize) (defBody s_isSize) (defScope s_isSize) .none kV_isSize dc_isSize pm_isSize an_isSize cd_isSize ct_isSize), f_primeOf := f_primeOf, d_primeOf := (PySem.W.fnOf "prime_of" "prime_of" (defArgs s_primeOf) (defBody s_primeOf) (defScope s_primeOf) .none kV_primeOf dc_primeOf pm_primeOf an_primeOf cd_primeOf ct_primeOf), f_degreeOf := f_degreeOf, d_degreeOf := (PySem.W.fnOf "degree_of" "degree_of" (defArgs s_degreeOf) (defBody s_degreeOf) (defScope s_degreeOf) .none kV_degreeOf dc_degreeOf pm_degreeOf an_degreeOf cd_degreeOf ct_degreeOf), f_liesIn := f_liesIn, d_liesIn := (PySem.W.fnOf "lies_in" "lies_in" (defArgs s_liesIn) (defBody s_liesIn) (defScope s_liesIn) .none kV_liesIn dc_liesIn pm_liesIn an_liesIn cd_liesIn ct_liesIn), f_roomFor := f_roomFor, d_roomFor := (PySem.W.fnOf "room_for" "room_for" (defArgs s_roomFor) (defBody s_roomFor) (defScope s_roomFor) .none kV_roomFor dc_roomFor pm_roomFor an_roomFor cd_roomFor ct_roomFor), f_chosenSizes := f_chosenSizes, d_chosenSizes := (PySem.W.fnOf "chosen_sizes" "chosen_sizes" (defArgs s_chosenSizes) (defBody s_chosenSizes) (defScope s_chosenSizes) .none kV_chosenSizes dc_chosenSizes pm_chosenSizes an_chosenSizes cd_chosenSizes ct_chosenSizes), f_embed := f_embed, d_embed := (PySem.W.fnOf "embed" "embed" (defArgs s_embed) (defBody s_embed) (defScope s_embed) .none kV_embed dc_embed pm_embed an_embed cd_embed ct_embed), f_lCells := f_lCells, d_lCells := (PySem.W.fnOf "_law_cells" "_law_cells" (defArgs s_lCells) (defBody s_lCells) (defScope s_lCells) .none kV_lCells dc_lCells pm_lCells an_lCells cd_lCells ct_lCells), f_lDraw := f_lDraw, d_lDraw := (PySem.W.fnOf "_law_draw" "_law_draw" (defArgs s_lDraw) (defBody s_lDraw) (defScope s_lDraw) .none kV_lDraw dc_lDraw pm_lDraw an_lDraw cd_lDraw ct_lDraw), f_lOne := f_lOne, d_lOne := (PySem.W.fnOf "_law_one" "_law_one" (defArgs s_lOne) (defBody s_lOne) (defScope s_lOne) .none kV_lOne dc_lOne pm_lOne an_lOne cd_lOne ct_lOne), f_lMixed := f_lMixed, d_lMixed := (PySem.W.fnOf "_law_mixed" "_law_mixed" (defArgs s_lMixed) (defBody s_lMixed) (defScope s_lMixed) .none kV_lMixed dc_lMixed pm_lMixed an_lMixed cd_lMixed ct_lMixed), f_lSame := f_lSame, d_lSame := (PySem.W.fnOf "_law_same" "_law_same" (defArgs s_lSame) (defBody s_lSame) (defScope s_lSame) .none kV_lSame dc_lSame pm_lSame an_lSame cd_lSame ct_lSame), f_lSplit := f_lSplit, d_lSplit := (PySem.W.fnOf "_law_split" "_law_split" (defArgs s_lSplit) (defBody s_lSplit) (defScope s_lSplit) .none kV_lSplit dc_lSplit pm_lSplit an_lSplit cd_lSplit ct_lSplit), f_lLies := f_lLies, d_lLies := (PySem.W.fnOf "_law_lies" "_law_lies" (defArgs s_lLies) (defBody s_lLies) (defScope s_lLies) .none kV_lLies dc_lLies pm_lLies an_lLies cd_lLies ct_lLies), f_lRoom := f_lRoom, d_lRoom := (PySem.W.fnOf "_law_room" "_law_room" (defArgs s_lRoom) (defBody s_lRoom) (defScope s_lRoom) .none kV_lRoom dc_lRoom pm_lRoom an_lRoom cd_lRoom ct_lRoom), f_lNeed := f_lNeed, d_lNeed := (PySem.W.fnOf "_law_need" "_law_need" (defArgs s_lNeed) (defBody s_lNeed) (defScope s_lNeed) .none kV_lNeed dc_lNeed pm_lNeed an_lNeed cd_lNeed ct_lNeed), f_lAmounts := f_lAmounts, d_lAmounts := (PySem.W.fnOf "_law_amounts_so" "_law_amounts_so" (defArgs s_lAmounts) (defBody s_lAmounts) (defScope s_lAmounts) .none kV_lAmounts dc_lAmounts pm_lAmounts an_lAmounts cd_lAmounts ct_lAmounts), f_lBarred := f_lBarred, d_lBarred := (PySem.W.fnOf "_law_barred_so" "_law_barred_so" (defArgs s_lBarred) (defBody s_lBarred) (defScope s_lBarred) .none kV_lBarred dc_lBarred pm_lBarred an_lBarred cd_lBarred ct_lBarred), f_law := fa, d_law := (PySem.W.fnOf "law" "law" (defArgs s_law) (defBody s_law) (defScope s_law) .none kV_law dc_law pm_law an_law cd_law ct_law), f_shInit := f_shInit, d_shInit := (PySem.W.fnOf "__init__" "Shape.__init__" (defArgs s_shInit) (defBody s_shInit) (defScope s_shInit) .none (.ref kD) dc_shInit pm_shInit an_shInit cd_shInit ct_shInit), f_shCounts := f_shCounts, d_shCounts := (PySem.W.fnOf "counts" "Shape.counts" (defArgs s_shCounts) (defBody s_shCounts) (defScope s_shCounts) .none kV_shCounts dc_shCounts pm_shCounts an_shCounts cd_shCounts ct_shCounts), f_shCount := f_shCount, d_shCount := (PySem.W.fnOf "count" "Shape.count" (defArgs s_shCount) (defBody s_shCount) (defScope s_shCount) .none kV_shCount dc_shCount pm_shCount an_shCount cd_shCount ct_shCount), f_emInit := f_emInit, d_emInit := (PySem.W.fnOf "__init__" "Embedding.__init__" (defArgs s_emInit) (defBody s_emInit) (defScope s_emInit) .none kV_emInit dc_emInit pm_emInit an_emInit cd_emInit ct_emInit), f_emAmounts := f_emAmounts, d_emAmounts := (PySem.W.fnOf "amounts" "Embedding.amounts" (defArgs s_emAmounts) (defBody s_emAmounts) (defScope s_emAmounts) .none kV_emAmounts dc_emAmounts pm_emAmounts an_emAmounts cd_emAmounts ct_emAmounts), f_emHolds := f_emHolds, d_emHolds := (PySem.W.fnOf "holds" "Embedding.holds" (defArgs s_emHolds) (defBody s_emHolds) (defScope s_emHolds) .none kV_emHolds dc_emHolds pm_emHolds an_emHolds cd_emHolds ct_emHolds), f_emBool := f_emBool, d_emBool := (PySem.W.fnOf "__bool__" "Embedding.__bool__" (defArgs s_emBool) (defBody s_emBool) (defScope s_emBool) .none kV_emBool dc_emBool pm_emBool an_emBool cd_emBool ct_emBool), f_blInit := f_blInit, d_blInit := (PySem.W.fnOf "__init__" "Blocked.__init__" (defArgs s_blInit) (defBody s_blInit) (defScope s_blInit) .none kV_blInit dc_blInit pm_blInit an_blInit cd_blInit ct_blInit), f_blKind := f_blKind, d_blKind := (PySem.W.fnOf "kind" "Blocked.kind" (defArgs s_blKind) (defBody s_blKind) (defScope s_blKind) .none kV_blKind dc_blKind pm_blKind an_blKind cd_blKind ct_blKind), f_blSizes := f_blSizes, d_blSizes := (PySem.W.fnOf "sizes" "Blocked.sizes" (defArgs s_blSizes) (defBody s_blSizes) (defScope s_blSizes) .none kV_blSizes dc_blSizes pm_blSizes an_blSizes cd_blSizes ct_blSizes), f_blHolds := f_blHolds, d_blHolds := (PySem.W.fnOf "holds" "Blocked.holds" (defArgs s_blHolds) (defBody s_blHolds) (defScope s_blHolds) .none kV_blHolds dc_blHolds pm_blHolds an_blHolds cd_blHolds ct_blHolds), f_blBool := f_blBool, d_blBool := (PySem.W.fnOf "__bool__" "Blocked.__bool__" (defArgs s_blBool) (defBody s_blBool) (defScope s_blBool) .none kV_blBool dc_blBool pm_blBool an_blBool cd_blBool ct_blBool), f_gvInit := f_gvInit, d_gvInit := (PySem.W.fnOf "__init__" "Giver.__init__" (defArgs s_gvInit) (defBody s_gvInit) (defScope s_gvInit) .none kV_gvInit dc_gvInit pm_gvInit an_gvInit cd_gvInit ct_gvInit), f_gvPath := f_gvPath, d_gvPath := (PySem.W.fnOf "path_from" "Giver.path_from" (defArgs s_gvPath) (defBody s_gvPath) (defScope s_gvPath) .none kV_gvPath dc_gvPath pm_gvPath an_gvPath cd_gvPath ct_gvPath), f_gvUse := f_gvUse, d_gvUse := (PySem.W.fnOf "use" "Giver.use" (defArgs s_gvUse) (defBody s_gvUse) (defScope s_gvUse) .none kV_gvUse dc_gvUse pm_gvUse an_gvUse cd_gvUse ct_gvUse), f_gvGiven := f_gvGiven, d_gvGiven := (PySem.W.fnOf "given" "Giver.given" (defArgs s_gvGiven) (defBody s_gvGiven) (defScope s_gvGiven) .none kV_gvGiven dc_gvGiven pm_gvGiven an_gvGiven cd_gvGiven ct_gvGiven), cSh := cSh, cEm := cEm, cBl := cBl, cGv := cGv, aSIZES := aSIZES, pKind := pKind, pSizes := pSizes : Ad } rfl ?_ ⟨i_kEm, i_kBl, i_get, i_tk, i_mEm, i_mBl, i_oEm, i_oBl⟩
  constructor
  · exact fun_mk (st := s_isWhole) l_isWhole c_isWhole k_isWhole
  · exact fun_mk (st := s_isSize) l_isSize c_isSize k_isSize
  · exact fun_mk (st := s_primeOf) l_primeOf c_primeOf k_primeOf
  · exact fun_mk (st := s_degreeOf) l_degreeOf c_degreeOf k_degreeOf
  · exact fun_mk (st := s_liesIn) l_liesIn c_liesIn k_liesIn
  · exact fun_mk (st := s_roomFor) l_roomFor c_roomFor k_roomFor
  · exact fun_mk (st := s_chosenSizes) l_chosenSizes c_chosenSizes k_chosenSizes
  · exact fun_mk (st := s_embed) l_embed c_embed k_embed
  · exact fun_mk (st := s_lCells) l_lCells c_lCells k_lCells
  · exact fun_mk (st := s_lDraw) l_lDraw c_lDraw k_lDraw
  · exact fun_mk (st := s_lOne) l_lOne c_lOne k_lOne
  · exact fun_mk (st := s_lMixed) l_lMixed c_lMixed k_lMixed
  · exact fun_mk (st := s_lSame) l_lSame c_lSame k_lSame
  · exact fun_mk (st := s_lSplit) l_lSplit c_lSplit k_lSplit
  · exact fun_mk (st := s_lLies) l_lLies c_lLies k_lLies
  · exact fun_mk (st := s_lRoom) l_lRoom c_lRoom k_lRoom
  · exact fun_mk (st := s_lNeed) l_lNeed c_lNeed k_lNeed
  · exact fun_mk (st := s_lAmounts) l_lAmounts c_lAmounts k_lAmounts
  · exact fun_mk (st := s_lBarred) l_lBarred c_lBarred k_lBarred
  · exact fun_mk (st := s_law) l_law c_law k_law
  · exact PySem.W.mg_of X G a_isWhole
  · exact PySem.W.mg_of X G a_isSize
  · exact PySem.W.mg_of X G a_primeOf
  · exact PySem.W.mg_of X G a_degreeOf
  · exact PySem.W.mg_of X G a_liesIn
  · exact PySem.W.mg_of X G a_roomFor
  · exact PySem.W.mg_of X G a_chosenSizes
  · exact PySem.W.mg_of X G a_embed
  · exact PySem.W.mg_of X G a_lCells
  · exact PySem.W.mg_of X G a_lDraw
  · exact PySem.W.mg_of X G a_lOne
  · exact PySem.W.mg_of X G a_lMixed
  · exact PySem.W.mg_of X G a_lSame
  · exact PySem.W.mg_of X G a_lSplit
  · exact PySem.W.mg_of X G a_lLies
  · exact PySem.W.mg_of X G a_lRoom
  · exact PySem.W.mg_of X G a_lNeed
  · exact PySem.W.mg_of X G a_lAmounts
  · exact PySem.W.mg_of X G a_lBarred
  · exact PySem.W.mg_of X G a_law
  · exact ⟨⟨_, _, _, _, _, _, _, _, _, _, rfl, l_shInit, c_shInit, .inl ⟨rfl, rfl⟩, .inr ⟨kD, rfl, fun q hq => by rw [List.mem_singleton.mp hq]; exact ⟨_, m_shInit, ⟨_, rfl⟩⟩⟩⟩, k_shInit⟩
  · exact fun_mk (st := s_shCounts) l_shCounts c_shCounts k_shCounts
  · exact fun_mk (st := s_shCount) l_shCount c_shCount k_shCount
  · exact fun_mk (st := s_emInit) l_emInit c_emInit k_emInit
  · exact fun_mk (st := s_emAmounts) l_emAmounts c_emAmounts k_emAmounts
  · exact fun_mk (st := s_emHolds) l_emHolds c_emHolds k_emHolds
  · exact fun_mk (st := s_emBool) l_emBool c_emBool k_emBool
  · exact fun_mk (st := s_blInit) l_blInit c_blInit k_blInit
  · exact fun_mk (st := s_blKind) l_blKind c_blKind k_blKind
  · exact fun_mk (st := s_blSizes) l_blSizes c_blSizes k_blSizes
  · exact fun_mk (st := s_blHolds) l_blHolds c_blHolds k_blHolds
  · exact fun_mk (st := s_blBool) l_blBool c_blBool k_blBool
  · exact fun_mk (st := s_gvInit) l_gvInit c_gvInit k_gvInit
  · exact fun_mk (st := s_gvPath) l_gvPath c_gvPath k_gvPath
  · exact fun_mk (st := s_gvUse) l_gvUse c_gvUse k_gvUse
  · exact fun_mk (st := s_gvGiven) l_gvGiven c_gvGiven k_gvGiven
  · exact ⟨a_shCounts, i_shCounts, k_shCounts⟩
  · exact ⟨a_shCount, i_shCount, k_shCount⟩
  · exact ⟨a_emAmounts, i_emAmounts, k_emAmounts⟩
  · exact ⟨a_emHolds, i_emHolds, k_emHolds⟩
  · exact ⟨a_emBool, i_emBool, k_emBool⟩
  · exact ⟨a_blHolds, i_blHolds, k_blHolds⟩
  · exact ⟨a_blBool, i_blBool, k_blBool⟩
  · exact ⟨a_gvPath, i_gvPath, k_gvPath⟩
  · exact ⟨a_gvUse, i_gvUse, k_gvUse⟩
  · exact ⟨a_gvGiven, i_gvGiven, k_gvGiven⟩
  · exact ⟨pg_Sh, hd_Sh, po_Sh, sa_Sh⟩
  · exact PySem.W.mg_of X G g_Sh
  · exact ⟨pg_Em, hd_Em, po_Em, sa_Em⟩
  · exact PySem.W.mg_of X G g_Em
  · exact ⟨pg_Bl, hd_Bl, po_Bl, sa_Bl⟩
  · exact PySem.W.mg_of X G g_Bl
  · exact ⟨pg_Gv, hd_Gv, po_Gv, sa_Gv⟩
  · exact PySem.W.mg_of X G g_Gv
  · exact ⟨mk_Sh, a_shInit, i_shInit, kc_Sh⟩
  · exact ⟨mk_Em, a_emInit, i_emInit, kc_Em⟩
  · exact ⟨mk_Bl, a_blInit, i_blInit, kc_Bl⟩
  · exact ⟨mk_Gv, a_gvInit, i_gvInit, kc_Gv⟩
  · exact n_own_counts
  · exact n_own_amounts
  · exact n_own_kind
  · exact n_own_sizes
  · exact n_needs
  · exact n_free
  · exact n_shares
  · exact ⟨pa_blKind, pg_blKind, pt_blKind, _, pr_blKind⟩
  · exact ⟨pa_blSizes, pg_blSizes, pt_blSizes, _, pr_blSizes⟩
  · exact PySem.W.mg_of X G g_SIZES
  · exact fun H => .inr ⟨_, _, _, l_SIZES, rfl, rfl, z_SIZES, valsInts_ok v_SIZES⟩
  · exact PySem.W.mg_none_of X G b_isinstance
  · exact PySem.W.mg_none_of X G b_range
  · exact PySem.W.mg_none_of X G b_sorted
  · exact PySem.W.mg_none_of X G b_set
  · exact PySem.W.mg_none_of X G b_list
  · exact PySem.W.mg_none_of X G b_dict
  · exact PySem.W.mg_none_of X G b_tuple
  · exact PySem.W.mg_none_of X G b_sum
  · exact PySem.W.mg_none_of X G b_any
  · exact PySem.W.mg_none_of X G b_all
  · exact PySem.W.mg_none_of X G b_min
  · exact PySem.W.mg_none_of X G b_len
  · exact PySem.W.mg_none_of X G b_zip
  · exact PySem.W.mg_none_of X G b_bool
  · exact PySem.W.mg_none_of X G b_int
  · exact PySem.W.mg_none_of X G b_str
end K64W
open PySem PySem.W PyProof.Rows
set_option maxRecDepth 100000 in
set_option maxHeartbeats 0 in
open_top k64_head for PySem.Challenge.rw_selfpower_k64_whole_embeddings
open PySem PySem.W PyProof.Rows K64W in
set_option maxRecDepth 100000 in
set_option maxHeartbeats 0 in
theorem PySem.Challenge.cw_selfpower_k64_whole_embeddings_holds : PySem.Challenge.rw_selfpower_k64_whole_embeddings.Holds :=
  k64_head (by
  k_fill
  refine L2.walk_ofB (n := 63) (k := 7) (x := "_law_script") (CX := fun _ => L2.CX0) (sp := fun w => K64W.spLaw _) rfl (by decide) rfl ⟨rfl, by decide, by decide⟩ (fun w h Y => PySem.W.kIn_of Y) ?F (fun w H a ns hl _ _ hS => ⟨a, ns, rfl, hS, hl, fun _ => rfl⟩) (fun _ _ _ _ _ z => z)
  case F =>
    intro w mg fa h KX G hmg
    refine' txt_use KX G hmg ?a_isWhole ?l_isWhole ?c_isWhole ?k_isWhole ?a_isSize ?l_isSize ?c_isSize ?k_isSize ?a_primeOf ?l_primeOf ?c_primeOf ?k_primeOf ?a_degreeOf ?l_degreeOf ?c_degreeOf ?k_degreeOf ?a_liesIn ?l_liesIn ?c_liesIn ?k_liesIn ?a_roomFor ?l_roomFor ?c_roomFor ?k_roomFor ?a_chosenSizes ?l_chosenSizes ?c_chosenSizes ?k_chosenSizes ?a_embed ?l_embed ?c_embed ?k_embed ?a_lCells ?l_lCells ?c_lCells ?k_lCells ?a_lDraw ?l_lDraw ?c_lDraw ?k_lDraw ?a_lOne ?l_lOne ?c_lOne ?k_lOne ?a_lMixed ?l_lMixed ?c_lMixed ?k_lMixed ?a_lSame ?l_lSame ?c_lSame ?k_lSame ?a_lSplit ?l_lSplit ?c_lSplit ?k_lSplit ?a_lLies ?l_lLies ?c_lLies ?k_lLies ?a_lRoom ?l_lRoom ?c_lRoom ?k_lRoom ?a_lNeed ?l_lNeed ?c_lNeed ?k_lNeed ?a_lAmounts ?l_lAmounts ?c_lAmounts ?k_lAmounts ?a_lBarred ?l_lBarred ?c_lBarred ?k_lBarred ?a_law ?l_law ?c_law ?k_law ?g_Sh ?pg_Sh ?hd_Sh ?po_Sh ?sa_Sh ?mk_Sh ?kc_Sh ?g_Em ?pg_Em ?hd_Em ?po_Em ?sa_Em ?mk_Em ?kc_Em ?g_Bl ?pg_Bl ?hd_Bl ?po_Bl ?sa_Bl ?mk_Bl ?kc_Bl ?g_Gv ?pg_Gv ?hd_Gv ?po_Gv ?sa_Gv ?mk_Gv ?kc_Gv ?a_shCounts ?i_shCounts ?l_shCounts ?c_shCounts ?k_shCounts ?a_shCount ?i_shCount ?l_shCount ?c_shCount ?k_shCount ?a_emInit ?i_emInit ?l_emInit ?c_emInit ?k_emInit ?a_emAmounts ?i_emAmounts ?l_emAmounts ?c_emAmounts ?k_emAmounts ?a_emHolds ?i_emHolds ?l_emHolds ?c_emHolds ?k_emHolds ?a_emBool ?i_emBool ?l_emBool ?c_emBool ?k_emBool ?a_blInit ?i_blInit ?l_blInit ?c_blInit ?k_blInit ?pa_blKind ?pg_blKind ?pt_blKind ?pr_blKind ?l_blKind ?c_blKind ?k_blKind ?pa_blSizes ?pg_blSizes ?pt_blSizes ?pr_blSizes ?l_blSizes ?c_blSizes ?k_blSizes ?a_blHolds ?i_blHolds ?l_blHolds ?c_blHolds ?k_blHolds ?a_blBool ?i_blBool ?l_blBool ?c_blBool ?k_blBool ?a_gvInit ?i_gvInit ?l_gvInit ?c_gvInit ?k_gvInit ?a_gvPath ?i_gvPath ?l_gvPath ?c_gvPath ?k_gvPath ?a_gvUse ?i_gvUse ?l_gvUse ?c_gvUse ?k_gvUse ?a_gvGiven ?i_gvGiven ?l_gvGiven ?c_gvGiven ?k_gvGiven ?a_shInit ?i_shInit ?l_shInit ?m_shInit ?c_shInit ?k_shInit ?n_own_counts ?n_own_amounts ?n_own_kind ?n_own_sizes ?n_needs ?n_free ?n_shares ?g_SIZES ?l_SIZES ?v_SIZES ?z_SIZES ?b_isinstance ?b_range ?b_sorted ?b_set ?b_list ?b_dict ?b_tuple ?b_sum ?b_any ?b_all ?b_min ?b_len ?b_zip ?b_bool ?b_int ?b_str ?i_kEm ?i_kBl ?i_get ?i_tk ?i_mEm ?i_mBl ?i_oEm ?i_oBl ?kont
    (case a_isWhole => k_is)
    (case l_isWhole => k_is)
    (case c_isWhole => k_is)
    (case k_isWhole => k_is)
    (case a_isSize => k_is)
    (case l_isSize => k_is)
    (case c_isSize => k_is)
    (case k_isSize => k_is)
    (case a_primeOf => k_is)
    (case l_primeOf => k_is)
    (case c_primeOf => k_is)
    (case k_primeOf => k_is)
    (case a_degreeOf => k_is)
    (case l_degreeOf => k_is)
    (case c_degreeOf => k_is)
    (case k_degreeOf => k_is)
    (case a_liesIn => k_is)
    (case l_liesIn => k_is)
    (case c_liesIn => k_is)
    (case k_liesIn => k_is)
    (case a_roomFor => k_is)
    (case l_roomFor => k_is)
    (case c_roomFor => k_is)
    (case k_roomFor => k_is)
    (case a_chosenSizes => k_is)
    (case l_chosenSizes => k_is)
    (case c_chosenSizes => k_is)
    (case k_chosenSizes => k_is)
    (case a_embed => k_is)
    (case l_embed => k_is)
    (case c_embed => k_is)
    (case k_embed => k_is)
    (case a_lCells => k_is)
    (case l_lCells => k_is)
    (case c_lCells => k_is)
    (case k_lCells => k_is)
    (case a_lDraw => k_is)
    (case l_lDraw => k_is)
    (case c_lDraw => k_is)
    (case k_lDraw => k_is)
    (case a_lOne => k_is)
    (case l_lOne => k_is)
    (case c_lOne => k_is)
    (case k_lOne => k_is)
    (case a_lMixed => k_is)
    (case l_lMixed => k_is)
    (case c_lMixed => k_is)
    (case k_lMixed => k_is)
    (case a_lSame => k_is)
    (case l_lSame => k_is)
    (case c_lSame => k_is)
    (case k_lSame => k_is)
    (case a_lSplit => k_is)
    (case l_lSplit => k_is)
    (case c_lSplit => k_is)
    (case k_lSplit => k_is)
    (case a_lLies => k_is)
    (case l_lLies => k_is)
    (case c_lLies => k_is)
    (case k_lLies => k_is)
    (case a_lRoom => k_is)
    (case l_lRoom => k_is)
    (case c_lRoom => k_is)
    (case k_lRoom => k_is)
    (case a_lNeed => k_is)
    (case l_lNeed => k_is)
    (case c_lNeed => k_is)
    (case k_lNeed => k_is)
    (case a_lAmounts => k_is)
    (case l_lAmounts => k_is)
    (case c_lAmounts => k_is)
    (case k_lAmounts => k_is)
    (case a_lBarred => k_is)
    (case l_lBarred => k_is)
    (case c_lBarred => k_is)
    (case k_lBarred => k_is)
    (case a_law => k_is)
    (case l_law => k_is)
    (case c_law => k_is)
    (case k_law => k_is)
    (case g_Sh => k_is)
    (case pg_Sh => k_is)
    (case hd_Sh => k_is)
    (case po_Sh => k_is)
    (case sa_Sh => k_is)
    (case mk_Sh => k_is)
    (case kc_Sh => k_is)
    (case g_Em => k_is)
    (case pg_Em => k_is)
    (case hd_Em => k_is)
    (case po_Em => k_is)
    (case sa_Em => k_is)
    (case mk_Em => k_is)
    (case kc_Em => k_is)
    (case g_Bl => k_is)
    (case pg_Bl => k_is)
    (case hd_Bl => k_is)
    (case po_Bl => k_is)
    (case sa_Bl => k_is)
    (case mk_Bl => k_is)
    (case kc_Bl => k_is)
    (case g_Gv => k_is)
    (case pg_Gv => k_is)
    (case hd_Gv => k_is)
    (case po_Gv => k_is)
    (case sa_Gv => k_is)
    (case mk_Gv => k_is)
    (case kc_Gv => k_is)
    (case a_shCounts => k_is)
    (case i_shCounts => k_is)
    (case l_shCounts => k_is)
    (case c_shCounts => k_is)
    (case k_shCounts => k_is)
    (case a_shCount => k_is)
    (case i_shCount => k_is)
    (case l_shCount => k_is)
    (case c_shCount => k_is)
    (case k_shCount => k_is)
    (case a_emInit => k_is)
    (case i_emInit => k_is)
    (case l_emInit => k_is)
    (case c_emInit => k_is)
    (case k_emInit => k_is)
    (case a_emAmounts => k_is)
    (case i_emAmounts => k_is)
    (case l_emAmounts => k_is)
    (case c_emAmounts => k_is)
    (case k_emAmounts => k_is)
    (case a_emHolds => k_is)
    (case i_emHolds => k_is)
    (case l_emHolds => k_is)
    (case c_emHolds => k_is)
    (case k_emHolds => k_is)
    (case a_emBool => k_is)
    (case i_emBool => k_is)
    (case l_emBool => k_is)
    (case c_emBool => k_is)
    (case k_emBool => k_is)
    (case a_blInit => k_is)
    (case i_blInit => k_is)
    (case l_blInit => k_is)
    (case c_blInit => k_is)
    (case k_blInit => k_is)
    (case pa_blKind => k_is)
    (case pg_blKind => k_is)
    (case pt_blKind => k_is)
    (case pr_blKind => k_is)
    (case l_blKind => k_is)
    (case c_blKind => k_is)
    (case k_blKind => k_is)
    (case pa_blSizes => k_is)
    (case pg_blSizes => k_is)
    (case pt_blSizes => k_is)
    (case pr_blSizes => k_is)
    (case l_blSizes => k_is)
    (case c_blSizes => k_is)
    (case k_blSizes => k_is)
    (case a_blHolds => k_is)
    (case i_blHolds => k_is)
    (case l_blHolds => k_is)
    (case c_blHolds => k_is)
    (case k_blHolds => k_is)
    (case a_blBool => k_is)
    (case i_blBool => k_is)
    (case l_blBool => k_is)
    (case c_blBool => k_is)
    (case k_blBool => k_is)
    (case a_gvInit => k_is)
    (case i_gvInit => k_is)
    (case l_gvInit => k_is)
    (case c_gvInit => k_is)
    (case k_gvInit => k_is)
    (case a_gvPath => k_is)
    (case i_gvPath => k_is)
    (case l_gvPath => k_is)
    (case c_gvPath => k_is)
    (case k_gvPath => k_is)
    (case a_gvUse => k_is)
    (case i_gvUse => k_is)
    (case l_gvUse => k_is)
    (case c_gvUse => k_is)
    (case k_gvUse => k_is)
    (case a_gvGiven => k_is)
    (case i_gvGiven => k_is)
    (case l_gvGiven => k_is)
    (case c_gvGiven => k_is)
    (case k_gvGiven => k_is)
    (case a_shInit => k_is)
    (case i_shInit => k_is)
    (case l_shInit => k_is)
    (case m_shInit => k_is)
    (case c_shInit => k_is)
    (case k_shInit => k_is)
    (case n_own_counts => k_is)
    (case n_own_amounts => k_is)
    (case n_own_kind => k_is)
    (case n_own_sizes => k_is)
    (case n_needs => k_is)
    (case n_free => k_is)
    (case n_shares => k_is)
    (case g_SIZES => k_is)
    (case l_SIZES => k_is)
    (case v_SIZES => kernel_rfl)
    (case z_SIZES => decide +kernel)
    (case b_isinstance => k_is)
    (case b_range => k_is)
    (case b_sorted => k_is)
    (case b_set => k_is)
    (case b_list => k_is)
    (case b_dict => k_is)
    (case b_tuple => k_is)
    (case b_sum => k_is)
    (case b_any => k_is)
    (case b_all => k_is)
    (case b_min => k_is)
    (case b_len => k_is)
    (case b_zip => k_is)
    (case b_bool => k_is)
    (case b_int => k_is)
    (case b_str => k_is)
    (case i_kEm => k_is)
    (case i_kBl => k_is)
    (case i_get => k_is)
    (case i_tk => k_is)
    (case i_mEm => k_is)
    (case i_mBl => k_is)
    (case i_oEm => kernel_rfl)
    (case i_oBl => kernel_rfl)
    intro D eD T TI
    exact law_end eD T TI)
