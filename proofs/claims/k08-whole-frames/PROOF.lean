import PyProof.Rows.All
import Wide.All
import OpenK.AllK
import Wide.FinOn
import HandS.ForMost
import HandS.Star
import HandS.IsInst
import HandS.Zip
import HandS.DictComp
import HandS.TupAny
import HandS.Style
import HandS.Small
import HandS.CallLocal
import PySem.Challenge.RW_standlots_k08_whole_frames
import PyProof.StrOps2
import PyProof.Draws
import KE.KDictZip
import HandS.Exc
import HandS.ExcInit
import HandS.ExcSuper
import HandS.WordsExc
import KE.KExcSuper
import HandS.ExcOwn
import HandS.ExcField
import HandS.SortRule
import HandS.TupLe
import HandS.Conv
import PyProof.ReprRoads
import PyProof.ReprDict
import PyProof.FitsInt
import PyProof.ExcBaseAll.ValueError
import KE.KExcLine
set_option linter.all false
set_option maxHeartbeats 4000000
/-! Plain mathematics: frames (ties between points, labels merged), lots in their order. -/
namespace FM

/-! ### frames -/
abbrev Tie := Int × Int
/-- the labels behind a tie: what was labelled as its second end is labelled as its first one -/
def merge (g : Int → Int) (a b : Int) : Int → Int := fun p => if g p = g b then g a else g p
/-- how many ties bring points together that were apart -/
def rk (g : Int → Int) : List Tie → Nat
  | [] => 0
  | e :: r => if g e.1 = g e.2 then rk g r else rk (merge g e.1 e.2) r + 1
/-- whether every tie does -/
def free (g : Int → Int) : List Tie → Bool
  | [] => true
  | e :: r => if g e.1 = g e.2 then false else free (merge g e.1 e.2) r
/-- the labels behind some ties -/
def after (g : Int → Int) : List Tie → (Int → Int)
  | [] => g
  | e :: r => after (merge g e.1 e.2) r

theorem merge_same {g : Int → Int} {a b : Int} (h : g a = g b) : merge g a b = g := by
  funext p
  unfold merge
  split
  · rw [h]; exact (by assumption : g p = g b).symm
  · rfl
theorem rk_cons (g : Int → Int) (e : Tie) (r : List Tie) : rk g (e :: r) = rk (merge g e.1 e.2) r + (if g e.1 = g e.2 then 0 else 1) := by
  by_cases h : g e.1 = g e.2
  · simp only [rk, if_pos h, merge_same h, Nat.add_zero]
  · simp only [rk, if_neg h]

/-- two labellings that tell the same points apart -/
def Alike (g h : Int → Int) : Prop := ∀ x y, g x = g y ↔ h x = h y
theorem merge_iff (g : Int → Int) (a b x y : Int) : merge g a b x = merge g a b y ↔ (g x = g y ∨ (g x = g a ∧ g y = g b) ∨ (g x = g b ∧ g y = g a)) := by
  unfold merge
  grind
theorem Alike.merge {g h : Int → Int} (al : Alike g h) (a b : Int) : Alike (merge g a b) (merge h a b) := fun x y => by
  rw [merge_iff, merge_iff, al x y, al x a, al y b, al x b, al y a]
theorem rk_alike : ∀ (l : List Tie) {g h : Int → Int}, Alike g h → rk g l = rk h l
  | [], _, _, _ => rfl
  | e :: r, g, h, al => by
    rw [rk_cons, rk_cons, rk_alike r (al.merge e.1 e.2)]
    have := al e.1 e.2
    simp only [this]
theorem merge_swap (g : Int → Int) (a b c d : Int) : Alike (merge (merge g a b) c d) (merge (merge g c d) a b) := fun x y => by
  simp only [merge_iff]
  grind
theorem rk_swap (g : Int → Int) (e f : Tie) (r : List Tie) : rk g (e :: f :: r) = rk g (f :: e :: r) := by
  rw [rk_cons, rk_cons, rk_cons, rk_cons, rk_alike r (merge_swap g e.1 e.2 f.1 f.2)]
  have h1 := merge_iff g e.1 e.2 f.1 f.2
  have h2 := merge_iff g f.1 f.2 e.1 e.2
  grind
theorem rk_perm {l l' : List Tie} (p : l.Perm l') : ∀ g, rk g l = rk g l' := by
  induction p with
  | nil => intro g; rfl
  | cons e p ih => intro g; rw [rk_cons, rk_cons, ih]
  | swap e f r => intro g; exact rk_swap g f e r
  | trans p q ih1 ih2 => intro g; rw [ih1, ih2]
theorem rk_append : ∀ (l m : List Tie) (g : Int → Int), rk g (l ++ m) = rk g l + rk (after g l) m
  | [], m, g => by simp [rk, after]
  | e :: r, m, g => by
    rw [List.cons_append, rk_cons, rk_cons, rk_append r m]
    simp only [after]
    omega
theorem rk_one (g : Int → Int) (e : Tie) : rk g [e] = if g e.1 = g e.2 then 0 else 1 := by
  rw [rk_cons]
  simp [rk]
theorem rk_le : ∀ (l : List Tie) (g : Int → Int), rk g l ≤ l.length
  | [], _ => Nat.le_refl _
  | e :: r, g => by
    rw [rk_cons, List.length_cons]
    have := rk_le r (merge g e.1 e.2)
    split <;> omega
theorem free_iff : ∀ (l : List Tie) (g : Int → Int), free g l = true ↔ rk g l = l.length
  | [], _ => by simp [free, rk]
  | e :: r, g => by
    unfold free rk
    have := rk_le r g
    by_cases h : g e.1 = g e.2
    · rw [if_pos h, if_pos h, List.length_cons]
      constructor
      · intro q; cases q
      · intro q; omega
    · rw [if_neg h, if_neg h, List.length_cons, free_iff r]
      omega
/-- a part of the ties that is free and as great as the rank -/
theorem free_part : ∀ (l : List Tie) (g : Int → Int), ∃ k : List Tie, k.Sublist l ∧ free g k = true ∧ k.length = rk g l
  | [], _ => ⟨[], .slnil, rfl, rfl⟩
  | e :: r, g => by
    by_cases h : g e.1 = g e.2
    · obtain ⟨k, s, f, n⟩ := free_part r g
      exact ⟨k, s.cons _, f, by simp only [rk, if_pos h]; exact n⟩
    · obtain ⟨k, s, f, n⟩ := free_part r (merge g e.1 e.2)
      refine ⟨e :: k, s.cons_cons _, ?_, ?_⟩
      · unfold free; rw [if_neg h]; exact f
      · simp only [rk, if_neg h, List.length_cons, n]

/-! ### strict total orders -/
structure STO {α : Type} (lt : α → α → Prop) : Prop where
  irr : ∀ a, ¬ lt a a
  tr : ∀ {a b c}, lt a b → lt b c → lt a c
  tot : ∀ {a b}, a ≠ b → lt a b ∨ lt b a
theorem STO.asym {α : Type} {lt : α → α → Prop} (o : STO lt) {a b : α} (h : lt a b) : ¬ lt b a := fun q => o.irr _ (o.tr h q)
/-- two strictly ascending lists of the same items are one -/
theorem eq_of_sorted {α : Type} {lt : α → α → Prop} (o : STO lt) : ∀ {l l' : List α}, l.Pairwise lt → l'.Pairwise lt → (∀ x, x ∈ l ↔ x ∈ l') → l = l'
  | [], [], _, _, _ => rfl
  | [], b :: r', _, _, h => by have := (h b).mpr List.mem_cons_self; cases this
  | a :: r, [], _, _, h => by have := (h a).mp List.mem_cons_self; cases this
  | a :: r, b :: r', h1, h2, h => by
    obtain ⟨q1, p1⟩ := List.pairwise_cons.mp h1
    obtain ⟨q2, p2⟩ := List.pairwise_cons.mp h2
    have e : a = b := by
      rcases List.mem_cons.mp ((h a).mp List.mem_cons_self) with e | m
      · exact e
      · rcases List.mem_cons.mp ((h b).mpr List.mem_cons_self) with e | m'
        · exact e.symm
        · exact absurd (q1 b m') (o.asym (q2 a m))
    subst e
    rw [eq_of_sorted o p1 p2 fun x => ?_]
    have hx := h x
    simp only [List.mem_cons] at hx
    constructor
    · intro m
      rcases hx.mp (.inr m) with e | m'
      · subst e; exact absurd (q1 _ m) (o.irr _)
      · exact m'
    · intro m
      rcases hx.mpr (.inr m) with e | m'
      · subst e; exact absurd (q2 _ m) (o.irr _)
      · exact m'
theorem nodup_of_sorted {α : Type} {lt : α → α → Prop} (o : STO lt) {l : List α} (h : l.Pairwise lt) : l.Nodup :=
  h.imp fun {a b} q (e : a = b) => o.irr b (by subst e; exact q)
/-- the order of lists -/
def lex {α : Type} (lt : α → α → Prop) : List α → List α → Prop
  | _, [] => False
  | [], _ :: _ => True
  | a :: r, b :: r' => lt a b ∨ (a = b ∧ lex lt r r')
theorem lex_sto {α : Type} {lt : α → α → Prop} (o : STO lt) : STO (lex lt) where
  irr := fun l => by
    induction l with
    | nil => exact fun h => h
    | cons a r ih =>
      rintro (h | ⟨_, h⟩)
      · exact o.irr _ h
      · exact ih h
  tr := fun {a b c} => by
    induction a generalizing b c with
    | nil =>
      intro h1 h2
      cases b with
      | nil => exact h1.elim
      | cons y r =>
        cases c with
        | nil => exact h2.elim
        | cons z r' => trivial
    | cons x s ih =>
      intro h1 h2
      cases b with
      | nil => exact h1.elim
      | cons y r =>
        cases c with
        | nil => exact h2.elim
        | cons z r' =>
          rcases h1 with h1 | ⟨rfl, h1⟩
          · rcases h2 with h2 | ⟨rfl, h2⟩
            · exact .inl (o.tr h1 h2)
            · exact .inl h1
          · rcases h2 with h2 | ⟨rfl, h2⟩
            · exact .inl h2
            · exact .inr ⟨rfl, ih h1 h2⟩
  tot := fun {a b} => by
    induction a generalizing b with
    | nil =>
      intro h
      cases b with
      | nil => exact absurd rfl h
      | cons y r => exact .inl trivial
    | cons x s ih =>
      intro h
      cases b with
      | nil => exact .inr trivial
      | cons y r =>
        by_cases e : x = y
        · subst e
          have h' : s ≠ r := fun q => h (by rw [q])
          rcases ih h' with q | q
          · exact .inl (.inr ⟨rfl, q⟩)
          · exact .inr (.inr ⟨rfl, q⟩)
        · rcases o.tot e with q | q
          · exact .inl (.inl q)
          · exact .inr (.inl q)

/-! ### all parts of a list, in their order -/
def lots {α : Type} : List α → List (List α)
  | [] => [[]]
  | t :: r => [] :: ((lots r).map (t :: ·) ++ (lots r).tail)
theorem lots_head {α : Type} : ∀ l : List α, lots l = [] :: (lots l).tail
  | [] => rfl
  | _ :: _ => rfl
theorem mem_lots {α : Type} : ∀ {l x : List α}, x ∈ lots l ↔ x.Sublist l
  | [], x => by
    simp [lots]
  | t :: r, x => by
    have hr : ∀ y, y ∈ lots r ↔ y.Sublist r := fun y => mem_lots
    have ht : ∀ y, y ∈ (lots r).tail → y.Sublist r := fun y hy => (hr y).mp (List.mem_of_mem_tail hy)
    simp only [lots, List.mem_cons, List.mem_append, List.mem_map]
    constructor
    · rintro (rfl | ⟨y, hy, rfl⟩ | h)
      · exact List.nil_sublist _
      · exact ((hr y).mp hy).cons_cons _
      · exact (ht x h).cons _
    · intro h
      cases h with
      | cons _ h =>
        have := (hr x).mpr h
        rw [lots_head r] at this
        rcases List.mem_cons.mp this with e | m
        · exact .inl e
        · exact .inr (.inr m)
      | cons_cons _ h => exact .inr (.inl ⟨_, (hr _).mpr h, rfl⟩)
theorem lots_sorted {α : Type} {lt : α → α → Prop} (o : STO lt) : ∀ {l : List α}, l.Pairwise lt → (lots l).Pairwise (lex lt)
  | [], _ => by simp [lots]
  | t :: r, h => by
    obtain ⟨q, p⟩ := List.pairwise_cons.mp h
    have ih := lots_sorted o p
    have it : (lots r).tail.Pairwise (lex lt) := by
      rw [lots_head r] at ih
      exact (List.pairwise_cons.mp ih).2
    have ne : ∀ y ∈ (lots r).tail, ∃ b s, y = b :: s ∧ lt t b := fun y hy => by
      have sy : y.Sublist r := mem_lots.mp (List.mem_of_mem_tail hy)
      have hne : y ≠ [] := fun e => by
        rw [lots_head r] at ih
        have := (List.pairwise_cons.mp ih).1 y hy
        rw [e] at this
        exact this
      cases y with
      | nil => exact absurd rfl hne
      | cons b s => exact ⟨b, s, rfl, q b (sy.subset List.mem_cons_self)⟩
    refine List.pairwise_cons.mpr ⟨fun y hy => ?_, List.pairwise_append.mpr ⟨?_, it, ?_⟩⟩
    · rcases List.mem_append.mp hy with m | m
      · obtain ⟨z, _, rfl⟩ := List.mem_map.mp m
        trivial
      · obtain ⟨b, s, rfl, _⟩ := ne y m
        trivial
    · exact List.pairwise_map.mpr (ih.imp fun {a b} hab => .inr ⟨rfl, hab⟩)
    · intro a ha b hb
      obtain ⟨z, _, rfl⟩ := List.mem_map.mp ha
      obtain ⟨c, s, rfl, hl⟩ := ne b hb
      exact .inl hl
/-- a strictly ascending list of items of a strictly ascending list is a part of it -/
theorem sub_of_sorted {α : Type} {lt : α → α → Prop} (o : STO lt) : ∀ {l k : List α}, l.Pairwise lt → k.Pairwise lt → (∀ x ∈ k, x ∈ l) → k.Sublist l
  | l, [], _, _, _ => List.nil_sublist _
  | [], a :: k, _, _, h => by have := h a List.mem_cons_self; cases this
  | b :: l, a :: k, h1, h2, h => by
    obtain ⟨q1, p1⟩ := List.pairwise_cons.mp h1
    obtain ⟨q2, p2⟩ := List.pairwise_cons.mp h2
    by_cases e : a = b
    · subst e
      refine List.Sublist.cons_cons _ (sub_of_sorted o p1 p2 fun x hx => ?_)
      rcases List.mem_cons.mp (h x (List.mem_cons_of_mem _ hx)) with e | m
      · subst e; exact absurd (q2 _ hx) (o.irr _)
      · exact m
    · refine List.Sublist.cons _ (sub_of_sorted o p1 h2 fun x hx => ?_)
      have ha : a ∈ l := by
        rcases List.mem_cons.mp (h a List.mem_cons_self) with e' | m
        · exact absurd e' e
        · exact m
      rcases List.mem_cons.mp (h x hx) with e' | m
      · subst e'
        rcases List.mem_cons.mp hx with e2 | m2
        · exact absurd e2.symm e
        · exact absurd (q1 a ha) (o.asym (q2 _ m2))
      · exact m
theorem lots_len {α : Type} : ∀ l : List α, (lots l).length = 2 ^ l.length
  | [] => rfl
  | t :: r => by
    have := lots_len r
    have h : (lots r).length = (lots r).tail.length + 1 := by
      conv => lhs; rw [lots_head r]
      rfl
    simp only [lots, List.length_cons, List.length_append, List.length_map, Nat.pow_succ]
    omega
/-- the law's own way: from the front, then sorted -/
def rows {α : Type} (l : List α) : List (List α) := l.foldl (fun acc t => acc ++ acc.map (· ++ [t])) [[]]
theorem mem_rows_aux {α : Type} : ∀ (l : List α) (acc : List (List α)) (x : List α), x ∈ l.foldl (fun acc t => acc ++ acc.map (· ++ [t])) acc ↔ ∃ y ∈ acc, ∃ z, z.Sublist l ∧ x = y ++ z
  | [], acc, x => by simp
  | t :: r, acc, x => by
    rw [List.foldl_cons, mem_rows_aux r]
    constructor
    · rintro ⟨y, hy, z, hz, rfl⟩
      rcases List.mem_append.mp hy with m | m
      · exact ⟨y, m, z, hz.cons _, rfl⟩
      · obtain ⟨u, hu, rfl⟩ := List.mem_map.mp m
        exact ⟨u, hu, t :: z, hz.cons_cons _, by simp⟩
    · rintro ⟨y, hy, z, hz, rfl⟩
      cases hz with
      | cons _ h => exact ⟨y, List.mem_append_left _ hy, z, h, rfl⟩
      | cons_cons _ h => exact ⟨y ++ [t], List.mem_append_right _ (List.mem_map.mpr ⟨y, hy, rfl⟩), _, h, by simp⟩
theorem mem_rows {α : Type} {l x : List α} : x ∈ rows l ↔ x.Sublist l := by
  unfold rows
  rw [mem_rows_aux]
  simp
theorem rows_len_aux {α : Type} : ∀ (l : List α) (acc : List (List α)), (l.foldl (fun acc t => acc ++ acc.map (· ++ [t])) acc).length = acc.length * 2 ^ l.length
  | [], acc => by simp
  | t :: r, acc => by
    rw [List.foldl_cons, rows_len_aux r, List.length_append, List.length_map, List.length_cons, Nat.pow_succ, ← Nat.mul_two, Nat.mul_comm (2 ^ r.length) 2, Nat.mul_assoc]
theorem rows_len {α : Type} (l : List α) : (rows l).length = 2 ^ l.length := by
  unfold rows
  rw [rows_len_aux]
  simp
theorem rows_nodup_aux {α : Type} : ∀ (l : List α) (acc : List (List α)), acc.Nodup → (∀ y ∈ acc, ∀ t ∈ l, t ∉ y) → l.Nodup → (l.foldl (fun acc t => acc ++ acc.map (· ++ [t])) acc).Nodup
  | [], acc, h, _, _ => h
  | t :: r, acc, h, hd, hn => by
    rw [List.foldl_cons]
    obtain ⟨n1, n2⟩ := List.nodup_cons.mp hn
    refine rows_nodup_aux r _ (List.nodup_append.mpr ⟨h, ?_, ?_⟩) ?_ n2
    · exact List.pairwise_map.mpr (h.imp fun {a b} hab e => hab (List.append_cancel_right e))
    · intro a ha b hb e
      obtain ⟨c, hc, rfl⟩ := List.mem_map.mp hb
      exact hd a ha t List.mem_cons_self (by rw [e]; simp)
    · intro y hy u hu
      rcases List.mem_append.mp hy with m | m
      · exact hd y m u (List.mem_cons_of_mem _ hu)
      · obtain ⟨c, hc, rfl⟩ := List.mem_map.mp m
        intro q
        rcases List.mem_append.mp q with q | q
        · exact hd c hc u (List.mem_cons_of_mem _ hu) q
        · rw [List.mem_singleton] at q
          subst q
          exact n1 hu
theorem rows_nodup {α : Type} {l : List α} (h : l.Nodup) : (rows l).Nodup :=
  rows_nodup_aux l _ (by simp) (fun y hy t _ => by rw [List.mem_singleton] at hy; subst hy; simp) h
/-- any arrangement of the rows that ascends is the list of lots -/
theorem lots_of_rows {α : Type} {lt : α → α → Prop} (o : STO lt) {l : List α} (hl : l.Pairwise lt) {ys : List (List α)} (p : ys.Perm (rows l)) (h : ys.Pairwise fun a b => ¬ lex lt b a) : ys = lots l := by
  have nd : ys.Nodup := p.nodup_iff.mpr (rows_nodup (nodup_of_sorted o hl))
  have st : ys.Pairwise (lex lt) := by
    have both := List.pairwise_and_iff.mpr ⟨h, nd⟩
    exact both.imp fun {a b} ⟨h1, h2⟩ => ((lex_sto o).tot h2).resolve_right h1
  exact eq_of_sorted (lex_sto o) st (lots_sorted o hl) fun x => by rw [p.mem_iff, mem_rows, mem_lots]
end FM
set_option Elab.async false
set_option linter.all false
set_option maxRecDepth 100000
set_option maxHeartbeats 4000000
/-! A layer of data over the readings: what a value is, as a tree, kept under a set of hidden addresses; expressions and statements by trees. -/
namespace DL
open PySem PySem.Spec PyProof.Rows L2

abbrev Hid := Addr → Prop
/-- what a value may be -/
inductive D where
  | p (d : PyData)
  | dk (kvs : List (Key × PyData))
  | dt (kvs : List (List Key × PyData))
  | v (x : V)
  | tys (ns : List String)
  | ins (C : Addr) (fs : List (Str × PyData))
  | scr (K : PySem.W.Frag) (xs : List Int)

mutual
inductive At (hid : Hid) (H : Hp) : PyData → V → Prop
  | non : At hid H .none .non
  | bool (b : Bool) : At hid H (.bool b) (.bl b)
  | int (i : Int) : At hid H (.int i) (.int i)
  | str (x : Str) : At hid H (.str x) (.str x)
  | list {a : Addr} {vs : List V} {ds : List PyData} : ¬ hid a → H a = some (.lst vs) → AtL hid H ds vs → At hid H (.list ds) (.ref a)
  | tuple {a : Addr} {vs : List V} {ds : List PyData} : ¬ hid a → H a = some (.tup vs) → AtL hid H ds vs → At hid H (.tuple ds) (.ref a)
  | dict0 {a : Addr} : ¬ hid a → H a = some (.dK []) → At hid H (.dict []) (.ref a)
inductive AtL (hid : Hid) (H : Hp) : List PyData → List V → Prop
  | nil : AtL hid H [] []
  | cons {d : PyData} {ds : List PyData} {v : V} {vs : List V} : At hid H d v → AtL hid H ds vs → AtL hid H (d :: ds) (v :: vs)
end

/-- all that is not hidden stands as it stood, and is not hidden -/
def Le (hid : Hid) (H : Hp) (hid' : Hid) (H' : Hp) : Prop := ∀ a o, ¬ hid a → H a = some o → ¬ hid' a ∧ H' a = some o
theorem Le.refl (hid : Hid) (H : Hp) : Le hid H hid H := fun _ _ h e => ⟨h, e⟩
theorem Le.trans {h1 h2 h3 : Hid} {H1 H2 H3 : Hp} (a : Le h1 H1 h2 H2) (b : Le h2 H2 h3 H3) : Le h1 H1 h3 H3 := fun x o n e => by
  obtain ⟨n2, e2⟩ := a x o n e
  exact b x o n2 e2
abbrev Ex (H H' : Hp) : Prop := Same H H'
theorem Le.of_ex {hid : Hid} {H H' : Hp} (e : Ex H H') : Le hid H hid H' := fun a o n h => ⟨n, e a o h⟩
theorem Le.less {hid hid' : Hid} {H : Hp} (h : ∀ a, hid' a → hid a) : Le hid H hid' H := fun a o n e => ⟨fun q => n (h a q), e⟩
theorem ex_new {H : Hp} {p : Addr} {o : HO} (h : H p = none) : Ex H (upd H p o) := fun a u e => by
  rw [upd_ne (ne_of_none e h)]
  exact e
/-- hidden addresses are taken -/
def Occ (hid : Hid) (H : Hp) : Prop := ∀ a, hid a → H a ≠ none
theorem Occ.ex {hid : Hid} {H H' : Hp} (o : Occ hid H) (e : Ex H H') : Occ hid H' := fun a h q => by
  cases h1 : H a with
  | none => exact o a h h1
  | some u =>
    rw [e a u h1] at q
    cases q
theorem Occ.new {hid : Hid} {H : Hp} {p : Addr} (o : Occ hid H) (h : H p = none) : ¬ hid p := fun q => o p q h

mutual
theorem At.mono {hid hid' : Hid} {H H' : Hp} (l : Le hid H hid' H') : ∀ (d : PyData) (v : V), At hid H d v → At hid' H' d v
  | .none, _, h => by cases h; exact .non
  | .bool _, _, h => by cases h; exact .bool _
  | .int _, _, h => by cases h; exact .int _
  | .str _, _, h => by cases h; exact .str _
  | .list ds, _, h => by
    cases h with
    | list n e r =>
      obtain ⟨n', e'⟩ := l _ _ n e
      exact .list n' e' (AtL.mono l ds _ r)
  | .tuple ds, _, h => by
    cases h with
    | tuple n e r =>
      obtain ⟨n', e'⟩ := l _ _ n e
      exact .tuple n' e' (AtL.mono l ds _ r)
  | .dict _, _, h => by
    cases h with
    | dict0 n e =>
      obtain ⟨n', e'⟩ := l _ _ n e
      exact .dict0 n' e'
theorem AtL.mono {hid hid' : Hid} {H H' : Hp} (l : Le hid H hid' H') : ∀ (ds : List PyData) (vs : List V), AtL hid H ds vs → AtL hid' H' ds vs
  | [], _, h => by cases h; exact .nil
  | d :: ds, _, h => by
    cases h with
    | cons a r => exact .cons (At.mono l d _ a) (AtL.mono l ds _ r)
end
section
variable {hid hid' : Hid} {H H' : Hp} {d : PyData} {v : V} {ds es : List PyData} {vs ws : List V}
theorem At.le (h : At hid H d v) (l : Le hid H hid' H') : At hid' H' d v := At.mono l _ _ h
theorem AtL.le (h : AtL hid H ds vs) (l : Le hid H hid' H') : AtL hid' H' ds vs := AtL.mono l _ _ h
theorem At.ex (h : At hid H d v) (e : Ex H H') : At hid H' d v := h.le (.of_ex e)
theorem AtL.ex (h : AtL hid H ds vs) (e : Ex H H') : AtL hid H' ds vs := h.le (.of_ex e)
theorem AtL.length : ∀ {ds : List PyData} {vs : List V}, AtL hid H ds vs → vs.length = ds.length
  | [], _, h => by cases h; rfl
  | d :: ds, _, h => by
    cases h with
    | cons a r => rw [List.length_cons, List.length_cons, AtL.length r]
theorem AtL.get : ∀ {ds : List PyData} {vs : List V} {i : Nat} {d : PyData}, AtL hid H ds vs → ds[i]? = some d → ∃ v, vs[i]? = some v ∧ At hid H d v
  | [], _, i, d, h, e => by cases e
  | d :: ds, _, 0, d', h, e => by
    cases h with
    | cons a r =>
      cases e
      exact ⟨_, rfl, a⟩
  | d :: ds, _, i + 1, d', h, e => by
    cases h with
    | cons a r =>
      obtain ⟨v, e1, h1⟩ := AtL.get (i := i) r (by simpa using e)
      exact ⟨v, by simpa using e1, h1⟩
theorem AtL.got : ∀ {ds : List PyData} {vs : List V} {i : Nat} {v : V}, AtL hid H ds vs → vs[i]? = some v → ∃ d, ds[i]? = some d ∧ At hid H d v := fun {ds vs i v} h e => by
  have hl := h.length
  have hi : i < ds.length := by
    have := (List.getElem?_eq_some_iff.mp e).1
    omega
  obtain ⟨w, e2, a⟩ := h.get (List.getElem?_eq_getElem hi)
  rw [e] at e2
  cases e2
  exact ⟨_, List.getElem?_eq_getElem hi, a⟩
theorem AtL.append : ∀ {ds es : List PyData} {vs ws : List V}, AtL hid H ds vs → AtL hid H es ws → AtL hid H (ds ++ es) (vs ++ ws)
  | [], _, _, _, h, g => by cases h; exact g
  | d :: ds, _, _, _, h, g => by
    cases h with
    | cons a r => exact .cons a (AtL.append r g)
theorem AtL.take : ∀ {ds : List PyData} {vs : List V} (n : Nat), AtL hid H ds vs → AtL hid H (ds.take n) (vs.take n)
  | [], _, n, h => by cases h; simp; exact .nil
  | d :: ds, _, 0, h => by simp; exact .nil
  | d :: ds, _, n + 1, h => by
    cases h with
    | cons a r => exact .cons a (AtL.take n r)
theorem AtL.drop : ∀ {ds : List PyData} {vs : List V} (n : Nat), AtL hid H ds vs → AtL hid H (ds.drop n) (vs.drop n)
  | [], _, n, h => by cases h; simp; exact .nil
  | d :: ds, _, 0, h => h
  | d :: ds, _, n + 1, h => by
    cases h with
    | cons a r => exact AtL.drop n r
theorem AtL.reverse : ∀ {ds : List PyData} {vs : List V}, AtL hid H ds vs → AtL hid H ds.reverse vs.reverse
  | [], _, h => by cases h; exact .nil
  | d :: ds, _, h => by
    cases h with
    | cons a r =>
      rw [List.reverse_cons, List.reverse_cons]
      exact (AtL.reverse r).append (.cons a .nil)
theorem AtL.snoc (h : AtL hid H ds vs) (a : At hid H d v) : AtL hid H (ds ++ [d]) (vs ++ [v]) := h.append (.cons a .nil)
theorem AtL.ints : ∀ {ns : List Int} {vs : List V}, AtL hid H (ns.map .int) vs → vs = ns.map V.int
  | [], _, h => by cases h; rfl
  | n :: ns, _, h => by
    cases h with
    | cons a r =>
      cases a
      rw [AtL.ints r]
      rfl
theorem AtL.strs : ∀ {ns : List Str} {vs : List V}, AtL hid H (ns.map .str) vs → vs = ns.map V.str
  | [], _, h => by cases h; rfl
  | n :: ns, _, h => by
    cases h with
    | cons a r =>
      cases a
      rw [AtL.strs r]
      rfl
theorem AtL.bools : ∀ {ns : List Bool} {vs : List V}, AtL hid H (ns.map .bool) vs → vs = ns.map V.bl
  | [], _, h => by cases h; rfl
  | n :: ns, _, h => by
    cases h with
    | cons a r =>
      cases a
      rw [AtL.bools r]
      rfl
theorem AtL.of_ints : ∀ {ns : List Int}, AtL hid H (ns.map .int) (ns.map V.int)
  | [] => .nil
  | n :: ns => .cons (.int n) AtL.of_ints
theorem AtL.of_strs : ∀ {ns : List Str}, AtL hid H (ns.map .str) (ns.map V.str)
  | [] => .nil
  | n :: ns => .cons (.str n) AtL.of_strs
theorem AtL.nil_of (h : AtL hid H [] vs) : vs = [] := by cases h; rfl
end

/-- what stands in a slot -/
def ValAt (hid : Hid) (H : Hp) : D → V → Prop
  | .p d, v => At hid H d v
  | .dk kvs, v => ∃ a ws, v = .ref a ∧ ¬ hid a ∧ H a = some (.dK ws) ∧ ws.map (·.1) = kvs.map (·.1) ∧ AtL hid H (kvs.map (·.2)) (ws.map (·.2))
  | .dt kvs, v => ∃ a ws, v = .ref a ∧ ¬ hid a ∧ H a = some (.dT ws) ∧ ws.map (·.1) = kvs.map (·.1) ∧ AtL hid H (kvs.map (·.2)) (ws.map (·.2))
  | .v x, v => v = x
  | .tys ns, v => ∃ a, v = .ref a ∧ ¬ hid a ∧ H a = some (.tup (ns.map V.ty))
  | .ins C fs, v => ∃ a dx ws, v = .ref a ∧ ¬ hid a ∧ H a = some (.ins C dx ws) ∧ ws.map (·.1) = fs.map (·.1) ∧ AtL hid H (fs.map (·.2)) (ws.map (·.2))
  | .scr K xs, v => ∃ a, v = .ref a ∧ ∀ hid' H', Le hid H hid' H' → SqL K H' a (xs.map .int)
theorem ValAt.le {hid hid' : Hid} {H H' : Hp} (l : Le hid H hid' H') : ∀ {d : D} {v : V}, ValAt hid H d v → ValAt hid' H' d v
  | .p d, v, h => At.le h l
  | .dk kvs, v, ⟨a, ws, e, n, ha, hk, hv⟩ => by
    obtain ⟨n', e'⟩ := l _ _ n ha
    exact ⟨a, ws, e, n', e', hk, hv.le l⟩
  | .dt kvs, v, ⟨a, ws, e, n, ha, hk, hv⟩ => by
    obtain ⟨n', e'⟩ := l _ _ n ha
    exact ⟨a, ws, e, n', e', hk, hv.le l⟩
  | .ins C fs, v, ⟨a, dx, ws, e, n, ha, hk, hv⟩ => by
    obtain ⟨n', e'⟩ := l _ _ n ha
    exact ⟨a, dx, ws, e, n', e', hk, hv.le l⟩
  | .scr K xs, v, ⟨a, e, ha⟩ => ⟨a, e, fun _ _ l2 => ha _ _ (l.trans l2)⟩
  | .v x, v, h => h
  | .tys ns, v, ⟨a, e, n, ha⟩ => by
    obtain ⟨n', e'⟩ := l _ _ n ha
    exact ⟨a, e, n', e'⟩
abbrev Env := List (Option D)
structure EnvAt (hid : Hid) (H : Hp) (σ : L2.St) (ρ : Env) : Prop where
  len : σ.length = ρ.length
  at_ : ∀ (i : Nat) (d : D), ρ[i]? = some (some d) → ∃ v, σ[i]? = some (some v) ∧ ValAt hid H d v
section
variable {hid hid' : Hid} {H H' : Hp} {σ : L2.St} {ρ : Env} {d : D} {v : V}
theorem EnvAt.le (h : EnvAt hid H σ ρ) (l : Le hid H hid' H') : EnvAt hid' H' σ ρ := ⟨h.len, fun i d e => by
  obtain ⟨v, e1, h1⟩ := h.at_ i d e
  exact ⟨v, e1, h1.le l⟩⟩
theorem EnvAt.ex (h : EnvAt hid H σ ρ) (e : Ex H H') : EnvAt hid H' σ ρ := h.le (.of_ex e)
theorem EnvAt.set (h : EnvAt hid H σ ρ) (i : Nat) (hv : ValAt hid H d v) : EnvAt hid H (σ.set i (some v)) (ρ.set i (some d)) := ⟨by rw [List.length_set, List.length_set, h.len], fun j e q => by
  by_cases hj : i = j
  · subst hj
    have hi : i < ρ.length := by
      have := (List.getElem?_eq_some_iff.mp q).1
      rwa [List.length_set] at this
    rw [List.getElem?_set_self hi] at q
    cases q
    exact ⟨v, List.getElem?_set_self (by rw [h.len]; exact hi), hv⟩
  · rw [List.getElem?_set_ne hj] at q
    obtain ⟨w, e1, h1⟩ := h.at_ j e q
    exact ⟨w, by rw [List.getElem?_set_ne hj]; exact e1, h1⟩⟩
theorem EnvAt.forget (h : EnvAt hid H σ ρ) (i : Nat) : EnvAt hid H σ (ρ.set i none) := ⟨by rw [List.length_set, h.len], fun j e q => by
  by_cases hj : i = j
  · subst hj
    have hi : i < ρ.length := by
      have := (List.getElem?_eq_some_iff.mp q).1
      rwa [List.length_set] at this
    rw [List.getElem?_set_self hi] at q
    cases q
  · rw [List.getElem?_set_ne hj] at q
    exact h.at_ j e q⟩
/-- the slots of a block's own names forgotten -/
def wipeD (ρ : Env) : List Nat → Env
  | [] => ρ
  | v :: vs => (wipeD ρ vs).set v none
theorem EnvAt.wipe (h : EnvAt hid H σ ρ) : ∀ vs : List Nat, EnvAt hid H (L2.wipe σ vs) (wipeD ρ vs)
  | [] => h
  | v :: vs => by
    have ih := EnvAt.wipe h vs
    refine ⟨by simp only [L2.wipe, wipeD, List.length_set, ih.len], fun j e q => ?_⟩
    simp only [wipeD] at q
    by_cases hj : v = j
    · subst hj
      have hi : v < (wipeD ρ vs).length := by
        have := (List.getElem?_eq_some_iff.mp q).1
        rwa [List.length_set] at this
      rw [List.getElem?_set_self hi] at q
      cases q
    · rw [List.getElem?_set_ne hj] at q
      obtain ⟨w, e1, h1⟩ := ih.at_ j e q
      exact ⟨w, by simp only [L2.wipe]; rw [List.getElem?_set_ne hj]; exact e1, h1⟩
/-- fewer slots told -/
def Sub (ρ' ρ : Env) : Prop := ρ'.length = ρ.length ∧ ∀ (i : Nat) (d : D), ρ'[i]? = some (some d) → ρ[i]? = some (some d)
theorem EnvAt.sub {ρ' : Env} (h : EnvAt hid H σ ρ) (s : Sub ρ' ρ) : EnvAt hid H σ ρ' := ⟨by rw [h.len, s.1], fun i d e => h.at_ i d (s.2 i d e)⟩
end
end DL
set_option Elab.async false
set_option linter.all false
set_option maxRecDepth 100000
set_option maxHeartbeats 4000000
namespace DL
open PySem PySem.Spec PyProof.Rows L2

/-! ### expressions that only add to the heap -/
def Ev (t : TE) (ρ : Env) (d : D) : Prop := ∀ (hid : Hid) (H : Hp) (σ : L2.St), Occ hid H → EnvAt hid H σ ρ → ∀ Q : VK, (∀ v H', Ex H H' → ValAt hid H' d v → Q v H') → t σ H Q
def EvT (t : TT) (ρ : Env) (b : Bool) : Prop := ∀ (hid : Hid) (H : Hp) (σ : L2.St), Occ hid H → EnvAt hid H σ ρ → ∀ Q : Bool → Hp → Prop, (∀ H', Ex H H' → Q b H') → t σ H Q
inductive ValsAt (hid : Hid) (H : Hp) : List D → List V → Prop
  | nil : ValsAt hid H [] []
  | cons {d : D} {ds : List D} {v : V} {vs : List V} : ValAt hid H d v → ValsAt hid H ds vs → ValsAt hid H (d :: ds) (v :: vs)
theorem ValsAt.le {hid hid' : Hid} {H H' : Hp} (l : Le hid H hid' H') {ds : List D} {vs : List V} (h : ValsAt hid H ds vs) : ValsAt hid' H' ds vs := by
  induction h with
  | nil => exact .nil
  | cons a _ ih => exact .cons (a.le l) ih
theorem ValsAt.append {hid : Hid} {H : Hp} {ds es : List D} {vs ws : List V} (h : ValsAt hid H ds vs) (g : ValsAt hid H es ws) : ValsAt hid H (ds ++ es) (vs ++ ws) := by
  induction h with
  | nil => exact g
  | cons a _ ih => exact .cons a ih
theorem ValsAt.length {hid : Hid} {H : Hp} {ds : List D} {vs : List V} (h : ValsAt hid H ds vs) : vs.length = ds.length := by
  induction h with
  | nil => rfl
  | cons a _ ih => rw [List.length_cons, List.length_cons, ih]
theorem ValsAt.data {hid : Hid} {H : Hp} : ∀ {ds : List PyData} {vs : List V}, ValsAt hid H (ds.map .p) vs → AtL hid H ds vs
  | [], _, h => by cases h; exact .nil
  | d :: ds, _, h => by
    cases h with
    | cons a r => exact .cons a (ValsAt.data r)
theorem ValsAt.of {hid : Hid} {H : Hp} : ∀ {ds : List PyData} {vs : List V}, AtL hid H ds vs → ValsAt hid H (ds.map .p) vs
  | [], _, h => by cases h; exact .nil
  | d :: ds, _, h => by
    cases h with
    | cons a r => exact .cons a (ValsAt.of r)
def EvA (t : TA) (ρ : Env) (ds : List D) : Prop := ∀ (hid : Hid) (H : Hp) (σ : L2.St), Occ hid H → EnvAt hid H σ ρ → ∀ Q : List V → Hp → Prop, (∀ vs H', Ex H H' → ValsAt hid H' ds vs → Q vs H') → t σ H Q
def EvO (t : TO) (ρ : Env) (o : Option Int) : Prop := ∀ (hid : Hid) (H : Hp) (σ : L2.St), Occ hid H → EnvAt hid H σ ρ → ∀ Q : Option Int → Hp → Prop, (∀ H', Ex H H' → Q o H') → t σ H Q
/-- operations by values -/
def Rv (r : R2) (x y z : D) : Prop := ∀ (hid : Hid) (H : Hp) (u v : V), Occ hid H → ValAt hid H x u → ValAt hid H y v → ∀ Q : VK, (∀ w H', Ex H H' → ValAt hid H' z w → Q w H') → r u v H Q
def Ru (r : V → Hp → VK → Prop) (x z : D) : Prop := ∀ (hid : Hid) (H : Hp) (u : V), Occ hid H → ValAt hid H x u → ∀ Q : VK, (∀ w H', Ex H H' → ValAt hid H' z w → Q w H') → r u H Q
def Rc (r : List V → Hp → VK → Prop) (xs : List D) (z : D) : Prop := ∀ (hid : Hid) (H : Hp) (us : List V), Occ hid H → ValsAt hid H xs us → ∀ Q : VK, (∀ w H', Ex H H' → ValAt hid H' z w → Q w H') → r us H Q
def Rs (r : V → Option Int → Option Int → Hp → VK → Prop) (x : D) (lo hi : Option Int) (z : D) : Prop := ∀ (hid : Hid) (H : Hp) (u : V), Occ hid H → ValAt hid H x u → ∀ Q : VK, (∀ w H', Ex H H' → ValAt hid H' z w → Q w H') → r u lo hi H Q

section
variable {ρ ρ' : Env} {ta tb tc te : TE} {t u : TT} {x y z d : D} {r r' : R2} {a b : Bool}
theorem Ev.sub (s : Sub ρ' ρ) (h : Ev te ρ' d) : Ev te ρ d := fun hid H σ o E => h hid H σ o (E.sub s)
theorem ev_var {i : Nat} (h : ρ[i]? = some (some d)) : Ev (tVar i) ρ d := fun hid H σ o E Q q => by
  obtain ⟨v, e, a⟩ := E.at_ i d h
  exact ⟨v, e, q v H (Same.refl H) a⟩
theorem ev_c {v : V} (h : ∀ hid H, ValAt hid H d v) : Ev (tC v) ρ d := fun hid H σ o E Q q => q v H (Same.refl H) (h hid H)
theorem ev_int {i : Int} : Ev (tC (.int i)) ρ (.p (.int i)) := ev_c fun _ _ => .int i
theorem ev_str {i : Str} : Ev (tC (.str i)) ρ (.p (.str i)) := ev_c fun _ _ => .str i
theorem ev_bl {i : Bool} : Ev (tC (.bl i)) ρ (.p (.bool i)) := ev_c fun _ _ => .bool i
theorem ev_non : Ev (tC .non) ρ (.p .none) := ev_c fun _ _ => .non
theorem ev_val {v : V} : Ev (tC v) ρ (.v v) := ev_c fun _ _ => rfl
theorem ev_op (ha : Ev ta ρ x) (hb : Ev tb ρ y) (hr : Rv r x y z) : Ev (tOp r ta tb) ρ z := fun hid H σ o E Q q =>
  ha hid H σ o E _ fun v H1 e1 a => hb hid H1 σ (o.ex e1) (E.ex e1) _ fun w H2 e2 b => hr hid H2 v w ((o.ex e1).ex e2) (a.le (.of_ex e2)) b Q fun u H3 e3 c => q u H3 (e1.trans (e2.trans e3)) c
theorem ev_un {r : V → Hp → VK → Prop} (ha : Ev ta ρ x) (hr : Ru r x z) : Ev (tUn r ta) ρ z := fun hid H σ o E Q q =>
  ha hid H σ o E _ fun v H1 e1 a => hr hid H1 v (o.ex e1) a Q fun u H3 e3 c => q u H3 (e1.trans e3) c
theorem ev_is (h : Ev te ρ x) (e : x = y) : Ev te ρ y := by subst e; exact h
theorem et_is (h : EvT t ρ a) (e : a = b) : EvT t ρ b := by subst e; exact h
theorem ea_nil : EvA tNil ρ [] := fun hid H σ o E Q q => q [] H (Same.refl H) .nil
theorem ea_cons {tr : TA} {ds : List D} (h : Ev ta ρ x) (hr : EvA tr ρ ds) : EvA (tCons ta tr) ρ (x :: ds) := fun hid H σ o E Q q =>
  h hid H σ o E _ fun v H1 e1 a => hr hid H1 σ (o.ex e1) (E.ex e1) _ fun vs H2 e2 b => q _ H2 (e1.trans e2) (.cons (a.le (.of_ex e2)) b)
/-- *e, a list or a tuple -/
theorem ea_starL {K : PySem.W.Frag} {tr : TA} {xs : List PyData} {ds : List D} (h : Ev ta ρ (.p (.list xs))) (hr : EvA tr ρ ds) : EvA (StX.tStar K ta tr) ρ (xs.map .p ++ ds) := fun hid H σ o E Q q =>
  h hid H σ o E _ fun v H1 e1 a => by
    cases a with
    | list n e l => exact ⟨_, _, rfl, .inr (.of e), hr hid H1 σ (o.ex e1) (E.ex e1) _ fun vs H2 e2 b => q _ H2 (e1.trans e2) ((ValsAt.of (l.ex e2)).append b)⟩
theorem ea_starT {K : PySem.W.Frag} {tr : TA} {xs : List PyData} {ds : List D} (h : Ev ta ρ (.p (.tuple xs))) (hr : EvA tr ρ ds) : EvA (StX.tStar K ta tr) ρ (xs.map .p ++ ds) := fun hid H σ o E Q q =>
  h hid H σ o E _ fun v H1 e1 a => by
    cases a with
    | tuple n e l => exact ⟨_, _, rfl, .inl (.of e), hr hid H1 σ (o.ex e1) (E.ex e1) _ fun vs H2 e2 b => q _ H2 (e1.trans e2) ((ValsAt.of (l.ex e2)).append b)⟩
theorem ev_tup {ta : TA} {ds : List PyData} (h : EvA ta ρ (ds.map .p)) (hl : ds.length ≤ 100000) : Ev (tTup ta) ρ (.p (.tuple ds)) := fun hid H σ o E Q q =>
  h hid H σ o E _ fun vs H1 e1 a => ⟨by rw [ValsAt.length a, List.length_map]; exact Nat.le_trans hl (by decide), fun p hp => q _ _ (e1.trans (ex_new hp)) (.tuple ((o.ex e1).new hp) upd_same (a.data.ex (ex_new hp)))⟩
theorem ev_lst {ta : TA} {ds : List PyData} (h : EvA ta ρ (ds.map .p)) (hl : ds.length ≤ 100000) : Ev (tLst ta) ρ (.p (.list ds)) := fun hid H σ o E Q q =>
  h hid H σ o E _ fun vs H1 e1 a => ⟨by rw [ValsAt.length a, List.length_map]; exact Nat.le_trans hl (by decide), fun p hp => q _ _ (e1.trans (ex_new hp)) (.list ((o.ex e1).new hp) upd_same (a.data.ex (ex_new hp)))⟩
theorem ev_cb {rc : List V → Hp → VK → Prop} {ta : TA} {ds : List D} (h : EvA ta ρ ds) (hr : Rc rc ds z) : Ev (tCB rc ta) ρ z := fun hid H σ o E Q q =>
  h hid H σ o E _ fun vs H1 e1 a => hr hid H1 vs (o.ex e1) a Q fun w H2 e2 c => q w H2 (e1.trans e2) c
theorem ev_andV (h1 : Ev ta ρ (.p (.bool a))) (h2 : a = true → Ev tb ρ (.p (.bool b))) : Ev (tAndV ta tb) ρ (.p (.bool (a && b))) := fun hid H σ o E Q q =>
  h1 hid H σ o E _ fun v H1 e1 c => by
    cases c
    refine ⟨_, rfl, ?_⟩
    cases a with
    | true => exact iteT (h2 rfl hid H1 σ (o.ex e1) (E.ex e1) Q fun w H2 e2 c => q w H2 (e1.trans e2) c)
    | false => exact iteF (q _ _ e1 (.bool false))
theorem ev_orV (h1 : Ev ta ρ (.p (.bool a))) (h2 : a = false → Ev tb ρ (.p (.bool b))) : Ev (tOrV ta tb) ρ (.p (.bool (a || b))) := fun hid H σ o E Q q =>
  h1 hid H σ o E _ fun v H1 e1 c => by
    cases c
    refine ⟨_, rfl, ?_⟩
    cases a with
    | true => exact iteT (q _ _ e1 (.bool true))
    | false => exact iteF (h2 rfl hid H1 σ (o.ex e1) (E.ex e1) Q fun w H2 e2 c => q w H2 (e1.trans e2) c)
theorem ev_notV (h1 : Ev ta ρ (.p (.bool a))) : Ev (tNotV ta) ρ (.p (.bool (!a))) := fun hid H σ o E Q q =>
  h1 hid H σ o E _ fun v H1 e1 c => by
    cases c
    exact ⟨_, rfl, q _ _ e1 (.bool _)⟩
theorem ev_if (h : EvT t ρ a) (h1 : a = true → Ev ta ρ x) (h2 : a = false → Ev tb ρ x) : Ev (tIf t ta tb) ρ x := fun hid H σ o E Q q =>
  h hid H σ o E _ fun H1 e1 => by
    cases a with
    | true => exact iteT (h1 rfl hid H1 σ (o.ex e1) (E.ex e1) Q fun w H2 e2 c => q w H2 (e1.trans e2) c)
    | false => exact iteF (h2 rfl hid H1 σ (o.ex e1) (E.ex e1) Q fun w H2 e2 c => q w H2 (e1.trans e2) c)
/-- a < b < c -/
theorem ev_chain (ha : Ev ta ρ x) (hb : Ev tb ρ y) (h1 : Rv r x y (.p (.bool a))) (hc : a = true → Ev tc ρ z) (h2 : a = true → Rv r' y z (.p (.bool b))) : Ev (tChain r r' ta tb tc) ρ (.p (.bool (a && b))) := fun hid H σ o E Q q =>
  ha hid H σ o E _ fun v H1 e1 va => hb hid H1 σ (o.ex e1) (E.ex e1) _ fun w H2 e2 vb => h1 hid H2 v w ((o.ex e1).ex e2) (va.le (.of_ex e2)) vb _ fun k H3 e3 vk => by
    cases vk
    refine ⟨_, rfl, ?_⟩
    cases a with
    | true => exact iteT (hc rfl hid H3 σ (((o.ex e1).ex e2).ex e3) (((E.ex e1).ex e2).ex e3) _ fun s H4 e4 vc => h2 rfl hid H4 w s ((((o.ex e1).ex e2).ex e3).ex e4) (vb.le (.of_ex (e3.trans e4))) vc Q fun m H5 e5 vm =>
        q m H5 (e1.trans (e2.trans (e3.trans (e4.trans e5)))) vm)
    | false => exact iteF (q _ _ (e1.trans (e2.trans e3)) (.bool false))
/-! tests -/
theorem et_test (h : Ev te ρ (.p (.bool a))) : EvT (tTest te) ρ a := fun hid H σ o E Q q => h hid H σ o E _ fun v H1 e1 c => by
  cases c
  exact ⟨_, rfl, q H1 e1⟩
theorem et_B (h : Ev te ρ (.p (.bool a))) : EvT (tB te) ρ a := fun hid H σ o E Q q => h hid H σ o E _ fun v H1 e1 c => by
  cases c
  exact ⟨_, rfl, q H1 e1⟩
theorem et_and (h1 : EvT t ρ a) (h2 : a = true → EvT u ρ b) : EvT (tAnd t u) ρ (a && b) := fun hid H σ o E Q q => h1 hid H σ o E _ fun H1 e1 => by
  cases a with
  | true => exact iteT (h2 rfl hid H1 σ (o.ex e1) (E.ex e1) Q fun H2 e2 => q H2 (e1.trans e2))
  | false => exact iteF (q H1 e1)
theorem et_or (h1 : EvT t ρ a) (h2 : a = false → EvT u ρ b) : EvT (tOr t u) ρ (a || b) := fun hid H σ o E Q q => h1 hid H σ o E _ fun H1 e1 => by
  cases a with
  | true => exact iteT (q H1 e1)
  | false => exact iteF (h2 rfl hid H1 σ (o.ex e1) (E.ex e1) Q fun H2 e2 => q H2 (e1.trans e2))
theorem et_not (h1 : EvT t ρ a) : EvT (tNot t) ρ (!a) := fun hid H σ o E Q q => h1 hid H σ o E _ fun H1 e1 => q H1 e1
theorem et_yes : EvT tYes ρ true := fun hid H σ o E Q q => q H (Same.refl H)
/-! slices -/
theorem eo_none : EvO tNoPart ρ none := fun hid H σ o E Q q => q H (Same.refl H)
theorem eo_some {i : Int} (h : Ev te ρ (.p (.int i))) : EvO (tPart te) ρ (some i) := fun hid H σ o E Q q => h hid H σ o E _ fun v H1 e1 c => by
  cases c
  exact ⟨_, rfl, q H1 e1⟩
theorem ev_sl {rs : V → Option Int → Option Int → Hp → VK → Prop} {tl th : TO} {lo hi : Option Int} (h : Ev te ρ x) (hl : EvO tl ρ lo) (hh : EvO th ρ hi) (hr : Rs rs x lo hi z) : Ev (tSl rs te tl th) ρ z := fun hid H σ o E Q q =>
  h hid H σ o E _ fun v H1 e1 a => hl hid H1 σ (o.ex e1) (E.ex e1) _ fun H2 e2 => hh hid H2 σ ((o.ex e1).ex e2) ((E.ex e1).ex e2) _ fun H3 e3 =>
    hr hid H3 v (((o.ex e1).ex e2).ex e3) (a.le (.of_ex (e2.trans e3))) Q fun w H4 e4 c => q w H4 (e1.trans (e2.trans (e3.trans e4))) c
end

/-! ### operators -/
section
variable {K : PySem.W.Frag} {i j : Int} {xs ys : List PyData} {d : PyData}
theorem rv_I0 {g : Int → Int → V} {z : D} (h : ∀ hid H, ValAt hid H z (g i j)) : Rv (rI0 g) (.p (.int i)) (.p (.int j)) z := fun hid H u v o a b Q q => by
  cases a; cases b
  exact ⟨_, _, rfl, rfl, q _ _ (Same.refl H) (h _ _)⟩
theorem rv_I {C : Int → Int → Prop} {g : Int → Int → V} {z : D} (hc : C i j) (h : ∀ hid H, ValAt hid H z (g i j)) : Rv (rI C g) (.p (.int i)) (.p (.int j)) z := fun hid H u v o a b Q q => by
  cases a; cases b
  exact ⟨_, _, rfl, rfl, hc, q _ _ (Same.refl H) (h _ _)⟩
theorem rv_add : Rv (rI0 fun i j => .int (i + j)) (.p (.int i)) (.p (.int j)) (.p (.int (i + j))) := rv_I0 fun _ _ => .int _
theorem rv_sub : Rv (rI0 fun i j => .int (i - j)) (.p (.int i)) (.p (.int j)) (.p (.int (i - j))) := rv_I0 fun _ _ => .int _
theorem rv_mul (h : CMul i j) : Rv (rI CMul fun i j => .int (i * j)) (.p (.int i)) (.p (.int j)) (.p (.int (i * j))) := rv_I h fun _ _ => .int _
theorem rv_fdiv (h : CDiv i j) : Rv (rI CDiv fun i j => .int (i / j)) (.p (.int i)) (.p (.int j)) (.p (.int (i / j))) := rv_I h fun _ _ => .int _
theorem rv_mod (h : 0 < j) : Rv (rI (fun _ j => 0 < j) fun i j => .int (i % j)) (.p (.int i)) (.p (.int j)) (.p (.int (i % j))) := rv_I h fun _ _ => .int _
theorem rv_pow (h : CPow i j) : Rv (rI CPow fun i j => .int (i ^ j.toNat)) (.p (.int i)) (.p (.int j)) (.p (.int (i ^ j.toNat))) := rv_I h fun _ _ => .int _
theorem rv_lt : Rv (rI0 fun i j => .bl (decide (i < j))) (.p (.int i)) (.p (.int j)) (.p (.bool (decide (i < j)))) := rv_I0 fun _ _ => .bool _
theorem rv_le : Rv (rI0 fun i j => .bl (decide (i ≤ j))) (.p (.int i)) (.p (.int j)) (.p (.bool (decide (i ≤ j)))) := rv_I0 fun _ _ => .bool _
theorem rv_gt : Rv (rI0 fun i j => .bl (decide (j < i))) (.p (.int i)) (.p (.int j)) (.p (.bool (decide (j < i)))) := rv_I0 fun _ _ => .bool _
theorem rv_ge : Rv (rI0 fun i j => .bl (decide (j ≤ i))) (.p (.int i)) (.p (.int j)) (.p (.bool (decide (j ≤ i)))) := rv_I0 fun _ _ => .bool _
theorem ru_neg : Ru (rU fun i => .int (-i)) (.p (.int i)) (.p (.int (-i))) := fun hid H u o a Q q => by
  cases a
  exact ⟨_, rfl, q _ _ (Same.refl H) (.int _)⟩
theorem rv_eqI : Rv rEq (.p (.int i)) (.p (.int j)) (.p (.bool (decide (i = j)))) := fun hid H u v o a b Q q => by
  cases a; cases b
  refine ⟨rfl, q _ _ (Same.refl H) ?_⟩
  have e : decide (V.int i = V.int j) = decide (i = j) := by simp
  rw [e]
  exact .bool _
theorem rv_neI : Rv rNe (.p (.int i)) (.p (.int j)) (.p (.bool (!decide (i = j)))) := fun hid H u v o a b Q q => by
  cases a; cases b
  refine ⟨rfl, q _ _ (Same.refl H) ?_⟩
  have e : decide (V.int i = V.int j) = decide (i = j) := by simp
  rw [e]
  exact .bool _
theorem rv_eqS {x y : Str} : Rv rEq (.p (.str x)) (.p (.str y)) (.p (.bool (decide (x = y)))) := fun hid H u v o a b Q q => by
  cases a; cases b
  refine ⟨rfl, q _ _ (Same.refl H) ?_⟩
  have e : decide (V.str x = V.str y) = decide (x = y) := by simp
  rw [e]
  exact .bool _
theorem rv_neS {x y : Str} : Rv rNe (.p (.str x)) (.p (.str y)) (.p (.bool (!decide (x = y)))) := fun hid H u v o a b Q q => by
  cases a; cases b
  refine ⟨rfl, q _ _ (Same.refl H) ?_⟩
  have e : decide (V.str x = V.str y) = decide (x = y) := by simp
  rw [e]
  exact .bool _
/-- texts -/
def ltS (x y : Str) : Prop := x.cps.toList < y.cps.toList
instance : DecidableRel ltS := fun x y => inferInstanceAs (Decidable (x.cps.toList < y.cps.toList))
theorem rv_ltS {x y : Str} : Rv (fun x y H Q => ∃ i j, x = .str i ∧ y = .str j ∧ Q (.bl (decide (i.cps.toList < j.cps.toList))) H) (.p (.str x)) (.p (.str y)) (.p (.bool (decide (ltS x y)))) := fun hid H u v o a b Q q => by
  cases a; cases b
  exact ⟨_, _, rfl, rfl, q _ _ (Same.refl H) (.bool _)⟩
theorem rv_catS {x y : Str} (h : x.length + y.length ≤ sizeLine) : Rv (fun x y H Q => ∃ i j, x = .str i ∧ y = .str j ∧ i.length + j.length ≤ sizeLine ∧ Q (.str (i ++ j)) H) (.p (.str x)) (.p (.str y)) (.p (.str (x ++ y))) := fun hid H u v o a b Q q => by
  cases a; cases b
  exact ⟨_, _, rfl, rfl, h, q _ _ (Same.refl H) (.str _)⟩
theorem rv_inSign {c : Nat} {z : Str} : Rv (fun x y H Q => ∃ (c : Nat) (z : Str), x = .str ⟨#[c]⟩ ∧ y = .str z ∧ Q (.bl (decide (c ∈ z.cps.toList))) H) (.p (.str ⟨#[c]⟩)) (.p (.str z)) (.p (.bool (decide (c ∈ z.cps.toList)))) := fun hid H u v o a b Q q => by
  cases a; cases b
  exact ⟨_, _, rfl, rfl, q _ _ (Same.refl H) (.bool _)⟩
theorem rv_notInSign {c : Nat} {z : Str} : Rv (fun x y H Q => ∃ (c : Nat) (z : Str), x = .str ⟨#[c]⟩ ∧ y = .str z ∧ Q (.bl (!decide (c ∈ z.cps.toList))) H) (.p (.str ⟨#[c]⟩)) (.p (.str z)) (.p (.bool (!decide (c ∈ z.cps.toList)))) := fun hid H u v o a b Q q => by
  cases a; cases b
  exact ⟨_, _, rfl, rfl, q _ _ (Same.refl H) (.bool _)⟩
/-- is None -/
def isNone : PyData → Bool
  | .none => true
  | _ => false
theorem rv_isN : Rv (fun x y H Q => y = .non ∧ Q (.bl (decide (x = .non))) H) (.p d) (.p .none) (.p (.bool (isNone d))) := fun hid H u v o a b Q q => by
  cases b
  refine ⟨rfl, q _ _ (Same.refl H) ?_⟩
  have e : decide (u = .non) = isNone d := by cases a <;> rfl
  rw [e]
  exact .bool _
theorem rv_notN : Rv (fun x y H Q => y = .non ∧ Q (.bl (!decide (x = .non))) H) (.p d) (.p .none) (.p (.bool (!isNone d))) := fun hid H u v o a b Q q => by
  cases b
  refine ⟨rfl, q _ _ (Same.refl H) ?_⟩
  have e : decide (u = .non) = isNone d := by cases a <;> rfl
  rw [e]
  exact .bool _
/-! lists, tuples -/
theorem rv_ixL {i : Nat} (h : xs[i]? = some d) : Rv (rIxL K) (.p (.list xs)) (.p (.int (i : Int))) (.p d) := fun hid H u v o a b Q q => by
  cases b
  cases a with
  | list n e l =>
    obtain ⟨w, e1, a1⟩ := l.get h
    exact ⟨_, _, _, _, rfl, rfl, .of e, atI_nat e1, q _ _ (Same.refl H) a1⟩
theorem rv_ixT {i : Nat} (h : xs[i]? = some d) : Rv (rIxT K) (.p (.tuple xs)) (.p (.int (i : Int))) (.p d) := fun hid H u v o a b Q q => by
  cases b
  cases a with
  | tuple n e l =>
    obtain ⟨w, e1, a1⟩ := l.get h
    exact ⟨_, _, _, _, rfl, rfl, .of e, atI_nat e1, q _ _ (Same.refl H) a1⟩
theorem rv_ixS {z : Str} {i c : Nat} (hz : z.length ≤ sizeLine) (h : z.cps.toList[i]? = some c) : Rv rIxS (.p (.str z)) (.p (.int (i : Int))) (.p (.str ⟨#[c]⟩)) := fun hid H u v o a b Q q => by
  cases b; cases a
  exact ⟨_, _, _, rfl, rfl, hz, atI_nat h, q _ _ (Same.refl H) (.str _)⟩
theorem rv_cat (h : xs.length + ys.length ≤ sizeLine) : Rv rCat (.p (.list xs)) (.p (.list ys)) (.p (.list (xs ++ ys))) := fun hid H u v o a b Q q => by
  cases a with
  | list n e l =>
    cases b with
    | list n2 e2 l2 => exact ⟨_, _, _, _, rfl, rfl, e, e2, by rw [l.length, l2.length]; exact h, fun p hp => q _ _ (ex_new hp) (.list (o.new hp) upd_same ((l.append l2).ex (ex_new hp)))⟩
theorem rv_catT (h : xs.length + ys.length ≤ sizeLine) : Rv (rCatA K) (.p (.tuple xs)) (.p (.tuple ys)) (.p (.tuple (xs ++ ys))) := fun hid H u v o a b Q q => by
  cases a with
  | tuple n e l =>
    cases b with
    | tuple n2 e2 l2 =>
      have hx := l.length
      have hy := l2.length
      refine ⟨_, _, _, _, rfl, rfl, .of e, .of e2, by rw [hx, hy]; exact h, fun z => q _ _ (Same.refl H) ?_, fun _ z => q _ _ (Same.refl H) ?_, fun _ _ p hp => q _ _ (ex_new hp) (.tuple (o.new hp) upd_same ((l.append l2).ex (ex_new hp)))⟩
      · rw [z] at hx
        have : xs = [] := List.eq_nil_of_length_eq_zero hx.symm
        subst this
        exact .tuple n2 e2 l2
      · rw [z] at hy
        have : ys = [] := List.eq_nil_of_length_eq_zero hy.symm
        subst this
        rw [List.append_nil]
        exact .tuple n e l
theorem rv_rep {k : Nat} (hk : k ≤ 1000) (h : xs.length * k ≤ sizeLine) : Rv rRep (.p (.list xs)) (.p (.int (k : Int))) (.p (.list (List.replicate k xs).flatten)) := fun hid H u v o a b Q q => by
  cases b
  cases a with
  | @list a0 vs _ n e l =>
    refine ⟨_, _, _, rfl, rfl, e, by omega, by omega, by rw [l.length, Int.toNat_natCast]; exact h, fun p hp => q _ _ (ex_new hp) (.list (o.new hp) upd_same ?_)⟩
    rw [Int.toNat_natCast]
    have rep : ∀ m : Nat, AtL hid H (List.replicate m xs).flatten (List.replicate m vs).flatten := fun m => by
      induction m with
      | zero => exact .nil
      | succ m ih =>
        rw [List.replicate_succ, List.replicate_succ, List.flatten_cons, List.flatten_cons]
        exact l.append ih
    exact (rep k).ex (ex_new hp)
/-- xs[lo:hi] -/
def cutD (xs : List PyData) (lo hi : Option Int) : List PyData := (xs.drop (HT.sIx xs.length 0 lo)).take (HT.sIx xs.length xs.length hi - HT.sIx xs.length 0 lo)
theorem cut_at {hid : Hid} {H : Hp} {vs : List V} {lo hi : Option Int} (l : AtL hid H xs vs) : AtL hid H (cutD xs lo hi) (cutV vs lo hi) := by
  unfold cutD cutV
  rw [l.length]
  exact (l.drop _).take _
theorem rs_list {lo hi : Option Int} : Rs (rSlL K) (.p (.list xs)) lo hi (.p (.list (cutD xs lo hi))) := fun hid H u o a Q q => by
  cases a with
  | list n e l => exact ⟨_, _, rfl, .of e, fun p hp => q _ _ (ex_new hp) (.list (o.new hp) upd_same ((cut_at l).ex (ex_new hp)))⟩
theorem rs_tup {lo hi : Option Int} : Rs (rSlA K) (.p (.tuple xs)) lo hi (.p (.tuple (cutD xs lo hi))) := fun hid H u o a Q q => by
  cases a with
  | tuple n e l =>
    refine ⟨_, _, rfl, .of e, fun w => q _ _ (Same.refl H) ?_, fun _ p hp => q _ _ (ex_new hp) (.tuple (o.new hp) upd_same ((cut_at l).ex (ex_new hp)))⟩
    have hw : cutD xs lo hi = xs := by
      unfold cutD
      rw [l.length] at w
      rw [w.1, w.2]
      simp
    rw [hw]
    exact .tuple n e l
theorem rs_str {z : Str} {lo hi : Option Int} (hz : z.length ≤ sizeLine) : Rs rSlS (.p (.str z)) lo hi (.p (.str (cutS z lo hi))) := fun hid H u o a Q q => by
  cases a
  exact ⟨_, rfl, hz, q _ _ (Same.refl H) (.str _)⟩
theorem cut_from (xs : List PyData) (n : Nat) : cutD xs (some (n : Int)) none = xs.drop n := by
  unfold cutD
  rw [HT.sIx_nat, HT.sIx_none]
  by_cases h : n ≤ xs.length
  · rw [Nat.min_eq_left h, List.take_of_length_le]
    rw [List.length_drop]
    omega
  · rw [Nat.min_eq_right (by omega), List.drop_eq_nil_of_le (by omega : xs.length ≤ xs.length), List.drop_eq_nil_of_le (by omega : xs.length ≤ n)]
    simp
theorem cut_to (xs : List PyData) (n : Nat) : cutD xs none (some (n : Int)) = xs.take n := by
  unfold cutD
  rw [HT.sIx_nat, HT.sIx_none, List.drop_zero, Nat.sub_zero]
  by_cases h : n ≤ xs.length
  · rw [Nat.min_eq_left h]
  · rw [Nat.min_eq_right (by omega), List.take_of_length_le (by omega), List.take_of_length_le (by omega)]
/-- x in a list or tuple of flat things -/
def flatD : PyData → Bool
  | .none | .bool _ | .int _ | .str _ => true
  | _ => false
theorem At.flat {hid : Hid} {H : Hp} {v : V} (h : At hid H d v) (f : flatD d = true) : flatV v = true := by
  cases h <;> first | rfl | cases f
theorem AtL.flat {hid : Hid} {H : Hp} : ∀ {ds : List PyData} {vs : List V}, AtL hid H ds vs → ds.all flatD = true → vs.all flatV = true
  | [], _, h, _ => by cases h; rfl
  | d :: ds, _, h, f => by
    cases h with
    | cons a r =>
      rw [List.all_cons, Bool.and_eq_true] at f
      rw [List.all_cons, Bool.and_eq_true]
      exact ⟨a.flat f.1, AtL.flat r f.2⟩
theorem inV_strs (x : Str) (ys : List Str) : inV (.str x) (ys.map V.str) = decide (x ∈ ys) := by
  induction ys with
  | nil => rfl
  | cons y r ih =>
    unfold inV at ih ⊢
    rw [List.map_cons, List.any_cons, ih]
    have e : eqV (.str y) (.str x) = decide (x = y) := by
      show (y == x) = decide (x = y)
      by_cases h : x = y
      · subst h; simp
      · rw [decide_eq_false h]
        exact beq_eq_false_iff_ne.mpr fun q => h q.symm
    rw [e]
    by_cases h : x = y
    · subst h; simp
    · simp [h]
theorem flat_strs : ∀ ys : List Str, (ys.map V.str).all flatV = true
  | [] => rfl
  | _ :: r => by rw [List.map_cons, List.all_cons, flat_strs r]; rfl
theorem rv_inT {x : Str} {ys : List Str} : Rv (rIn K false) (.p (.str x)) (.p (.tuple (ys.map .str))) (.p (.bool (decide (x ∈ ys)))) := fun hid H u v o a b Q q => by
  cases a
  cases b with
  | tuple n e l =>
    have := l.strs
    subst this
    refine ⟨_, _, rfl, .inr (.of e), rfl, flat_strs ys, ?_⟩
    rw [inV_strs]
    exact q _ _ (Same.refl H) (.bool _)
theorem rv_notInT {x : Str} {ys : List Str} : Rv (rIn K true) (.p (.str x)) (.p (.tuple (ys.map .str))) (.p (.bool (!decide (x ∈ ys)))) := fun hid H u v o a b Q q => by
  cases a
  cases b with
  | tuple n e l =>
    have := l.strs
    subst this
    refine ⟨_, _, rfl, .inr (.of e), rfl, flat_strs ys, ?_⟩
    rw [inV_strs]
    exact q _ _ (Same.refl H) (.bool _)
theorem rv_inL {x : Str} {ys : List Str} : Rv (rIn K false) (.p (.str x)) (.p (.list (ys.map .str))) (.p (.bool (decide (x ∈ ys)))) := fun hid H u v o a b Q q => by
  cases a
  cases b with
  | list n e l =>
    have := l.strs
    subst this
    refine ⟨_, _, rfl, .inl (.of e), rfl, flat_strs ys, ?_⟩
    rw [inV_strs]
    exact q _ _ (Same.refl H) (.bool _)
/-! built-in functions -/
theorem rc_lenL : Rc (fun xs H Q => ∃ p ys, xs = [.ref p] ∧ (SqL K H p ys ∨ SqT K H p ys) ∧ Q (.int ys.length) H) [.p (.list xs)] (.p (.int (xs.length : Int))) := fun hid H us o a Q q => by
  cases a with
  | cons a r =>
    cases r
    cases a with
    | list n e l =>
      refine ⟨_, _, rfl, .inl (.of e), ?_⟩
      rw [l.length]
      exact q _ _ (Same.refl H) (.int _)
theorem rc_lenT : Rc (fun xs H Q => ∃ p ys, xs = [.ref p] ∧ (SqL K H p ys ∨ SqT K H p ys) ∧ Q (.int ys.length) H) [.p (.tuple xs)] (.p (.int (xs.length : Int))) := fun hid H us o a Q q => by
  cases a with
  | cons a r =>
    cases r
    cases a with
    | tuple n e l =>
      refine ⟨_, _, rfl, .inr (.of e), ?_⟩
      rw [l.length]
      exact q _ _ (Same.refl H) (.int _)
theorem rc_lenS {z : Str} (hz : z.length ≤ sizeLine) : Rc (fun xs H Q => ∃ z, xs = [.str z] ∧ z.length ≤ sizeLine ∧ Q (.int z.length) H) [.p (.str z)] (.p (.int (z.length : Int))) := fun hid H us o a Q q => by
  cases a with
  | cons a r =>
    cases r
    cases a
    exact ⟨_, rfl, hz, q _ _ (Same.refl H) (.int _)⟩
theorem rc_tupL : Rc (fun xs H Q => ∃ p ys, xs = [.ref p] ∧ ((SqL K H p ys ∧ ∀ l, H l = none → Q (.ref l) (upd H l (.tup ys))) ∨ (SqT K H p ys ∧ Q (.ref p) H))) [.p (.list xs)] (.p (.tuple xs)) := fun hid H us o a Q q => by
  cases a with
  | cons a r =>
    cases r
    cases a with
    | list n e l => exact ⟨_, _, rfl, .inl ⟨.of e, fun p hp => q _ _ (ex_new hp) (.tuple (o.new hp) upd_same (l.ex (ex_new hp)))⟩⟩
theorem rc_tupT : Rc (fun xs H Q => ∃ p ys, xs = [.ref p] ∧ ((SqL K H p ys ∧ ∀ l, H l = none → Q (.ref l) (upd H l (.tup ys))) ∨ (SqT K H p ys ∧ Q (.ref p) H))) [.p (.tuple xs)] (.p (.tuple xs)) := fun hid H us o a Q q => by
  cases a with
  | cons a r =>
    cases r
    cases a with
    | tuple n e l => exact ⟨_, _, rfl, .inr ⟨.of e, q _ _ (Same.refl H) (.tuple n e l)⟩⟩
theorem rc_listL : Rc (fun xs H Q => ∃ p ys, xs = [.ref p] ∧ (SqL K H p ys ∨ SqT K H p ys) ∧ ∀ l, H l = none → Q (.ref l) (upd H l (.lst ys))) [.p (.list xs)] (.p (.list xs)) := fun hid H us o a Q q => by
  cases a with
  | cons a r =>
    cases r
    cases a with
    | list n e l => exact ⟨_, _, rfl, .inl (.of e), fun p hp => q _ _ (ex_new hp) (.list (o.new hp) upd_same (l.ex (ex_new hp)))⟩
theorem rc_listT : Rc (fun xs H Q => ∃ p ys, xs = [.ref p] ∧ (SqL K H p ys ∨ SqT K H p ys) ∧ ∀ l, H l = none → Q (.ref l) (upd H l (.lst ys))) [.p (.tuple xs)] (.p (.list xs)) := fun hid H us o a Q q => by
  cases a with
  | cons a r =>
    cases r
    cases a with
    | tuple n e l => exact ⟨_, _, rfl, .inr (.of e), fun p hp => q _ _ (ex_new hp) (.list (o.new hp) upd_same (l.ex (ex_new hp)))⟩
theorem rc_all {bs : List Bool} : Rc (rAll K) [.p (.list (bs.map .bool))] (.p (.bool (bs.all id))) := fun hid H us o a Q q => by
  cases a with
  | cons a r =>
    cases r
    cases a with
    | list n e l =>
      have := l.bools
      subst this
      exact ⟨_, bs, rfl, .of e, q _ _ (Same.refl H) (.bool _)⟩
theorem rc_max {ns : List Int} {m : Int} (h1 : m ∈ ns) (h2 : ∀ y, y ∈ ns → y ≤ m) : Rc (rMax K) [.p (.list (ns.map .int))] (.p (.int m)) := fun hid H us o a Q q => by
  cases a with
  | cons a r =>
    cases r
    cases a with
    | list n e l =>
      have := l.ints
      subst this
      refine ⟨_, ns, rfl, .of e, List.length_pos_of_mem h1, fun k hk1 hk2 => ?_⟩
      have : k = m := Int.le_antisymm (h2 k hk1) (hk2 m h1)
      subst this
      exact q _ _ (Same.refl H) (.int _)
theorem rc_min2 : Rc (fun xs H Q => ∃ i j, xs = [.int i, .int j] ∧ Q (.int (if j < i then j else i)) H) [.p (.int i), .p (.int j)] (.p (.int (if j < i then j else i))) := fun hid H us o a Q q => by
  cases a with
  | cons a r =>
    cases r with
    | cons b r =>
      cases r
      cases a
      cases b
      exact ⟨_, _, rfl, q _ _ (Same.refl H) (.int _)⟩
theorem rc_intI : Rc (fun xs H Q => (∃ i, xs = [.int i] ∧ Q (.int i) H) ∨ ∃ k, xs = [.bl k] ∧ Q (.int (if k then 1 else 0)) H) [.p (.int i)] (.p (.int i)) := fun hid H us o a Q q => by
  cases a with
  | cons a r =>
    cases r
    cases a
    exact .inl ⟨_, rfl, q _ _ (Same.refl H) (.int _)⟩
theorem rc_intB {k : Bool} : Rc (fun xs H Q => (∃ i, xs = [.int i] ∧ Q (.int i) H) ∨ ∃ k, xs = [.bl k] ∧ Q (.int (if k then 1 else 0)) H) [.p (.bool k)] (.p (.int (if k then 1 else 0))) := fun hid H us o a Q q => by
  cases a with
  | cons a r =>
    cases r
    cases a
    exact .inr ⟨_, rfl, q _ _ (Same.refl H) (.int _)⟩
end
end DL
set_option Elab.async false
set_option linter.all false
set_option maxRecDepth 100000
set_option maxHeartbeats 4000000
namespace DL
open PySem PySem.Spec PyProof.Rows L2

/-! ### a state beside the data: what stands at the hidden addresses that are its own -/
structure Mo (β : Type) where
  at_ : β → Hid → Hp → Prop
  loc : ∀ {b : β} {hid : Hid} {H H' : Hp}, at_ b hid H → (∀ a, hid a → H' a = H a) → at_ b hid H'
  occ : ∀ {b : β} {hid : Hid} {H : Hp}, at_ b hid H → Occ hid H
def un (hid fr : Hid) : Hid := fun a => hid a ∨ fr a
structure WOk {β : Type} (M : Mo β) (b : β) (hid fr : Hid) (H : Hp) : Prop where
  st : M.at_ b hid H
  ofr : Occ fr H
  dj : ∀ a, fr a → ¬ hid a
structure Stp (hid fr : Hid) (H : Hp) (hid' : Hid) (H' : Hp) : Prop where
  kfr : ∀ a, fr a → H' a = H a
  le : Le (un hid fr) H (un hid' fr) H'
section
variable {β : Type} {M : Mo β} {b b' : β} {hid hid' hid2 fr : Hid} {H H' H2 : Hp}
theorem Stp.refl : Stp hid fr H hid H := ⟨fun _ _ => rfl, Le.refl _ _⟩
theorem Stp.trans (a : Stp hid fr H hid' H') (c : Stp hid' fr H' hid2 H2) : Stp hid fr H hid2 H2 := ⟨fun x h => (c.kfr x h).trans (a.kfr x h), a.le.trans c.le⟩
theorem WOk.occ (w : WOk M b hid fr H) : Occ (un hid fr) H := fun a h => h.elim (M.occ w.st a) (w.ofr a)
theorem ex_at {a : Addr} (e : Ex H H') (o : H a ≠ none) : H' a = H a := by
  cases h : H a with
  | none => exact absurd h o
  | some u => exact e a u h
theorem WOk.ex (w : WOk M b hid fr H) (e : Ex H H') : WOk M b hid fr H' := ⟨M.loc w.st fun a h => ex_at e (M.occ w.st a h), w.ofr.ex e, w.dj⟩
theorem WOk.stp (w : WOk M b hid fr H) (e : Ex H H') : Stp hid fr H hid H' := ⟨fun a h => ex_at e (w.ofr a h), .of_ex e⟩
end

def Em {β : Type} (M : Mo β) (t : TE) (b : β) (ρ : Env) (Post : β → D → Prop) : Prop := ∀ (hid fr : Hid) (H : Hp) (σ : L2.St), WOk M b hid fr H → EnvAt (un hid fr) H σ ρ → ∀ Q : VK,
  (∀ v hid' H' b' d, WOk M b' hid' fr H' → Stp hid fr H hid' H' → ValAt (un hid' fr) H' d v → Post b' d → Q v H') → t σ H Q
structure Po (β : Type) where
  nx : β → Env → Prop := fun _ _ => False
  rt : β → D → Prop := fun _ _ => False
  bk : β → Env → Prop := fun _ _ => False
  ct : β → Env → Prop := fun _ _ => False
def Sm {β : Type} (M : Mo β) (t : TS) (b : β) (ρ : Env) (P : Po β) : Prop := ∀ (hid fr : Hid) (H : Hp) (σ : L2.St) (E : Ends), WOk M b hid fr H → EnvAt (un hid fr) H σ ρ →
  (∀ σ' hid' H' b' ρ', WOk M b' hid' fr H' → Stp hid fr H hid' H' → EnvAt (un hid' fr) H' σ' ρ' → P.nx b' ρ' → E.nx σ' H') →
  (∀ σ' hid' H' b' ρ', WOk M b' hid' fr H' → Stp hid fr H hid' H' → EnvAt (un hid' fr) H' σ' ρ' → P.bk b' ρ' → E.bk σ' H') →
  (∀ σ' hid' H' b' ρ', WOk M b' hid' fr H' → Stp hid fr H hid' H' → EnvAt (un hid' fr) H' σ' ρ' → P.ct b' ρ' → E.ct σ' H') →
  (∀ v hid' H' b' d, WOk M b' hid' fr H' → Stp hid fr H hid' H' → ValAt (un hid' fr) H' d v → P.rt b' d → E.rt v H') → t E σ H

/-- no state -/
def Mo.emp : Mo Unit where
  at_ _ hid _ := ∀ a, ¬ hid a
  loc h _ := h
  occ h a q := absurd q (h a)

section
variable {β : Type} {M : Mo β} {b b' : β} {ρ ρ' : Env} {te ta tb : TE} {d : D} {t u : TS} {tt : TT} {P : Po β} {Post Post' : β → D → Prop} {a : Bool}
theorem Ev.em (h : Ev te ρ d) : Em M te b ρ fun b' e => b' = b ∧ e = d := fun hid fr H σ w E Q q =>
  h (un hid fr) H σ w.occ E Q fun v H' e a => q v hid H' b d (w.ex e) (w.stp e) a ⟨rfl, rfl⟩
theorem Em.imp (h : Em M te b ρ Post) (i : ∀ b' d, Post b' d → Post' b' d) : Em M te b ρ Post' := fun hid fr H σ w E Q q =>
  h hid fr H σ w E Q fun v hid' H' b' d w' s a p => q v hid' H' b' d w' s a (i b' d p)
theorem Em.sub (s : Sub ρ' ρ) (h : Em M te b ρ' Post) : Em M te b ρ Post := fun hid fr H σ w E => h hid fr H σ w (E.sub s)
theorem Em.ev (h : Em Mo.emp te () ρ fun _ e => e = d) : Ev te ρ d := fun hid H σ o E Q q => by
  refine h (fun _ => False) hid H σ ⟨fun _ q => q, o, fun _ _ q => q⟩ (E.le (.less fun a q => q.elim False.elim id)) Q fun v hid' H' b' e w s a p => ?_
  subst p
  have ex : Ex H H' := fun x u hx => by
    by_cases hh : hid x
    · rw [s.kfr x hh]; exact hx
    · exact (s.le x u (fun q => q.elim False.elim hh) hx).2
  exact q v H' ex (a.le (.less fun x q => .inr q))
/-! statements -/
theorem sm_seq {Mid : β → Env → Prop} (h1 : Sm M t b ρ { P with nx := Mid }) (h2 : ∀ b' ρ', Mid b' ρ' → Sm M u b' ρ' P) : Sm M (tSeq t u) b ρ P := fun hid fr H σ E w e qn qb qc qr =>
  h1 hid fr H σ { E with nx := u E } w e
    (fun σ' hid' H' b' ρ' w' s' e' m => h2 b' ρ' m hid' fr H' σ' E w' e' (fun σ2 h2 H2 b2 ρ2 w2 s2 => qn σ2 h2 H2 b2 ρ2 w2 (s'.trans s2)) (fun σ2 h2 H2 b2 ρ2 w2 s2 => qb σ2 h2 H2 b2 ρ2 w2 (s'.trans s2))
      (fun σ2 h2 H2 b2 ρ2 w2 s2 => qc σ2 h2 H2 b2 ρ2 w2 (s'.trans s2)) (fun v h2 H2 b2 d w2 s2 => qr v h2 H2 b2 d w2 (s'.trans s2))) qb qc qr
theorem Sm.sub (s : Sub ρ' ρ) (h : Sm M t b ρ' P) : Sm M t b ρ P := fun hid fr H σ E w e => h hid fr H σ E w (e.sub s)
theorem sm_next (h : P.nx b ρ) : Sm M tNext b ρ P := fun hid fr H σ E w e qn _ _ _ => qn σ hid H b ρ w .refl e h
theorem sm_setM {i : Nat} (h : Em M te b ρ Post) (k : ∀ b' d, Post b' d → P.nx b' (ρ.set i (some d))) : Sm M (tAsg te (gName i)) b ρ P := fun hid fr H σ E w e qn _ _ _ =>
  h hid fr H σ w e _ fun v hid' H' b' d w' s' a p => qn _ hid' H' b' _ w' s' ((e.le s'.le).set i a) (k b' d p)
theorem sm_set {i : Nat} (h : Ev te ρ d) (k : P.nx b (ρ.set i (some d))) : Sm M (tAsg te (gName i)) b ρ P := sm_setM h.em fun b' e q => by
  obtain ⟨rfl, rfl⟩ := q
  exact k
/-- x = e, and on -/
theorem sq_setM {i : Nat} (h : Em M te b ρ Post) (k : ∀ b' d, Post b' d → Sm M u b' (ρ.set i (some d)) P) : Sm M (tSeq (tAsg te (gName i)) u) b ρ P :=
  sm_seq (Mid := fun b' ρ' => Sm M u b' ρ' P) (sm_setM h k) fun _ _ h => h
theorem sq_set {i : Nat} (h : Ev te ρ d) (k : Sm M u b (ρ.set i (some d)) P) : Sm M (tSeq (tAsg te (gName i)) u) b ρ P :=
  sm_seq (Mid := fun b' ρ' => Sm M u b' ρ' P) (sm_set h k) fun _ _ h => h
theorem sm_retM (h : Em M te b ρ Post) (k : ∀ b' d, Post b' d → P.rt b' d) : Sm M (tRet te) b ρ P := fun hid fr H σ E w e _ _ _ qr =>
  h hid fr H σ w e _ fun v hid' H' b' d w' s' a p => qr v hid' H' b' d w' s' a (k b' d p)
theorem sm_ret (h : Ev te ρ d) (k : P.rt b d) : Sm M (tRet te) b ρ P := sm_retM h.em fun b' e q => by
  obtain ⟨rfl, rfl⟩ := q
  exact k
theorem sm_if (h : EvT tt ρ a) (h1 : a = true → Sm M t b ρ P) (h2 : a = false → Sm M u b ρ P) : Sm M (tIfS tt t u) b ρ P := fun hid fr H σ E w e qn qb qc qr =>
  h (un hid fr) H σ w.occ e _ fun H1 e1 => by
    have s1 := w.stp e1
    cases a with
    | true => exact iteT (h1 rfl hid fr H1 σ E (w.ex e1) (e.ex e1) (fun σ2 h2 H2 b2 ρ2 w2 s2 => qn σ2 h2 H2 b2 ρ2 w2 (s1.trans s2)) (fun σ2 h2 H2 b2 ρ2 w2 s2 => qb σ2 h2 H2 b2 ρ2 w2 (s1.trans s2))
      (fun σ2 h2 H2 b2 ρ2 w2 s2 => qc σ2 h2 H2 b2 ρ2 w2 (s1.trans s2)) (fun v h2 H2 b2 d w2 s2 => qr v h2 H2 b2 d w2 (s1.trans s2)))
    | false => exact iteF (h2 rfl hid fr H1 σ E (w.ex e1) (e.ex e1) (fun σ2 h2 H2 b2 ρ2 w2 s2 => qn σ2 h2 H2 b2 ρ2 w2 (s1.trans s2)) (fun σ2 h2 H2 b2 ρ2 w2 s2 => qb σ2 h2 H2 b2 ρ2 w2 (s1.trans s2))
      (fun σ2 h2 H2 b2 ρ2 w2 s2 => qc σ2 h2 H2 b2 ρ2 w2 (s1.trans s2)) (fun v h2 H2 b2 d w2 s2 => qr v h2 H2 b2 d w2 (s1.trans s2)))
/-- if c: t (which goes nowhere further), and on -/
theorem sq_if {w : TS} (h : EvT tt ρ a) (h1 : a = true → Sm M t b ρ { P with nx := fun b' ρ' => Sm M w b' ρ' P }) (h2 : a = false → Sm M u b ρ { P with nx := fun b' ρ' => Sm M w b' ρ' P }) : Sm M (tSeq (tIfS tt t u) w) b ρ P :=
  sm_seq (Mid := fun b' ρ' => Sm M w b' ρ' P) (sm_if h h1 h2) fun _ _ h => h
theorem sm_drop (h : Ev te ρ d) (k : P.nx b ρ) : Sm M (tDrop te) b ρ P := fun hid fr H σ E w e qn _ _ _ =>
  h (un hid fr) H σ w.occ e _ fun v H1 e1 _ => qn σ hid H1 b ρ (w.ex e1) (w.stp e1) (e.ex e1) k
theorem sm_dropM (h : Em M te b ρ Post) (k : ∀ b' d, Post b' d → P.nx b' ρ) : Sm M (tDrop te) b ρ P := fun hid fr H σ E w e qn _ _ _ =>
  h hid fr H σ w e _ fun v hid' H1 b' d w' s' _ p => qn σ hid' H1 b' ρ w' s' (e.le s'.le) (k b' d p)
/-- a, b = x, y of plain names -/
theorem sq_par {i j : Nat} {ta : TA} {x y : D} (h : EvA ta ρ [x, y]) (k : Sm M u b ((ρ.set i (some x)).set j (some y)) P) : Sm M (tSeq (tPar i j ta) u) b ρ P := fun hid fr H σ E w e qn qb qc qr =>
  h (un hid fr) H σ w.occ e _ fun vs H1 e1 a => by
    cases a with
    | cons a1 r =>
      cases r with
      | cons a2 r =>
        cases r
        have s1 := w.stp e1
        refine ⟨_, _, rfl, ?_⟩
        exact k hid fr H1 _ E (w.ex e1) (((e.ex e1).set i a1).set j a2) (fun σ2 h2 H2 b2 ρ2 w2 s2 => qn σ2 h2 H2 b2 ρ2 w2 (s1.trans s2)) (fun σ2 h2 H2 b2 ρ2 w2 s2 => qb σ2 h2 H2 b2 ρ2 w2 (s1.trans s2))
          (fun σ2 h2 H2 b2 ρ2 w2 s2 => qc σ2 h2 H2 b2 ρ2 w2 (s1.trans s2)) (fun v h2 H2 b2 d w2 s2 => qr v h2 H2 b2 d w2 (s1.trans s2))
end

/-! ### what is walked -/
def Wk (J : It) (hid : Hid) (H : Hp) (xs : List PyData) : Prop := ∀ (hid' : Hid) (H' : Hp), Le hid H hid' H' → Occ hid' H' →
  (∀ i, i < xs.length → J.go i H') ∧ (∀ i, xs.length ≤ i → J.stop i H') ∧ ∀ i x H'', i < xs.length → J.yld i H' x H'' → ∃ d, xs[i]? = some d ∧ Ex H' H'' ∧ At hid' H'' d x
def EvI (w : TI) (ρ : Env) (xs : List PyData) : Prop := ∀ (hid : Hid) (H : Hp) (σ : L2.St), Occ hid H → EnvAt hid H σ ρ → ∀ R : It → Hp → Prop, (∀ J H', Ex H H' → Wk J hid H' xs → R J H') → w σ H R
theorem EvI.sub {ρ ρ' : Env} {w : TI} {xs : List PyData} (s : Sub ρ' ρ) (h : EvI w ρ' xs) : EvI w ρ xs := fun hid H σ o E => h hid H σ o (E.sub s)
section
variable {K : PySem.W.Frag} {ρ : Env} {tl te : TE} {ta : TA} {xs ys : List PyData}
theorem SqL.inj {H : Hp} {a : Addr} {vs ws : List V} (h1 : H a = some (.lst vs)) (h2 : H a = some (.lst ws)) : vs = ws := by
  rw [h1] at h2
  cases h2
  rfl
theorem ei_list (h : Ev tl ρ (.p (.list xs))) : EvI (iList K tl) ρ xs := fun hid H σ o E R q => h hid H σ o E _ fun v H1 e1 a => by
  cases a with
  | @list a0 vs _ n e l =>
    refine ⟨_, rfl, ⟨_, .of e⟩, q _ H1 e1 fun hid' H' le o' => ?_⟩
    obtain ⟨n', e'⟩ := le _ _ n e
    have l' := l.le le
    have hl := l.length
    refine ⟨fun i hi => ⟨vs, vs[i]'(by omega), .of e', List.getElem?_eq_getElem (by omega)⟩, fun i hi => ⟨vs, .of e', by omega⟩, fun i x H'' hi y => ?_⟩
    obtain ⟨rfl, y⟩ := y
    obtain ⟨d, ed, ad⟩ := l'.got (y vs (.of e'))
    exact ⟨d, ed, Same.refl _, ad⟩
theorem ei_tup (h : Ev tl ρ (.p (.tuple xs))) : EvI (iTup K tl) ρ xs := fun hid H σ o E R q => h hid H σ o E _ fun v H1 e1 a => by
  cases a with
  | @tuple a0 vs _ n e l =>
    refine ⟨_, rfl, ⟨_, .of e⟩, q _ H1 e1 fun hid' H' le o' => ?_⟩
    obtain ⟨n', e'⟩ := le _ _ n e
    have l' := l.le le
    have hl := l.length
    refine ⟨fun i hi => ⟨vs, vs[i]'(by omega), .of e', List.getElem?_eq_getElem (by omega)⟩, fun i hi => ⟨vs, .of e', by omega⟩, fun i x H'' hi y => ?_⟩
    obtain ⟨rfl, y⟩ := y
    obtain ⟨d, ed, ad⟩ := l'.got (y vs (.of e'))
    exact ⟨d, ed, Same.refl _, ad⟩
theorem ei_range {n : Nat} (h : EvA ta ρ [.p (.int (n : Int))]) (hn : n ≤ 100000) : EvI (iRng1 ta) ρ ((List.range n).map fun i : Nat => PyData.int (i : Int)) := fun hid H σ o E R q => h hid H σ o E _ fun vs H1 e1 a => by
  cases a with
  | cons a r =>
    cases r
    cases a
    refine ⟨_, rfl, by omega, by omega, q _ H1 e1 fun hid' H' le o' => ?_⟩
    have hl : ((List.range n).map fun i : Nat => PyData.int (i : Int)).length = n := by simp
    have ht : ((n : Int)).toNat = n := Int.toNat_natCast n
    rw [hl]
    refine ⟨fun i hi => (by show i < ((n : Int)).toNat; omega), fun i hi => (by show ((n : Int)).toNat ≤ i; omega), fun i x H'' hi y => ?_⟩
    obtain ⟨rfl, rfl⟩ := y
    refine ⟨.int (i : Int), by simp [hi], Same.refl _, ?_⟩
    rw [Int.zero_add]
    exact .int _
theorem ei_str {z : Str} (h : Ev te ρ (.p (.str z))) : EvI (iStr te) ρ (z.cps.toList.map fun c => .str ⟨#[c]⟩) := fun hid H σ o E R q => h hid H σ o E _ fun v H1 e1 a => by
  cases a
  refine ⟨_, rfl, q _ H1 e1 fun hid' H' le o' => ?_⟩
  rw [List.length_map, Array.length_toList]
  refine ⟨fun i hi => hi, fun i hi => hi, fun i x H'' hi y => ?_⟩
  obtain ⟨rfl, c, hc, rfl⟩ := y
  exact ⟨.str ⟨#[c]⟩, by rw [List.getElem?_map, Array.getElem?_toList, hc]; rfl, Same.refl _, .str _⟩
/-- zip of two tuples -/
theorem ei_zipT (h : EvA ta ρ [.p (.tuple xs), .p (.tuple ys)]) : EvI (RZ.iZipA K ta) ρ ((xs.zip ys).map fun p => .tuple [p.1, p.2]) := fun hid H σ o E R q => h hid H σ o E _ fun vs H1 e1 a => by
  cases a with
  | cons a r =>
    cases r with
    | cons c r =>
      cases r
      cases a with
      | @tuple a0 vs _ n e l =>
        cases c with
        | @tuple c0 ws _ n2 e2 l2 =>
          refine ⟨_, _, _, _, rfl, .inr ⟨.of e, .of e2, q _ H1 e1 fun hid' H' le o' => ?_⟩⟩
          obtain ⟨n', e'⟩ := le _ _ n e
          obtain ⟨n2', e2'⟩ := le _ _ n2 e2
          have l' := l.le le
          have l2' := l2.le le
          have hl := l.length
          have hl2 := l2.length
          rw [List.length_map, List.length_zip]
          refine ⟨fun i hi => ⟨vs, ws, vs[i]'(by omega), ws[i]'(by omega), .of e', .of e2', List.getElem?_eq_getElem (by omega), List.getElem?_eq_getElem (by omega)⟩, fun i hi => ⟨vs, ws, .of e', .of e2', by omega⟩, fun i x H'' hi y => ?_⟩
          obtain ⟨T, x1, y1, rfl, nT, rfl, f1, f2⟩ := y
          obtain ⟨d1, ed1, ad1⟩ := l'.got (f1 vs (.of e'))
          obtain ⟨d2, ed2, ad2⟩ := l2'.got (f2 ws (.of e2'))
          refine ⟨.tuple [d1, d2], ?_, ex_new nT, .tuple (o'.new nT) upd_same (.cons (ad1.ex (ex_new nT)) (.cons (ad2.ex (ex_new nT)) .nil))⟩
          rw [List.getElem?_map, (List.getElem?_zip_eq_some (z := (d1, d2))).mpr ⟨ed1, ed2⟩]
          rfl
theorem ei_zipL (h : EvA ta ρ [.p (.list xs), .p (.list ys)]) : EvI (RZ.iZipA K ta) ρ ((xs.zip ys).map fun p => .tuple [p.1, p.2]) := fun hid H σ o E R q => h hid H σ o E _ fun vs H1 e1 a => by
  cases a with
  | cons a r =>
    cases r with
    | cons c r =>
      cases r
      cases a with
      | @list a0 vs _ n e l =>
        cases c with
        | @list c0 ws _ n2 e2 l2 =>
          refine ⟨_, _, _, _, rfl, .inl ⟨.of e, .of e2, q _ H1 e1 fun hid' H' le o' => ?_⟩⟩
          obtain ⟨n', e'⟩ := le _ _ n e
          obtain ⟨n2', e2'⟩ := le _ _ n2 e2
          have l' := l.le le
          have l2' := l2.le le
          have hl := l.length
          have hl2 := l2.length
          rw [List.length_map, List.length_zip]
          refine ⟨fun i hi => ⟨vs, ws, vs[i]'(by omega), ws[i]'(by omega), .of e', .of e2', List.getElem?_eq_getElem (by omega), List.getElem?_eq_getElem (by omega)⟩, fun i hi => ⟨vs, ws, .of e', .of e2', by omega⟩, fun i x H'' hi y => ?_⟩
          obtain ⟨T, x1, y1, rfl, nT, rfl, f1, f2⟩ := y
          obtain ⟨d1, ed1, ad1⟩ := l'.got (f1 vs (.of e'))
          obtain ⟨d2, ed2, ad2⟩ := l2'.got (f2 ws (.of e2'))
          refine ⟨.tuple [d1, d2], ?_, ex_new nT, .tuple (o'.new nT) upd_same (.cons (ad1.ex (ex_new nT)) (.cons (ad2.ex (ex_new nT)) .nil))⟩
          rw [List.getElem?_map, (List.getElem?_zip_eq_some (z := (d1, d2))).mpr ⟨ed1, ed2⟩]
          rfl
/-- enumerate of a list -/
theorem ei_enumL (h : EvA ta ρ [.p (.list xs)]) : EvI (iEnum K ta) ρ (xs.zipIdx.map fun p => .tuple [.int (p.2 : Int), p.1]) := fun hid H σ o E R q => h hid H σ o E _ fun vs H1 e1 a => by
  cases a with
  | cons a r =>
    cases r
    cases a with
    | @list a0 vs _ n e l =>
      refine ⟨_, _, rfl, .of e, q _ H1 e1 fun hid' H' le o' => ?_⟩
      obtain ⟨n', e'⟩ := le _ _ n e
      have l' := l.le le
      have hl := l.length
      rw [List.length_map, List.length_zipIdx]
      refine ⟨fun i hi => ⟨vs, vs[i]'(by omega), .of e', List.getElem?_eq_getElem (by omega)⟩, fun i hi => ⟨vs, .of e', by omega⟩, fun i x H'' hi y => ?_⟩
      obtain ⟨T, x1, rfl, nT, rfl, f1⟩ := y
      obtain ⟨d1, ed1, ad1⟩ := l'.got (f1 vs (.of e'))
      refine ⟨.tuple [.int (i : Int), d1], ?_, ex_new nT, .tuple (o'.new nT) upd_same (.cons (.int _) (.cons (ad1.ex (ex_new nT)) .nil))⟩
      rw [List.getElem?_map, List.getElem?_zipIdx, ed1]
      simp
end

/-! ### targets -/
theorem wipe_set_in {σ : L2.St} {x : Option V} {i : Nat} : ∀ {vs : List Nat}, i ∈ vs → L2.wipe (σ.set i x) vs = L2.wipe σ vs
  | [], h => by cases h
  | v :: vs, h => by
    simp only [L2.wipe]
    by_cases hv : v = i
    · subst hv
      by_cases hm : v ∈ vs
      · rw [wipe_set_in hm]
      · have key : ∀ (us : List Nat) (τ : L2.St), v ∉ us → L2.wipe (τ.set v x) us = (L2.wipe τ us).set v x := fun us => by
          induction us with
          | nil => intro τ _; rfl
          | cons u us ih =>
            intro τ hu
            simp only [L2.wipe]
            rw [ih τ fun q => hu (List.mem_cons_of_mem _ q)]
            exact List.set_comm _ _ fun q => hu (by rw [q]; exact List.mem_cons_self)
        rw [key vs σ hm, List.set_set]
    · rcases List.mem_cons.mp h with e | m
      · exact absurd e.symm hv
      · rw [wipe_set_in m]
theorem wipe_wipe {σ : L2.St} : ∀ {us vs : List Nat}, (∀ i ∈ us, i ∈ vs) → L2.wipe (L2.wipe σ us) vs = L2.wipe σ vs
  | [], vs, _ => rfl
  | u :: us, vs, h => by
    simp only [L2.wipe]
    rw [wipe_set_in (h u List.mem_cons_self), wipe_wipe fun i hi => h i (List.mem_cons_of_mem _ hi)]
def EvG (g : TG) (sl : List Nat) (d : PyData) (ρ ρ' : Env) : Prop := ∀ (hid : Hid) (H : Hp) (σ : L2.St) (v : V), EnvAt hid H σ ρ → At hid H d v → ∀ Q : L2.St → Hp → Prop,
  (∀ σ', EnvAt hid H σ' ρ' → (∀ vs, (∀ i ∈ sl, i ∈ vs) → L2.wipe σ' vs = L2.wipe σ vs) → Q σ' H) → g v σ H Q
def EvGs (g : TGs) (sl : List Nat) (ds : List PyData) (ρ ρ' : Env) : Prop := ∀ (hid : Hid) (H : Hp) (σ : L2.St) (vs : List V), EnvAt hid H σ ρ → AtL hid H ds vs → ∀ Q : L2.St → Hp → Prop,
  (∀ σ', EnvAt hid H σ' ρ' → (∀ vs, (∀ i ∈ sl, i ∈ vs) → L2.wipe σ' vs = L2.wipe σ vs) → Q σ' H) → g vs σ H Q
theorem eg_name {i : Nat} {d : PyData} {ρ : Env} : EvG (gName i) [i] d ρ (ρ.set i (some (.p d))) := fun hid H σ v E a Q q =>
  q _ (E.set i a) fun vs h => wipe_set_in (h i List.mem_cons_self)
theorem egs_nil {ρ : Env} : EvGs gNil [] [] ρ ρ := fun hid H σ vs E a Q q => by
  cases a
  exact ⟨rfl, q σ E fun _ _ => rfl⟩
theorem egs_cons {g : TG} {gs : TGs} {s1 s2 : List Nat} {d : PyData} {ds : List PyData} {ρ ρ1 ρ2 : Env} (h1 : EvG g s1 d ρ ρ1) (h2 : EvGs gs s2 ds ρ1 ρ2) : EvGs (gCons g gs) (s1 ++ s2) (d :: ds) ρ ρ2 := fun hid H σ vs E a Q q => by
  cases a with
  | cons a r => exact ⟨_, _, rfl, h1 hid H σ _ E a _ fun σ1 E1 w1 => h2 hid H σ1 _ E1 r Q fun σ2 E2 w2 => q σ2 E2 fun vs h => (w2 vs fun i hi => h i (List.mem_append_right _ hi)).trans (w1 vs fun i hi => h i (List.mem_append_left _ hi))⟩
theorem eg_tup {K : PySem.W.Frag} {n : Nat} {gs : TGs} {sl : List Nat} {ds : List PyData} {ρ ρ' : Env} (hn : ds.length = n) (h : EvGs gs sl ds ρ ρ') : EvG (gTup K n gs) sl (.tuple ds) ρ ρ' := fun hid H σ v E a Q q => by
  cases a with
  | tuple n' e l => exact ⟨_, _, rfl, .of e, by rw [l.length, hn], h hid H σ _ E l Q q⟩

/-! ### loops -/
section
variable {β : Type} {M : Mo β} {b : β} {ρ : Env} {P : Po β}
theorem sm_for {w : TI} {g : TG} {sl : List Nat} {tb : TS} {xs : List PyData} (Pv : Nat → β → Env → Prop) (hi : EvI w ρ xs) (h0 : Pv 0 b ρ)
    (hs : ∀ i d b' ρ', xs[i]? = some d → Pv i b' ρ' → ∃ ρ'', EvG g sl d ρ' ρ'' ∧ Sm M tb b' ρ'' { nx := Pv (i + 1), ct := Pv (i + 1), bk := P.nx, rt := P.rt })
    (hd : ∀ b' ρ', Pv xs.length b' ρ' → P.nx b' ρ') : Sm M (tFor w g tb) b ρ P := fun hid fr H σ E wo e qn qb qc qr =>
  hi (un hid fr) H σ wo.occ e _ fun J H1 e1 wk => by
    have w1 := wo.ex e1
    have s1 := wo.stp e1
    refine ⟨fun i m σ' H' => m = xs.length - i ∧ i ≤ xs.length ∧ ∃ hid' b' ρ', WOk M b' hid' fr H' ∧ Stp hid fr H1 hid' H' ∧ EnvAt (un hid' fr) H' σ' ρ' ∧ Pv i b' ρ', ⟨_, rfl, Nat.zero_le _, hid, b, ρ, w1, .refl, e.ex e1, h0⟩, ?_⟩
    rintro i m σ' H' ⟨rfl, hle, hid', b', ρ', w', s', e', p⟩
    obtain ⟨go, stop, yld⟩ := wk (un hid' fr) H' s'.le w'.occ
    by_cases hlt : i < xs.length
    · refine .inr ⟨go i hlt, fun σ2 H2 => ∃ hid2 b2 ρ2, WOk M b2 hid2 fr H2 ∧ Stp hid fr H1 hid2 H2 ∧ EnvAt (un hid2 fr) H2 σ2 ρ2 ∧ Pv (i + 1) b2 ρ2, fun σ2 H2 h2 => ⟨xs.length - (i + 1), by omega, rfl, hlt, h2⟩, fun x H2 y => ?_⟩
      obtain ⟨d, ed, e2, ad⟩ := yld i x H2 hlt y
      obtain ⟨ρ'', hg, hb⟩ := hs i d b' ρ' ed p
      refine hg (un hid' fr) H2 σ' x (e'.ex e2) ad _ fun σ2 E2 _ => ?_
      have w2 := w'.ex e2
      have s2 := s'.trans (w'.stp e2)
      exact hb hid' fr H2 σ2 _ w2 E2 (fun σ3 h3 H3 b3 ρ3 w3 s3 e3 p3 => ⟨h3, b3, ρ3, w3, s2.trans s3, e3, p3⟩) (fun σ3 h3 H3 b3 ρ3 w3 s3 e3 p3 => qn σ3 h3 H3 b3 ρ3 w3 (s1.trans (s2.trans s3)) e3 p3)
        (fun σ3 h3 H3 b3 ρ3 w3 s3 e3 p3 => ⟨h3, b3, ρ3, w3, s2.trans s3, e3, p3⟩) (fun v h3 H3 b3 d3 w3 s3 a3 p3 => qr v h3 H3 b3 d3 w3 (s1.trans (s2.trans s3)) a3 p3)
    · have hi : i = xs.length := by omega
      subst hi
      exact .inl ⟨stop _ (Nat.le_refl _), qn σ' hid' H' b' ρ' w' (s1.trans s') e' (hd b' ρ' p)⟩
theorem sq_for {w : TI} {g : TG} {sl : List Nat} {tb u : TS} {xs : List PyData} (Pv : Nat → β → Env → Prop) (hi : EvI w ρ xs) (h0 : Pv 0 b ρ)
    (hs : ∀ i d b' ρ', xs[i]? = some d → Pv i b' ρ' → ∃ ρ'', EvG g sl d ρ' ρ'' ∧ Sm M tb b' ρ'' { nx := Pv (i + 1), ct := Pv (i + 1), bk := fun b' ρ' => Sm M u b' ρ' P, rt := P.rt })
    (hd : ∀ b' ρ', Pv xs.length b' ρ' → Sm M u b' ρ' P) : Sm M (tSeq (tFor w g tb) u) b ρ P :=
  sm_seq (Mid := fun b' ρ' => Sm M u b' ρ' P) (sm_for Pv hi h0 hs hd) fun _ _ h => h

/-- within a list comprehension: the new list at DD is the frame's -/
structure CI (M : Mo β) (hid fr : Hid) (H1 : Hp) (DD : Addr) (hid' : Hid) (b' : β) (acc : List PyData) (ws : List V) (H' : Hp) : Prop where
  w : WOk M b' hid' (fun a => fr a ∨ a = DD) H'
  kfr : ∀ a, fr a → H' a = H1 a
  le : Le (un hid fr) H1 (un hid' fun a => fr a ∨ a = DD) H'
  dd : H' DD = some (.lst ws)
  acc : AtL (un hid' fun a => fr a ∨ a = DD) H' acc ws
  nD : H1 DD = none
theorem CI.start {hid fr : Hid} {H1 : Hp} {DD : Addr} (w1 : WOk M b hid fr H1) (hD : H1 DD = none) : CI M hid fr H1 DD hid b [] [] (upd H1 DD (.lst [])) where
  w := {
    st := (w1.ex (ex_new hD)).st
    ofr := fun a h => by
      rcases h with h | h
      · exact (w1.ex (ex_new hD)).ofr a h
      · rw [h, upd_same]
        exact fun q => nomatch q
    dj := fun a h => by
      rcases h with h | h
      · exact w1.dj a h
      · rw [h]
        exact fun q => w1.occ.new hD (.inl q) }
  kfr := (w1.stp (ex_new hD)).kfr
  le := fun a o n ha => by
    refine ⟨fun q => ?_, ex_new hD a o ha⟩
    rcases q with q | q | q
    · exact n (.inl q)
    · exact n (.inr q)
    · rw [q, hD] at ha
      cases ha
  dd := upd_same
  acc := .nil
  nD := hD
theorem CI.step {hid fr : Hid} {H1 : Hp} {DD : Addr} {hid' : Hid} {b' b2 : β} {acc : List PyData} {ws : List V} {H' H2 : Hp} {hid2 : Hid} (c : CI M hid fr H1 DD hid' b' acc ws H') (w2 : WOk M b2 hid2 (fun a => fr a ∨ a = DD) H2) (s : Stp hid' (fun a => fr a ∨ a = DD) H' hid2 H2) :
    CI M hid fr H1 DD hid2 b2 acc ws H2 where
  w := w2
  kfr := fun a h => (s.kfr a (.inl h)).trans (c.kfr a h)
  le := c.le.trans s.le
  dd := (s.kfr DD (.inr rfl)).trans c.dd
  acc := c.acc.le s.le
  nD := c.nD
theorem CI.grow {hid fr : Hid} {H1 : Hp} {DD : Addr} {hid' : Hid} {b' : β} {acc : List PyData} {ws : List V} {H' : Hp} {z : PyData} {v : V} (c : CI M hid fr H1 DD hid' b' acc ws H') (a : At (un hid' fun a => fr a ∨ a = DD) H' z v) :
    CI M hid fr H1 DD hid' b' (acc ++ [z]) (ws ++ [v]) (upd H' DD (.lst (ws ++ [v]))) := by
  have nf : ∀ x, fr x → x ≠ DD := fun x h q => by
    have := c.kfr x h
    rw [q] at this
    rw [c.dd, c.nD] at this
    cases this
  have lu : Le (un hid' fun a => fr a ∨ a = DD) H' (un hid' fun a => fr a ∨ a = DD) (upd H' DD (.lst (ws ++ [v]))) := fun x o n hx => ⟨n, by
    rw [upd_ne fun q => n (.inr (.inr q))]
    exact hx⟩
  refine ⟨⟨M.loc c.w.st fun x hx => upd_ne fun q => ?_, fun x hx q => ?_, c.w.dj⟩, fun x h => by rw [upd_ne (nf x h)]; exact c.kfr x h, c.le.trans lu, upd_same, (c.acc.snoc a).le lu, c.nD⟩
  · rw [q] at hx
    exact c.w.dj DD (.inr rfl) hx
  · by_cases e : x = DD
    · rw [e, upd_same] at q
      cases q
    · rw [upd_ne e] at q
      exact c.w.ofr x hx q
/-- [e for g in w if ..] -/
theorem em_lc {w : TI} {g : TG} {sl vs : List Nat} {tt : TT} {te : TE} {xs : List PyData} (Pv : Nat → β → List PyData → Prop) (hi : EvI w ρ xs) (hsl : ∀ i ∈ sl, i ∈ vs) (hz : xs.length ≤ 100000) (h0 : Pv 0 b [])
    (hs : ∀ i d b' acc, xs[i]? = some d → Pv i b' acc → ∃ ρ'' k, EvG g sl d (wipeD ρ vs) ρ'' ∧ EvT tt ρ'' k ∧ (k = true → Em M te b' ρ'' fun b2 e => ∃ x, e = .p x ∧ Pv (i + 1) b2 (acc ++ [x])) ∧ (k = false → Pv (i + 1) b' acc)) :
    Em M (tLc w g tt te vs) b ρ fun b' e => ∃ ys, e = .p (.list ys) ∧ Pv xs.length b' ys := fun hid fr H σ wo e Q q =>
  hi (un hid fr) H σ wo.occ e _ fun J H1 e1 wk DD hD => by
    have w1 := wo.ex e1
    have s1 := wo.stp e1
    have nD : ¬ un hid fr DD := w1.occ.new hD
    refine ⟨fun i m H' => m = xs.length - i ∧ i ≤ xs.length ∧ ∃ hid' b' acc ws, CI M hid fr H1 DD hid' b' acc ws H' ∧ acc.length ≤ i ∧ Pv i b' acc, ⟨_, rfl, Nat.zero_le _, hid, b, [], [], CI.start w1 hD, Nat.zero_le _, h0⟩, ?_⟩
    rintro i m H' ⟨rfl, hle, hid', b', acc, ws, ci, hal, p⟩
    obtain ⟨go, stop, yld⟩ := wk (un hid' fun a => fr a ∨ a = DD) H' ci.le ci.w.occ
    by_cases hlt : i < xs.length
    · refine .inr ⟨go i hlt, fun H2 => ∃ hid2 b2 acc2 ws2, CI M hid fr H1 DD hid2 b2 acc2 ws2 H2 ∧ acc2.length ≤ i + 1 ∧ Pv (i + 1) b2 acc2, fun H2 h2 => ⟨xs.length - (i + 1), by omega, rfl, hlt, h2⟩, fun x H2 y => ?_⟩
      obtain ⟨d, ed, e2, ad⟩ := yld i x H2 hlt y
      obtain ⟨ρ'', k, hg, ht, hy, hn⟩ := hs i d b' acc ed p
      have ci2 := ci.step (ci.w.ex e2) (ci.w.stp e2)
      have E0 : EnvAt (un hid' fun a => fr a ∨ a = DD) H2 (L2.wipe σ vs) (wipeD ρ vs) := ((e.ex e1).wipe vs).le ci2.le
      refine hg _ H2 _ x E0 ad _ fun σ2 E2 wp => ⟨(wp vs hsl).trans (wipe_wipe fun _ h => h), ?_⟩
      refine ht _ H2 σ2 ci2.w.occ E2 _ fun H3 e3 => ?_
      have ci3 := ci2.step (ci2.w.ex e3) (ci2.w.stp e3)
      cases k with
      | false => exact iteF ⟨hid', b', acc, ws, ci3, by omega, hn rfl⟩
      | true =>
        refine iteT (hy rfl hid' _ H3 σ2 ci3.w (E2.ex e3) _ fun v hid4 H4 b4 e4 w4 s4 a4 p4 => ?_)
        obtain ⟨z, rfl, p4⟩ := p4
        have ci4 := ci3.step w4 s4
        have hwl := ci4.acc.length
        refine ⟨ws, ci4.dd, by rw [hwl]; exact Nat.lt_of_lt_of_le (by omega : acc.length < 100001) (by decide), hid4, b4, acc ++ [z], ws ++ [v], ci4.grow a4, by rw [List.length_append, List.length_singleton]; omega, p4⟩
    · have hi : i = xs.length := by omega
      subst hi
      refine .inl ⟨stop _ (Nat.le_refl _), q _ hid' H' b' _ ⟨ci.w.st, fun a h => ci.w.ofr a (.inl h), fun a h => ci.w.dj a (.inl h)⟩ (s1.trans ⟨ci.kfr, ci.le.trans (.less fun a h => h.elim .inl fun h => .inr (.inl h))⟩) ?_ ⟨acc, rfl, p⟩⟩
      refine .list (fun z => ?_) ci.dd (ci.acc.le (.less fun a h => h.elim .inl fun h => .inr (.inl h)))
      rcases z with z | z
      · exact ci.w.dj DD (.inr rfl) z
      · exact nD (.inr z)
end
end DL
set_option Elab.async false
set_option linter.all false
set_option maxRecDepth 100000
set_option maxHeartbeats 4000000
namespace DL
open PySem PySem.Spec PyProof.Rows L2

/-! ### comprehensions without a state -/
theorem map_get {α β : Type} {l : List α} {f : α → β} {i : Nat} {y : β} (h : (l.map f)[i]? = some y) : ∃ x, l[i]? = some x ∧ f x = y := by
  rw [List.getElem?_map] at h
  cases hc : l[i]? with
  | none => rw [hc] at h; cases h
  | some c =>
    rw [hc] at h
    cases h
    exact ⟨c, rfl, rfl⟩
section
variable {K : PySem.W.Frag} {ρ : Env}
theorem ev_lcF {α : Type} {cs : List α} {φ : α → PyData} {w : TI} {g : TG} {sl vs : List Nat} {tt : TT} {te : TE} (f : α → Bool) (v : α → PyData) (hi : EvI w ρ (cs.map φ)) (hsl : ∀ i ∈ sl, i ∈ vs) (hz : cs.length ≤ 100000)
    (hs : ∀ d, d ∈ cs → ∃ ρ'', EvG g sl (φ d) (wipeD ρ vs) ρ'' ∧ EvT tt ρ'' (f d) ∧ (f d = true → Ev te ρ'' (.p (v d)))) : Ev (tLc w g tt te vs) ρ (.p (.list ((cs.filter f).map v))) := by
  refine Em.ev ?_
  refine (em_lc (M := Mo.emp) (b := ()) (fun i _ acc => acc = ((cs.take i).filter f).map v) hi hsl (by rw [List.length_map]; exact hz) rfl fun i d b' acc hd p => ?_).imp fun b' d h => ?_
  · rw [List.getElem?_map] at hd
    cases hc : cs[i]? with
    | none => rw [hc] at hd; cases hd
    | some c =>
      rw [hc] at hd
      cases hd
      obtain ⟨ρ'', hg, ht, he⟩ := hs c (List.mem_of_getElem? hc)
      have tk : cs.take (i + 1) = cs.take i ++ [c] := by
        rw [List.take_add_one, hc]
        rfl
      refine ⟨ρ'', f c, hg, ht, fun h => (he h).em.imp fun b2 e q => ⟨v c, q.2, ?_⟩, fun h => ?_⟩
      · rw [tk, List.filter_append, List.map_append, p, List.filter_cons, if_pos h]
        rfl
      · rw [tk, List.filter_append, List.map_append, p, List.filter_cons, if_neg (by rw [h]; decide)]
        simp
  · obtain ⟨ys, rfl, p⟩ := h
    rw [List.length_map] at p
    rw [p, List.take_length]
theorem ev_lc {w : TI} {g : TG} {sl vs : List Nat} {tt : TT} {te : TE} {xs : List PyData} (f : PyData → Bool) (v : PyData → PyData) (hi : EvI w ρ xs) (hsl : ∀ i ∈ sl, i ∈ vs) (hz : xs.length ≤ 100000)
    (hs : ∀ d, d ∈ xs → ∃ ρ'', EvG g sl d (wipeD ρ vs) ρ'' ∧ EvT tt ρ'' (f d) ∧ (f d = true → Ev te ρ'' (.p (v d)))) : Ev (tLc w g tt te vs) ρ (.p (.list ((xs.filter f).map v))) :=
  ev_lcF (φ := fun d => d) f v (by rw [List.map_id'']; exact hi; intro _; rfl) hsl hz hs
/-- without a test, items told by others -/
theorem ev_lcM {α : Type} {cs : List α} {φ : α → PyData} {w : TI} {g : TG} {sl vs : List Nat} {te : TE} (v : α → PyData) (hi : EvI w ρ (cs.map φ)) (hsl : ∀ i ∈ sl, i ∈ vs) (hz : cs.length ≤ 100000)
    (hs : ∀ d, d ∈ cs → ∃ ρ'', EvG g sl (φ d) (wipeD ρ vs) ρ'' ∧ Ev te ρ'' (.p (v d))) : Ev (tLc w g tYes te vs) ρ (.p (.list (cs.map v))) := by
  have h := ev_lcF (fun _ => true) v hi hsl hz fun d hd => by
    obtain ⟨ρ'', hg, he⟩ := hs d hd
    exact ⟨ρ'', hg, et_yes, fun _ => he⟩
  have e : cs.filter (fun _ => true) = cs := List.filter_eq_self.mpr fun _ _ => rfl
  rw [e] at h
  exact h
/-- without a test -/
theorem ev_lcA {w : TI} {g : TG} {sl vs : List Nat} {te : TE} {xs : List PyData} (v : PyData → PyData) (hi : EvI w ρ xs) (hsl : ∀ i ∈ sl, i ∈ vs) (hz : xs.length ≤ 100000)
    (hs : ∀ d, d ∈ xs → ∃ ρ'', EvG g sl d (wipeD ρ vs) ρ'' ∧ Ev te ρ'' (.p (v d))) : Ev (tLc w g tYes te vs) ρ (.p (.list (xs.map v))) := by
  have h := ev_lc (fun _ => true) v hi hsl hz fun d hd => by
    obtain ⟨ρ'', hg, he⟩ := hs d hd
    exact ⟨ρ'', hg, et_yes, fun _ => he⟩
  have e : xs.filter (fun _ => true) = xs := List.filter_eq_self.mpr fun _ _ => rfl
  rw [e] at h
  exact h

/-! two clauses -/
/-- the invariant of a heap within: the new list at DD beside all else -/
structure CP (hid : Hid) (H1 : Hp) (DD : Addr) (acc : List PyData) (ws : List V) (H' : Hp) : Prop where
  oc : Occ (fun a => hid a ∨ a = DD) H'
  ex : Ex H1 H'
  dd : H' DD = some (.lst ws)
  acc : AtL (fun a => hid a ∨ a = DD) H' acc ws
  nD : H1 DD = none
theorem CP.start {hid : Hid} {H1 : Hp} {DD : Addr} (o : Occ hid H1) (hD : H1 DD = none) : CP hid H1 DD [] [] (upd H1 DD (.lst [])) where
  oc := fun a h => by
    rcases h with h | h
    · exact o.ex (ex_new hD) a h
    · rw [h, upd_same]
      exact fun q => nomatch q
  ex := ex_new hD
  dd := upd_same
  acc := .nil
  nD := hD
theorem CP.step {hid : Hid} {H1 : Hp} {DD : Addr} {acc : List PyData} {ws : List V} {H' H2 : Hp} (c : CP hid H1 DD acc ws H') (e : Ex H' H2) : CP hid H1 DD acc ws H2 := ⟨c.oc.ex e, c.ex.trans e, e _ _ c.dd, c.acc.ex e, c.nD⟩
theorem CP.le {hid : Hid} {H1 : Hp} {DD : Addr} {acc : List PyData} {ws : List V} {H' : Hp} (c : CP hid H1 DD acc ws H') : Le hid H1 (fun a => hid a ∨ a = DD) H' := fun a o n h =>
  ⟨fun q => q.elim n fun q => (by rw [q, c.nD] at h; cases h), c.ex a o h⟩
theorem CP.grow {hid : Hid} {H1 : Hp} {DD : Addr} {acc : List PyData} {ws : List V} {H' : Hp} {z : PyData} {v : V} (c : CP hid H1 DD acc ws H') (a : At (fun a => hid a ∨ a = DD) H' z v) : CP hid H1 DD (acc ++ [z]) (ws ++ [v]) (upd H' DD (.lst (ws ++ [v]))) := by
  have lu : Le (fun a => hid a ∨ a = DD) H' (fun a => hid a ∨ a = DD) (upd H' DD (.lst (ws ++ [v]))) := fun x o n hx => ⟨n, by
    rw [upd_ne fun q => n (.inr q)]
    exact hx⟩
  refine ⟨fun x hx q => ?_, fun x o hx => ?_, upd_same, (c.acc.snoc a).le lu, c.nD⟩
  · by_cases e : x = DD
    · rw [e, upd_same] at q
      cases q
    · rw [upd_ne e] at q
      exact c.oc x hx q
  · rw [upd_ne (ne_of_none hx c.nD)]
    exact c.ex x o hx
theorem CP.fin {hid : Hid} {H1 : Hp} {DD : Addr} {acc : List PyData} {ws : List V} {H' : Hp} (c : CP hid H1 DD acc ws H') (o : Occ hid H1) : At hid H' (.list acc) (.ref DD) :=
  .list (fun q => o DD q c.nD) c.dd (c.acc.le (.less fun _ h => .inl h))
def ExB (DD : Addr) (H H' : Hp) : Prop := ∀ a u, a ≠ DD → H a = some u → H' a = some u
theorem ev_lc2 {w w1 : TI} {g g1 : TG} {sl sl1 vs vs1 : List Nat} {tt1 : TT} {te : TE} {α γ : Type} {xs : List α} {φ : α → PyData} (ys : α → List γ) (ψ : α → γ → PyData) (f : α → γ → Bool) (v : α → γ → PyData) (hi : EvI w ρ (xs.map φ)) (hsl : ∀ i ∈ sl, i ∈ vs) (hsl1 : ∀ i ∈ sl1, i ∈ vs1)
    (hz : (xs.flatMap fun d => ((ys d).filter (f d)).map (v d)).length ≤ 100000)
    (hs : ∀ d, d ∈ xs → ∃ ρ1, EvG g sl (φ d) (wipeD ρ vs) ρ1 ∧ EvI w1 ρ1 ((ys d).map (ψ d)) ∧ ∀ e, e ∈ ys d → ∃ ρ2, EvG g1 sl1 (ψ d e) (wipeD ρ1 vs1) ρ2 ∧ EvT tt1 ρ2 (f d e) ∧ (f d e = true → Ev te ρ2 (.p (v d e)))) :
    Ev (tLc2 w g tYes w1 g1 tt1 te vs vs1) ρ (.p (.list (xs.flatMap fun d => ((ys d).filter (f d)).map (v d)))) := fun hid H σ o E Q q =>
  hi hid H σ o E _ fun J H1 e1 wk DD hD => by
    have o1 := o.ex e1
    have allz : ∀ i, ((xs.take i).flatMap fun d => ((ys d).filter (f d)).map (v d)).length ≤ 100000 := fun i => by
      refine Nat.le_trans ?_ hz
      conv => rhs; rw [← List.take_append_drop i xs, List.flatMap_append, List.length_append]
      exact Nat.le_add_right _ _
    refine ⟨fun i m H' => m = xs.length - i ∧ i ≤ xs.length ∧ ∃ ws, CP hid H1 DD ((xs.take i).flatMap fun d => ((ys d).filter (f d)).map (v d)) ws H', ⟨_, rfl, Nat.zero_le _, [], CP.start o1 hD⟩, ?_⟩
    rintro i m H' ⟨rfl, hle, ws, c⟩
    obtain ⟨go, stop, yld⟩ := wk _ H' c.le c.oc
    rw [List.length_map] at go stop yld
    by_cases hlt : i < xs.length
    · refine .inr ⟨go i hlt, fun H2 => ∃ ws, CP hid H1 DD ((xs.take (i + 1)).flatMap fun d => ((ys d).filter (f d)).map (v d)) ws H2, fun H2 h2 => ⟨xs.length - (i + 1), by omega, rfl, hlt, h2⟩, fun x H2 y => ?_⟩
      obtain ⟨d0, ed0, e2, ad⟩ := yld i x H2 hlt y
      obtain ⟨d, ed, rfl⟩ := map_get ed0
      obtain ⟨ρ1, hg, hi1, hs1⟩ := hs d (List.mem_of_getElem? ed)
      have tk : xs.take (i + 1) = xs.take i ++ [d] := by
        rw [List.take_add_one, ed]
        rfl
      have tkf : ((xs.take (i + 1)).flatMap fun d => ((ys d).filter (f d)).map (v d)) = ((xs.take i).flatMap fun d => ((ys d).filter (f d)).map (v d)) ++ ((ys d).filter (f d)).map (v d) := by
        rw [tk, List.flatMap_append]
        simp
      have c2 := c.step e2
      refine hg _ H2 _ x (((E.ex e1).wipe vs).le c2.le) ad _ fun σ2 E2 wp => ⟨(wp vs hsl).trans (wipe_wipe fun _ h => h), ?_⟩
      refine et_yes _ H2 σ2 c2.oc E2 _ fun H3 e3 => ?_
      have c3 := c2.step e3
      refine iteT (hi1 _ H3 σ2 c3.oc (E2.ex e3) _ fun J1 H4 e4' wk1 => ?_)
      have c4 := c3.step e4'
      have e4 : Ex H2 H4 := e3.trans e4'
      refine ⟨fun j k H => k = (ys d).length - j ∧ j ≤ (ys d).length ∧ ExB DD H4 H ∧ ∃ ws, CP hid H1 DD (((xs.take i).flatMap fun d => ((ys d).filter (f d)).map (v d)) ++ (((ys d).take j).filter (f d)).map (v d)) ws H,
        ⟨_, rfl, Nat.zero_le _, fun a u _ h => h, ws, by simpa using c4⟩, ?_⟩
      rintro j k H5 ⟨rfl, hjl, ex5, ws5, c5⟩
      have le5 : Le (fun a => hid a ∨ a = DD) H4 (fun a => hid a ∨ a = DD) H5 := fun a u n h => ⟨n, ex5 a u (fun q => n (.inr q)) h⟩
      obtain ⟨go1, stop1, yld1⟩ := wk1 _ H5 le5 c5.oc
      rw [List.length_map] at go1 stop1 yld1
      by_cases hlt1 : j < (ys d).length
      · refine .inr ⟨go1 j hlt1, fun H6 => ExB DD H4 H6 ∧ ∃ ws, CP hid H1 DD (((xs.take i).flatMap fun d => ((ys d).filter (f d)).map (v d)) ++ (((ys d).take (j + 1)).filter (f d)).map (v d)) ws H6,
          fun H6 h6 => ⟨(ys d).length - (j + 1), by omega, rfl, hlt1, h6⟩, fun x1 H6 y1 => ?_⟩
        obtain ⟨d10, ed10, e6, ad1⟩ := yld1 j x1 H6 hlt1 y1
        obtain ⟨d1, ed1, rfl⟩ := map_get ed10
        obtain ⟨ρ2, hg1, ht1, he1⟩ := hs1 d1 (List.mem_of_getElem? ed1)
        have tk1 : (ys d).take (j + 1) = (ys d).take j ++ [d1] := by
          rw [List.take_add_one, ed1]
          rfl
        have c6 := c5.step e6
        have exs : ∀ {Ha Hb : Hp}, ExB DD H4 Ha → Ex Ha Hb → ExB DD H4 Hb := fun {Ha Hb} h1 h2 a u n h => h2 a u (h1 a u n h)
        refine hg1 _ H6 _ x1 (((E2.ex e4).wipe vs1).le (le5.trans (.of_ex e6))) ad1 _ fun σ3 E3 wp1 => ⟨(wp1 vs1 hsl1).trans (wipe_wipe fun _ h => h), ?_⟩
        refine ht1 _ H6 σ3 c6.oc E3 _ fun H7 e7 => ?_
        have c7 := c6.step e7
        cases hf : f d d1 with
        | false =>
          refine iteF ⟨exs ex5 (e6.trans e7), ws5, ?_⟩
          rw [tk1, List.filter_append, List.map_append, List.filter_cons, if_neg (by rw [hf]; decide)]
          simpa using c7
        | true =>
          refine iteT (he1 hf _ H7 σ3 c7.oc (E3.ex e7) _ fun vv H8 e8 a8 => ?_)
          have c8 := c7.step e8
          have hwl := c8.acc.length
          refine ⟨ws5, c8.dd, ?_, fun a u n ha => ?_, ws5 ++ [vv], ?_⟩
          · rw [hwl, List.length_append]
            have h1 := allz (i + 1)
            rw [tkf, List.length_append] at h1
            have h2 : ((((ys d).take j).filter (f d)).map (v d)).length ≤ (((ys d).filter (f d)).map (v d)).length := by
              rw [List.length_map, List.length_map]
              exact ((List.take_sublist j (ys d)).filter _).length_le
            exact Nat.lt_of_lt_of_le (by omega : _ < 100001) (by decide)
          · rw [upd_ne n]
            exact exs ex5 (e6.trans (e7.trans e8)) a u n ha
          · rw [tk1, List.filter_append, List.map_append, List.filter_cons, if_pos hf, ← List.append_assoc]
            exact c8.grow a8
      · have hj : j = (ys d).length := by omega
        subst hj
        refine .inl ⟨stop1 _ (Nat.le_refl _), ws5, ?_⟩
        rw [List.take_length] at c5
        rw [tkf]
        exact c5
    · have hi : i = xs.length := by omega
      subst hi
      rw [List.take_length] at c
      exact .inl ⟨stop _ (Nat.le_refl _), q _ H' (e1.trans c.ex) (c.fin o1)⟩
end

/-! ### dicts -/
section
variable {κ : Type} [DecidableEq κ]
def valD (kvs : List (κ × PyData)) (k : κ) : Option PyData := (kvs.find? fun kv => decide (kv.1 = k)).map (·.2)
def putD (kvs : List (κ × PyData)) (k : κ) (v : PyData) : List (κ × PyData) :=
  if k ∈ kvs.map (·.1) then kvs.map (fun kv => if kv.1 = k then (kv.1, v) else kv) else kvs ++ [(k, v)]
theorem val_at {hid : Hid} {H : Hp} {k : κ} {d : PyData} : ∀ {kvs : List (κ × PyData)} {ws : List (κ × V)}, ws.map (·.1) = kvs.map (·.1) → AtL hid H (kvs.map (·.2)) (ws.map (·.2)) → valD kvs k = some d → ∃ v, valV ws k = some v ∧ At hid H d v
  | [], _, _, _, e => by cases e
  | p :: r, [], hk, _, e => by cases hk
  | p :: r, q :: s, hk, hv, e => by
    rw [List.map_cons, List.map_cons] at hk
    injection hk with h1 h2
    rw [List.map_cons, List.map_cons] at hv
    cases hv with
    | cons a rest =>
      by_cases hq : p.1 = k
      · have e1 : valD (p :: r) k = some p.2 := by unfold valD; rw [List.find?_cons, decide_eq_true hq]; rfl
        rw [e1] at e
        cases e
        exact ⟨q.2, valV_pos (h1.trans hq), a⟩
      · have e1 : valD (p :: r) k = valD r k := by unfold valD; rw [List.find?_cons, decide_eq_false hq]
        rw [e1] at e
        obtain ⟨v, hv, av⟩ := val_at h2 rest e
        exact ⟨v, by rw [valV_neg (fun z => hq (h1.symm.trans z))]; exact hv, av⟩
theorem any_keys {ws : List (κ × V)} (k : κ) : (ws.any fun kv => decide (kv.1 = k)) = decide (k ∈ ws.map (·.1)) := by
  induction ws with
  | nil => rfl
  | cons p r ih =>
    rw [List.any_cons, ih, List.map_cons]
    by_cases h : p.1 = k
    · subst h; simp
    · have h' : ¬ k = p.1 := fun z => h z.symm
      simp [h, h']
theorem put_at {hid : Hid} {H : Hp} {k : κ} {d : PyData} {v : V} {kvs : List (κ × PyData)} {ws : List (κ × V)} (hk : ws.map (·.1) = kvs.map (·.1)) (hv : AtL hid H (kvs.map (·.2)) (ws.map (·.2))) (a : At hid H d v) :
    (putK ws k v).map (·.1) = (putD kvs k d).map (·.1) ∧ AtL hid H ((putD kvs k d).map (·.2)) ((putK ws k v).map (·.2)) := by
  unfold putK putD
  rw [any_keys, hk]
  by_cases h : k ∈ kvs.map (·.1)
  · rw [if_pos h, if_pos (by rw [decide_eq_true h])]
    clear h
    induction kvs generalizing ws with
    | nil =>
      cases ws with
      | nil => exact ⟨rfl, .nil⟩
      | cons q s => cases hk
    | cons p r ih =>
      cases ws with
      | nil => cases hk
      | cons q s =>
        rw [List.map_cons, List.map_cons] at hk
        injection hk with h1 h2
        rw [List.map_cons, List.map_cons] at hv
        cases hv with
        | cons a1 rest =>
          obtain ⟨i1, i2⟩ := ih h2 rest
          rw [List.map_cons, List.map_cons, List.map_cons, List.map_cons, i1]
          by_cases hq : p.1 = k
          · rw [if_pos hq, if_pos (h1.trans hq)]
            exact ⟨by rw [h1], .cons a i2⟩
          · rw [if_neg hq, if_neg fun z => hq (h1.symm.trans z)]
            exact ⟨by rw [h1], .cons a1 i2⟩
  · rw [if_neg h, if_neg (by rw [decide_eq_false h]; decide)]
    rw [List.map_append, List.map_append, hk, List.map_append, List.map_append]
    exact ⟨rfl, hv.snoc a⟩
theorem putD_len (kvs : List (κ × PyData)) (k : κ) (v : PyData) : (putD kvs k v).length ≤ kvs.length + 1 := by
  unfold putD
  split
  · rw [List.length_map]; omega
  · rw [List.length_append]; simp
theorem len_keys {α γ : Type} {kvs : List (κ × α)} {ws : List (κ × γ)} (hk : ws.map (·.1) = kvs.map (·.1)) : ws.length = kvs.length := by
  have := congrArg List.length hk
  rwa [List.length_map, List.length_map] at this
end
/-- keys as values -/
def keyD : Key → PyData
  | .inl i => .int i
  | .inr x => .str x
theorem keyD_at {hid : Hid} {H : Hp} {k : Key} {v : V} (h : At hid H (keyD k) v) : v = kV k := by
  cases k with
  | inl i => cases h; rfl
  | inr x => cases h; rfl
theorem keysD_at {hid : Hid} {H : Hp} : ∀ {ks : List Key} {vs : List V}, AtL hid H (ks.map keyD) vs → vs = ks.map kV
  | [], _, h => by cases h; rfl
  | k :: ks, _, h => by
    cases h with
    | cons a r => rw [keyD_at a, keysD_at r]; rfl
section
variable {ρ : Env} {td ty : TE} {d : PyData}
theorem ev_dgetK {kvs : List (Key × PyData)} {k : Key} (h1 : Ev td ρ (.dk kvs)) (h2 : Ev ty ρ (.p (keyD k))) (h : valD kvs k = some d) : Ev (tDGet td ty) ρ (.p d) := fun hid H σ o E Q q =>
  h1 hid H σ o E _ fun x H1 e1 a1 => h2 hid H1 σ (o.ex e1) (E.ex e1) _ fun y H2 e2 a2 => by
    obtain ⟨a, ws, rfl, n, ha, hk, hv⟩ := a1.le (.of_ex e2)
    obtain ⟨v, ev, av⟩ := val_at hk hv h
    have := keyD_at a2
    subst this
    exact ⟨a, v, rfl, .inl ⟨ws, k, .inl ha, rfl, ev.symm⟩, q v H2 (e1.trans e2) av⟩
theorem ev_dgetT {kvs : List (List Key × PyData)} {k : List Key} (h1 : Ev td ρ (.dt kvs)) (h2 : Ev ty ρ (.p (.tuple (k.map keyD)))) (h : valD kvs k = some d) : Ev (tDGet td ty) ρ (.p d) := fun hid H σ o E Q q =>
  h1 hid H σ o E _ fun x H1 e1 a1 => h2 hid H1 σ (o.ex e1) (E.ex e1) _ fun y H2 e2 a2 => by
    obtain ⟨a, ws, rfl, n, ha, hk, hv⟩ := a1.le (.of_ex e2)
    obtain ⟨v, ev, av⟩ := val_at hk hv h
    cases a2 with
    | tuple n2 e l =>
      have := keysD_at l
      subst this
      exact ⟨a, v, rfl, .inr ⟨ws, k, _, .inl ha, rfl, e, ev.symm⟩, q v H2 (e1.trans e2) av⟩
/-- {k: v for ..} of int and text keys -/
theorem ev_dc {w : TI} {g : TG} {sl vs : List Nat} {tk tv : TE} {α : Type} {xs : List α} {φ : α → PyData} (kf : α → Key) (v : α → PyData) (hi : EvI w ρ (xs.map φ)) (hsl : ∀ i ∈ sl, i ∈ vs) (hz : xs.length ≤ 100000)
    (hs : ∀ d, d ∈ xs → ∃ ρ'', EvG g sl (φ d) (wipeD ρ vs) ρ'' ∧ Ev tk ρ'' (.p (keyD (kf d))) ∧ Ev tv ρ'' (.p (v d))) : Ev (tDc w g tYes tk tv vs) ρ (.dk (xs.foldl (fun acc d => putD acc (kf d) (v d)) [])) := fun hid H σ o E Q q =>
  hi hid H σ o E _ fun J H1 e1 wk DD hD => by
    have o1 := o.ex e1
    let acc := fun i => (xs.take i).foldl (fun acc d => putD acc (kf d) (v d)) ([] : List (Key × PyData))
    have accl : ∀ i, (acc i).length ≤ i := fun i => by
      have key : ∀ (l : List α) (a : List (Key × PyData)), (l.foldl (fun acc d => putD acc (kf d) (v d)) a).length ≤ a.length + l.length := fun l => by
        induction l with
        | nil => intro a; exact Nat.le_refl _
        | cons x r ih =>
          intro a
          rw [List.foldl_cons, List.length_cons]
          have := ih (putD a (kf x) (v x))
          have := putD_len a (kf x) (v x)
          omega
      have := key (xs.take i) []
      rw [List.length_nil, List.length_take] at this
      show ((xs.take i).foldl (fun acc d => putD acc (kf d) (v d)) ([] : List (Key × PyData))).length ≤ i
      omega
    refine ⟨fun i m H' => m = xs.length - i ∧ i ≤ xs.length ∧ Occ (fun a => hid a ∨ a = DD) H' ∧ Ex H1 H' ∧ ∃ ws, H' DD = some (.dK ws) ∧ ws.map (·.1) = (acc i).map (·.1) ∧ AtL (fun a => hid a ∨ a = DD) H' ((acc i).map (·.2)) (ws.map (·.2)),
      ⟨_, rfl, Nat.zero_le _, fun a h => ?_, ex_new hD, [], upd_same, rfl, .nil⟩, ?_⟩
    · rcases h with h | h
      · exact o1.ex (ex_new hD) a h
      · rw [h, upd_same]
        exact fun q => nomatch q
    rintro i m H' ⟨rfl, hle, oc, ex, ws, dd, hk, hv⟩
    have le : Le hid H1 (fun a => hid a ∨ a = DD) H' := fun a u n h => ⟨fun q => q.elim n fun q => (by rw [q, hD] at h; cases h), ex a u h⟩
    obtain ⟨go, stop, yld⟩ := wk _ H' le oc
    rw [List.length_map] at go stop yld
    by_cases hlt : i < xs.length
    · refine .inr ⟨go i hlt, fun H' => Occ (fun a => hid a ∨ a = DD) H' ∧ Ex H1 H' ∧ ∃ ws, H' DD = some (.dK ws) ∧ ws.map (·.1) = (acc (i + 1)).map (·.1) ∧ AtL (fun a => hid a ∨ a = DD) H' ((acc (i + 1)).map (·.2)) (ws.map (·.2)),
        fun H2 h2 => ⟨xs.length - (i + 1), by omega, rfl, hlt, h2⟩, fun x H2 y => ?_⟩
      obtain ⟨d0, ed0, e2, ad⟩ := yld i x H2 hlt y
      obtain ⟨d, ed, rfl⟩ := map_get ed0
      obtain ⟨ρ'', hg, hk1, hv1⟩ := hs d (List.mem_of_getElem? ed)
      have tk : acc (i + 1) = putD (acc i) (kf d) (v d) := by
        show (xs.take (i + 1)).foldl _ _ = _
        rw [List.take_add_one, ed, List.foldl_append]
        rfl
      refine hg _ H2 _ x (((E.ex e1).wipe vs).le (le.trans (.of_ex e2))) ad _ fun σ2 E2 wp => ⟨(wp vs hsl).trans (wipe_wipe fun _ h => h), ?_⟩
      refine et_yes _ H2 σ2 (oc.ex e2) E2 _ fun H3 e3 => ?_
      refine iteT (hk1 _ H3 σ2 ((oc.ex e2).ex e3) (E2.ex e3) _ fun yk H4 e4' a4 => hv1 _ H4 σ2 (((oc.ex e2).ex e3).ex e4') ((E2.ex e3).ex e4') _ fun z H5 e5 a5 => ?_)
      have e4 : Ex H2 H4 := e3.trans e4'
      have e25 : Ex H' H5 := e2.trans (e4.trans e5)
      have a4' := keyD_at a4
      subst a4'
      have hws : ws.length = (acc i).length := len_keys hk
      obtain ⟨p1, p2⟩ := put_at (k := kf d) hk (hv.ex e25) a5
      have lu : Le (fun a => hid a ∨ a = DD) H5 (fun a => hid a ∨ a = DD) (upd H5 DD (.dK (putK ws (kf d) z))) := fun x o n hx => ⟨n, by
        rw [upd_ne fun q => n (.inr q)]
        exact hx⟩
      refine ⟨ws, kf d, rfl, e25 _ _ dd, by rw [hws]; have := accl i; exact Nat.lt_of_lt_of_le (by omega : _ < 100001) (by decide), fun a h q => ?_, fun a u h => ?_, putK ws (kf d) z, upd_same, ?_, ?_⟩
      · by_cases e : a = DD
        · rw [e, upd_same] at q
          cases q
        · rw [upd_ne e] at q
          exact (oc.ex e25) a h q
      · rw [upd_ne (ne_of_none h hD)]
        exact e25 _ _ (ex a u h)
      · rw [tk]; exact p1
      · rw [tk]; exact p2.le lu
    · have hi : i = xs.length := by omega
      subst hi
      have ea : acc xs.length = xs.foldl (fun acc d => putD acc (kf d) (v d)) [] := by
        show (xs.take xs.length).foldl _ _ = _
        rw [List.take_length]
      rw [ea] at hk hv
      exact .inl ⟨stop _ (Nat.le_refl _), q _ H' (e1.trans ex) ⟨DD, ws, rfl, fun q => o1 DD q hD, dd, hk, hv.le (.less fun _ h => .inl h)⟩⟩
end

/-! ### isinstance -/
def tyName : PyData → String
  | .none => "NoneType"
  | .bool _ => "bool"
  | .int _ => "int"
  | .str _ => "str"
  | .list _ => "list"
  | .tuple _ => "tuple"
  | .dict _ => "dict"
theorem At.ty {K : PySem.W.Frag} {hid : Hid} {H : Hp} {d : PyData} {v : V} (h : At hid H d v) : TyX K H v (.type (tyName d)) := by
  cases h with
  | non => exact .base .non
  | bool b => exact .base (.bl b)
  | int i => exact .base (.int i)
  | str x => exact .base (.str x)
  | list n e l => exact .base (.lst e)
  | tuple n e l => exact .base (.tup e)
  | dict0 n e => exact .base (.dK e)
theorem rc_isi {K : PySem.W.Frag} {d : PyData} {T : String} {b : Bool} (h : kitB (tyName d) T = some b) : Rc (rIsi K) [.p d, .v (.ty T)] (.p (.bool b)) := fun hid H us o a Q q => by
  cases a with
  | cons a r =>
    cases r with
    | cons a2 r =>
      cases r
      obtain rfl := a2
      exact ⟨_, _, _, _, b, rfl, .ty T, a.ty, kit_ty h, q _ _ (Same.refl H) (.bool b)⟩
theorem rc_isiT2 {K : PySem.W.Frag} {d : PyData} {T1 T2 : String} {b1 b2 : Bool} (h1 : kitB (tyName d) T1 = some b1) (h2 : kitB (tyName d) T2 = some b2) : Rc (rIsiT K) [.p d, .tys [T1, T2]] (.p (.bool (b1 || b2))) := fun hid H us o a Q q => by
  cases a with
  | cons a r =>
    cases r with
    | cons a2 r =>
      cases r
      obtain ⟨tp, rfl, n, ht⟩ := a2
      refine ⟨_, tp, _, _, _, b1 || b2, rfl, ht, .cons (.ty T1) (.cons (.ty T2) .nil), a.ty, ?_, q _ _ (Same.refl H) (.bool _)⟩
      refine kitAny_cons (kit_ty h1) (fun e => ?_) fun e => by rw [e]; rfl
      rw [e, Bool.false_or]
      refine kitAny_cons (kit_ty h2) (fun e2 => ?_) fun e2 => e2
      rw [e2]
      exact kitAny_nil
theorem ev_tys {ρ : Env} {T1 T2 : String} : Ev (tTup (tCons (tC (.ty T1)) (tCons (tC (.ty T2)) tNil))) ρ (.tys [T1, T2]) := fun hid H σ o E Q q =>
  ⟨by show 2 ≤ sizeLine; decide, fun p hp => q _ _ (ex_new hp) ⟨p, rfl, o.new hp, upd_same⟩⟩
def isStrD : PyData → Bool | .str _ => true | _ => false
def isIntD : PyData → Bool | .int _ | .bool _ => true | _ => false
def isBoolD : PyData → Bool | .bool _ => true | _ => false
def isTupD : PyData → Bool | .tuple _ => true | _ => false
def isListD : PyData → Bool | .list _ => true | _ => false
theorem kit_str : ∀ d : PyData, kitB (tyName d) "str" = some (isStrD d)
  | .none => (by decide +kernel : kitB "NoneType" "str" = some false)
  | .bool _ => (by decide +kernel : kitB "bool" "str" = some false)
  | .int _ => (by decide +kernel : kitB "int" "str" = some false)
  | .str _ => (by decide +kernel : kitB "str" "str" = some true)
  | .list _ => (by decide +kernel : kitB "list" "str" = some false)
  | .tuple _ => (by decide +kernel : kitB "tuple" "str" = some false)
  | .dict _ => (by decide +kernel : kitB "dict" "str" = some false)
theorem kit_int : ∀ d : PyData, kitB (tyName d) "int" = some (isIntD d)
  | .none => (by decide +kernel : kitB "NoneType" "int" = some false)
  | .bool _ => (by decide +kernel : kitB "bool" "int" = some true)
  | .int _ => (by decide +kernel : kitB "int" "int" = some true)
  | .str _ => (by decide +kernel : kitB "str" "int" = some false)
  | .list _ => (by decide +kernel : kitB "list" "int" = some false)
  | .tuple _ => (by decide +kernel : kitB "tuple" "int" = some false)
  | .dict _ => (by decide +kernel : kitB "dict" "int" = some false)
theorem kit_bool : ∀ d : PyData, kitB (tyName d) "bool" = some (isBoolD d)
  | .none => (by decide +kernel : kitB "NoneType" "bool" = some false)
  | .bool _ => (by decide +kernel : kitB "bool" "bool" = some true)
  | .int _ => (by decide +kernel : kitB "int" "bool" = some false)
  | .str _ => (by decide +kernel : kitB "str" "bool" = some false)
  | .list _ => (by decide +kernel : kitB "list" "bool" = some false)
  | .tuple _ => (by decide +kernel : kitB "tuple" "bool" = some false)
  | .dict _ => (by decide +kernel : kitB "dict" "bool" = some false)
theorem kit_tup : ∀ d : PyData, kitB (tyName d) "tuple" = some (isTupD d)
  | .none => (by decide +kernel : kitB "NoneType" "tuple" = some false)
  | .bool _ => (by decide +kernel : kitB "bool" "tuple" = some false)
  | .int _ => (by decide +kernel : kitB "int" "tuple" = some false)
  | .str _ => (by decide +kernel : kitB "str" "tuple" = some false)
  | .list _ => (by decide +kernel : kitB "list" "tuple" = some false)
  | .tuple _ => (by decide +kernel : kitB "tuple" "tuple" = some true)
  | .dict _ => (by decide +kernel : kitB "dict" "tuple" = some false)
theorem kit_list : ∀ d : PyData, kitB (tyName d) "list" = some (isListD d)
  | .none => (by decide +kernel : kitB "NoneType" "list" = some false)
  | .bool _ => (by decide +kernel : kitB "bool" "list" = some false)
  | .int _ => (by decide +kernel : kitB "int" "list" = some false)
  | .str _ => (by decide +kernel : kitB "str" "list" = some false)
  | .list _ => (by decide +kernel : kitB "list" "list" = some true)
  | .tuple _ => (by decide +kernel : kitB "tuple" "list" = some false)
  | .dict _ => (by decide +kernel : kitB "dict" "list" = some false)

/-! ### promises by data -/
def spD (g : List D → D → Prop) : Sp := fun vs H Q _ => ∃ (hid : Hid) (ds : List D) (d : D), Occ hid H ∧ ValsAt hid H ds vs ∧ g ds d ∧ ∀ v H', Ex H H' → ValAt hid H' d v → Q v H'
theorem ev_call {ρ : Env} {g : List D → D → Prop} {E : XK} {ta : TA} {ds : List D} {d : D} (h : EvA ta ρ ds) (e : g ds d) : Ev (tCall (spD g) [] E ta) ρ d := fun hid H σ o En Q q =>
  h hid H σ o En _ fun vs H1 e1 a => by
    show spD g (vs ++ []) H1 Q E
    rw [List.append_nil]
    exact ⟨hid, ds, d, o.ex e1, a, e, fun v H' e2 av => q v H' (e1.trans e2) av⟩
theorem ev_callL {ρ : Env} {g : List D → D → Prop} {E : XK} {ta : TA} {ds : List D} {d : D} {i : Nat} {f : Addr} (hs : ρ[i]? = some (some (.v (.ref f)))) (h : EvA ta ρ ds) (e : g ds d) : Ev (tCallL i f (spD g) [] E ta) ρ d := fun hid H σ o En Q q => by
  obtain ⟨v, e1, hv⟩ := En.at_ i _ hs
  obtain rfl := hv
  exact ⟨e1, ev_call (E := E) h e hid H σ o En Q q⟩
theorem start_at {hid : Hid} {H : Hp} {N : List Str} {ds : List D} {vs : List V} (a : ValsAt hid H ds vs) (h : vs.length ≤ N.length) : EnvAt hid H (L2.start N vs) (ds.map some ++ List.replicate (N.length - ds.length) none) := by
  have hl := a.length
  refine ⟨?_, fun i d e => ?_⟩
  · unfold L2.start
    rw [List.length_append, List.length_map, List.length_replicate, List.length_append, List.length_map, List.length_replicate, hl]
  · by_cases hi : i < ds.length
    · rw [List.getElem?_append_left (by rw [List.length_map]; exact hi), List.getElem?_map] at e
      have key : ∀ {ds : List D} {vs : List V} {i : Nat} {d : D}, ValsAt hid H ds vs → ds[i]? = some d → ∃ v, vs[i]? = some v ∧ ValAt hid H d v := by
        intro ds vs i d a
        induction a generalizing i with
        | nil => intro e; cases e
        | cons a1 r ih =>
          intro e
          cases i with
          | zero => cases e; exact ⟨_, rfl, a1⟩
          | succ i =>
            obtain ⟨v, e1, h1⟩ := ih (i := i) (by simpa using e)
            exact ⟨v, by simpa using e1, h1⟩
      cases hd : ds[i]? with
      | none => rw [hd] at e; cases e
      | some d' =>
        rw [hd] at e
        cases e
        obtain ⟨v, e1, h1⟩ := key a hd
        refine ⟨v, ?_, h1⟩
        unfold L2.start
        rw [List.getElem?_append_left (by rw [List.length_map]; omega), List.getElem?_map, e1]
        rfl
    · rw [List.getElem?_append_right (by rw [List.length_map]; omega)] at e
      have := List.mem_of_getElem? e
      rw [List.mem_replicate] at this
      exact absurd this.2 (by simp)
/-- a def's promise by its body, no state -/
theorem fn_data {P : Program} {w : World} {K : PySem.W.Frag} {mg : Str → Option Value} {base : Heap} {x qual : Str} {st : Stmt} {f : Addr} {fd : FuncData} {N ps : List Str} {k : Nat} {g : List D → D → Prop} (F : Fun K x qual st f fd) (S : FnScope N ps (defScope st))
    (len : ∀ ds d, g ds d → ds.length = ps.length) (hN : ps.length ≤ N.length)
    (hbody : ∀ (cdv : Value) (A : Around) (outer : List PySem.Env) (s : Shared) (H : Hp) (E : XK), Room k (A.deeper (envOfC qual (defScope st) s.heap.objs.size f cdv)) →
      ∃ t, PSs (cxOf CX0 P w K mg base N qual (defScope st) f cdv A outer s H E).nox (defBody st) t ∧ ∀ ds d, g ds d → Sm Mo.emp t () (ds.map some ++ List.replicate (N.length - ds.length) none) { nx := fun _ _ => d = .p .none, rt := fun _ e => e = d }) :
    FnOk P w K mg base CX0 (k + 1) f fd ps (spD g) := by
  refine F.ok S (fun vs H Q E h => ?_) (fun cdv A outer s H vs Q E hr h => ?_)
  · obtain ⟨hid, ds, d, o, a, e, _⟩ := h
    rw [a.length, len ds d e]
  · obtain ⟨hid, ds, d, o, a, e, q⟩ := h
    obtain ⟨t, ht, hs⟩ := hbody cdv A outer s H E hr
    refine ⟨t, ht, ?_⟩
    have ea := start_at (N := N) a (by rw [a.length, len ds d e]; exact hN)
    have ex : ∀ {hid' : Hid} {H' : Hp}, Stp (fun _ => False) hid H hid' H' → Ex H H' := fun {hid' H'} s y u hy => by
      by_cases hh : hid y
      · rw [s.kfr y hh]; exact hy
      · exact (s.le y u (fun q => q.elim False.elim hh) hy).2
    refine hs ds d e (fun _ => False) hid H _ _ ⟨fun _ q => q, o, fun _ _ q => q⟩ (ea.le (.less fun a q => q.elim False.elim id)) ?_ ?_ ?_ ?_
    · intro σ' hid' H' b' ρ' w' s' e' p
      have p' : d = .p .none := p
      subst p'
      exact q .non H' (ex s') .non
    · intro _ _ _ _ _ _ _ _ p; exact p.elim
    · intro _ _ _ _ _ _ _ _ p; exact p.elim
    · intro v hid' H' b' e1 w' s' av p
      have p' : e1 = d := p
      subst p'
      exact q v H' (ex s') (av.le (.less fun x q => .inr q))
end DL
set_option Elab.async false
set_option linter.all false
set_option maxRecDepth 100000
set_option maxHeartbeats 4000000
namespace SL
open PySem PySem.Spec PyProof.Rows L2 DL

/-! ### the text by places -/
def top (i : Nat) : Stmt := PySem.Challenge.pw_standlots_k08_whole_frames.main.body.getD i (.Pass ⟨0, 0, 0, 0⟩)
abbrev s_is_word : Stmt := top 14
abbrev s_is_number : Stmt := top 15
abbrev s_are_ascending : Stmt := top 16
abbrev s_need_things : Stmt := top 17
abbrev s_all_lots : Stmt := top 20
abbrev s_joined : Stmt := top 21
abbrev s_without : Stmt := top 22
abbrev s_steps : Stmt := top 23
abbrev s_corners : Stmt := top 24
abbrev s_rules : Stmt := top 25
abbrev s_is_kept : Stmt := top 27
abbrev s_table_of : Stmt := top 28
abbrev s_need_items : Stmt := top 33
abbrev s_counted : Stmt := top 34
abbrev s_is_tie : Stmt := top 35
abbrev s_tie_count : Stmt := top 36
abbrev s_of_frame : Stmt := top 37
abbrev s__law_begun : Stmt := top 39
abbrev s__law_next : Stmt := top 40
abbrev s__law_names : Stmt := top 41
abbrev s__law_is_name : Stmt := top 43
abbrev s__law_odd : Stmt := top 44
abbrev s__law_bent : Stmt := top 45
abbrev s__law_lots : Stmt := top 46
abbrev s__law_less : Stmt := top 49
abbrev s__law_counted : Stmt := top 50
abbrev s__law_no_ring : Stmt := top 51
abbrev s__law_row : Stmt := top 54
abbrev s__law_fault : Stmt := top 55
abbrev s__law_told : Stmt := top 56
abbrev s_law : Stmt := top 57
abbrev s_Family___init__ : Stmt := inClass (top 29) 0
abbrev s_BadMaker___init__ : Stmt := inClass (top 6) 0

/-! ### what the top leaves of names -/
structure Txt (mg : Str → Option Value) : Prop where
  b_len : mg "len" = none
  b_isinstance : mg "isinstance" = none
  b_all : mg "all" = none
  b_max : mg "max" = none
  b_min : mg "min" = none
  b_sorted : mg "sorted" = none
  b_repr : mg "repr" = none
  b_tuple : mg "tuple" = none
  b_list : mg "list" = none
  b_dict : mg "dict" = none
  b_int : mg "int" = none
  b_str : mg "str" = none
  b_bool : mg "bool" = none
  b_range : mg "range" = none
  b_zip : mg "zip" = none
  b_enumerate : mg "enumerate" = none
  b_super : mg "super" = none
  g_MOST_THINGS : ∃ t, mg "MOST_THINGS" = some (.int 5 t)
  g_MOST_LETTERS : ∃ t, mg "MOST_LETTERS" = some (.int 8 t)
  g_LETTERS : ∃ t, mg "LETTERS" = some (.str "abcdefghijklmnopqrstuvwxyz" t)
  g_NONE : ∃ t, mg "NONE" = some (.str "none" t)
  g_STEP : ∃ t, mg "STEP" = some (.str "step" t)
  g_PAIR : ∃ t, mg "PAIR" = some (.str "pair" t)
section
variable {X : Cx} {x : Str} {pos p : Pos} {i : Int} {z : Str}
theorem pe_gint (h : ∃ t, X.mg x = some (.int i t)) (hg : Gl X x) (hd : (x == ("__debug__" : Str)) = false := by decide) : PE X (.Name x pos) (tC (.int i)) := by
  obtain ⟨t, h⟩ := h
  exact pe_glob hg h ⟨t, rfl⟩ hd
theorem pe_gstr (h : ∃ t, X.mg x = some (.str z t)) (hg : Gl X x) (hd : (x == ("__debug__" : Str)) = false := by decide) : PE X (.Name x pos) (tC (.str z)) := by
  obtain ⟨t, h⟩ := h
  exact pe_glob hg h ⟨t, rfl⟩ hd
/-- a def of the module that keeps a promise and lets nothing out -/
structure Cal (P : Program) (w : World) (K : PySem.W.Frag) (mg : Str → Option Value) (base : Heap) (x : Str) (k : Nat) (ps : List Str) (sp : Sp) : Prop where
  ex : ∃ (f : Addr) (fd : FuncData), mg x = some (.ref f) ∧ PySem.W.keepIn K (.ref f) = true ∧ Binds K fd ps [] ∧ FnOk P w K mg base CX0 k f fd ps sp
theorem pe_cal {k : Nat} {ps : List Str} {sp : Sp} {e : Expr} {es : List Expr} {t : TA} (C : Cal X.prog X.w X.K X.mg X.base x k ps sp) (hr : Room k X.A) (hg : Gl X x) (ha : PA X (e :: es) t) (hd : (x == ("__debug__" : Str)) = false := by decide)
    (he : starEach (e :: es) X.env = (false, eval e X.env) :: starEach es X.env := by rfl) (hpl : (backTo pos (starEach es X.env)).any (·.1) = false := by rfl) : PE X (.Call (.Name x p) (e :: es) [] pos) (tCall sp [] E0 t) := by
  obtain ⟨f, fd, hm, hk, hb, F⟩ := C.ex
  exact pe_call F hr hg hm hk hb .nil pass0 ha hd he hpl
end
/-- where a def of the text stands -/
structure Has (K : PySem.W.Frag) (mg : Str → Option Value) (x : Str) (st : Stmt) : Prop where
  ex : ∃ (f : Addr) (fd : FuncData), mg x = some (.ref f) ∧ Fun K x x st f fd
theorem cal_of {P : Program} {w : World} {K : PySem.W.Frag} {mg : Str → Option Value} {base : Heap} {x : Str} {st : Stmt} {N ps : List Str} {k : Nat} {g : List D → D → Prop} (h : Has K mg x st) (S : FnScope N ps (defScope st))
    (hb : ∀ (kV doc pm : Value) (an : Option Addr) (cdv ct : Value) (us : List Value), us.length = ps.length → bindArgs (PySem.W.fnOf x x (defArgs st) (defBody st) (defScope st) .none kV doc pm an cdv ct) ⟨us, []⟩ = pure (ps.zip us))
    (len : ∀ ds d, g ds d → ds.length = ps.length) (hN : ps.length ≤ N.length)
    (hbody : ∀ (f : Addr) (cdv : Value) (A : Around) (outer : List PySem.Env) (s : Shared) (H : Hp) (E : XK), Room k (A.deeper (envOfC x (defScope st) s.heap.objs.size f cdv)) →
      ∃ t, PSs (cxOf CX0 P w K mg base N x (defScope st) f cdv A outer s H E).nox (defBody st) t ∧ ∀ ds d, g ds d → Sm Mo.emp t () (ds.map some ++ List.replicate (N.length - ds.length) none) { nx := fun _ _ => d = .p .none, rt := fun _ e => e = d }) :
    Cal P w K mg base x (k + 1) ps (spD g) := by
  obtain ⟨f, fd, hm, F⟩ := h.ex
  exact ⟨f, fd, hm, F.kp, F.binds hb, fn_data F S len hN (hbody f)⟩
/-! ### the rules that name the written part, the part written out -/
section
variable {X : Cx}
theorem ix_listK (K : PySem.W.Frag) (h : X.K = K := by rfl) : IxR X (rIxL K) := by subst h; exact ix_list
theorem ix_tupK (K : PySem.W.Frag) (h : X.K = K := by rfl) : IxR X (rIxT K) := by subst h; exact ix_tup
theorem op_in_seqK (K : PySem.W.Frag) (h : X.K = K := by rfl) : OpR X (compareOp .In) (rIn K false) := by subst h; exact op_in_seq
theorem op_notIn_seqK (K : PySem.W.Frag) (h : X.K = K := by rfl) : OpR X (compareOp .NotIn) (rIn K true) := by subst h; exact op_notIn_seq
theorem sl_tupAK (K : PySem.W.Frag) (h : X.K = K := by rfl) : SlR X (rSlA K) := by subst h; exact sl_tupA
theorem sl_listK (K : PySem.W.Frag) (h : X.K = K := by rfl) : SlR X (rSlL K) := by subst h; exact sl_list
theorem op_catAK (K : PySem.W.Frag) (h : X.K = K := by rfl) : OpR X (binaryOp .Add) (rCatA K) := by subst h; exact op_catA
theorem op_eqDK (K : PySem.W.Frag) (hu : X.A.units + 64 < cLine) (h : X.K = K := by rfl) : OpR X (compareOp .Eq) (rEqD K) := by subst h; exact op_eqD hu
theorem op_neDK (K : PySem.W.Frag) (hu : X.A.units + 64 < cLine) (h : X.K = K := by rfl) : OpR X (compareOp .NotEq) (rNeD K) := by subst h; exact op_neD hu
theorem call_len_seqK (K : PySem.W.Frag) (h : X.K = K := by rfl) : CallR X (.builtin "len") (fun xs H Q => ∃ p ys, xs = [.ref p] ∧ (SqL K H p ys ∨ SqT K H p ys) ∧ Q (.int ys.length) H) := by subst h; exact call_len_seq
theorem call_tuple_ofK (K : PySem.W.Frag) (h : X.K = K := by rfl) : CallR X (.type "tuple") (fun xs H Q => ∃ p ys, xs = [.ref p] ∧ ((SqL K H p ys ∧ ∀ l, H l = none → Q (.ref l) (upd H l (.tup ys))) ∨ (SqT K H p ys ∧ Q (.ref p) H))) := by subst h; exact call_tuple_of
theorem call_list_ofK (K : PySem.W.Frag) (h : X.K = K := by rfl) : CallR X (.type "list") (fun xs H Q => ∃ p ys, xs = [.ref p] ∧ (SqL K H p ys ∨ SqT K H p ys) ∧ ∀ l, H l = none → Q (.ref l) (upd H l (.lst ys))) := by subst h; exact call_list_of
theorem call_isiK (K : PySem.W.Frag) (h : X.K = K := by rfl) : CallR X (.builtin "isinstance") (rIsi K) := by subst h; exact call_isi
theorem call_isiTK (K : PySem.W.Frag) (h : X.K = K := by rfl) : CallR X (.builtin "isinstance") (rIsiT K) := by subst h; exact call_isiT
theorem cr_allK (K : PySem.W.Frag) (hc : X.calm = true) (h : X.K = K := by rfl) : CallR X (.builtin "all") (rAll K) := by subst h; exact cr_all hc
theorem cr_maxK (K : PySem.W.Frag) (hc : X.calm = true) (h : X.K = K := by rfl) : CallR X (.builtin "max") (rMax K) := by subst h; exact cr_max hc
theorem cr_sortedSK (K : PySem.W.Frag) (h : X.K = K := by rfl) : CallR X (.builtin "sorted") (rSortedS K) := by subst h; exact cr_sortedS
theorem pi_listK (K : PySem.W.Frag) {tg l : Expr} {tl : TE} (hl : PE X l tl) (h : X.K = K := by rfl) : PI X tg l (iList K tl) := by subst h; exact pi_list hl
theorem pi_tupK (K : PySem.W.Frag) {tg l : Expr} {tl : TE} (hl : PE X l tl) (h : X.K = K := by rfl) : PI X tg l (iTup K tl) := by subst h; exact pi_tup hl
theorem pi_zipAK (K : PySem.W.Frag) {e e2 : Expr} {ta : TA} {p pos tpos : Pos} {elts : List Expr} {kk : Nat} (hg : Gl X "zip") (hm : X.mg "zip" = none) (ha : PA X [e, e2] ta) (hs : starEach [e, e2] X.env = (false, eval e X.env) :: starEach [e2] X.env := by rfl) (hpl : (backTo pos (starEach [e2] X.env)).any (·.1) = false := by rfl) (h : X.K = K := by rfl) : PI X (.Tuple elts kk tpos) (.Call (.Name "zip" p) [e, e2] [] pos) (RZ.iZipA K ta) := by
  subst h
  exact RZ.pi_zipA hg hm ha hs hpl
theorem pi_enumK (K : PySem.W.Frag) {e : Expr} {ta : TA} {p pos tpos : Pos} {elts : List Expr} {kk : Nat} (hg : Gl X "enumerate") (hm : X.mg "enumerate" = none) (ha : PA X [e] ta) (hs : starEach [e] X.env = [(false, eval e X.env)] := by rfl) (h : X.K = K := by rfl) : PI X (.Tuple elts kk tpos) (.Call (.Name "enumerate" p) [e] [] pos) (iEnum K ta) := by
  subst h
  exact pi_enum hg hm ha hs
theorem pa_starK (K : PySem.W.Frag) {e : Expr} {es : List Expr} {te : TE} {t : TA} {p : Pos} (he : PE X e te) (hr : PA X es t) (hs : starEach (.Starred e p :: es) X.env = (true, eval e X.env) :: starEach es X.env := by rfl) (h : X.K = K := by rfl) : PA X (.Starred e p :: es) (StX.tStar K te t) := by
  subst h
  exact StX.pa_star he hr hs
theorem pe_revLK (K : PySem.W.Frag) {e : Expr} {te : TE} {k : Nat} {p1 p2 p3 pos : Pos} (he : PE X e te) (h : X.K = K := by rfl) : PE X (.Subscript e (.Slice none none (some (.UnaryOp .USub (.Constant (.int 1) k p1) p2)) p3) pos) (tRevL K te) := by
  subst h
  exact pe_revL he
theorem pg_tupK (K : PySem.W.Frag) {es : List Expr} {k : Nat} {t : TGs} {n : Nat} {pos : Pos} (hc : X.calm = true) (hg : PGs X es t) (hn : (assignEach es X.env).length = n := by rfl) (hst : (assignEach es X.env).findIdx? (·.1) = none := by rfl) (h : X.K = K := by rfl) : PG X (.Tuple es k pos) (gTup K n t) := by
  subst h
  exact pg_tup hc hg hn hst
theorem pe_fldK (K : PySem.W.Frag) {e : Expr} {ta : TE} {f : Str} {pos : Pos} (he : PE X e ta) (hb : attributeBase e f X.env (eval e X.env) = eval e X.env) (h : X.K = K := by rfl) : PE X (.Attribute e f pos) (tFld K ta f) := by
  subst h
  exact pe_fld he hb
end
end SL
set_option Elab.async false
set_option linter.all false
set_option maxRecDepth 100000
set_option maxHeartbeats 4000000
namespace SL
open PySem PySem.Spec PyProof.Rows L2 DL FM

theorem str_of_cps {x y : Str} (h : x.cps.toList = y.cps.toList) : x = y := Str.ext' (Array.toList_inj.mp h)
theorem ltS_sto : STO ltS where
  irr := fun a => List.lt_irrefl _
  tr := fun h1 h2 => List.lt_trans h1 h2
  tot := fun {a b} h => by
    by_cases h1 : ltS a b
    · exact .inl h1
    · by_cases h2 : ltS b a
      · exact .inr h2
      · exact absurd (str_of_cps (List.le_antisymm (List.not_lt.mp h2) (List.not_lt.mp h1))) h
def leS (a b : Str) : Bool := !decide (ltS b a)
theorem leS_total (a b : Str) : (leS a b || leS b a) = true := by
  unfold leS
  by_cases h : ltS b a
  · have := ltS_sto.asym h
    simp [h, this]
  · simp [h]
theorem leS_trans (a b c : Str) (h1 : leS a b = true) (h2 : leS b c = true) : leS a c = true := by
  unfold leS at *
  simp only [Bool.not_eq_true', decide_eq_false_iff_not] at *
  intro h
  by_cases e : b = c
  · subst e; exact h1 h
  · rcases ltS_sto.tot e with q | q
    · exact h1 (ltS_sto.tr q h)
    · exact h2 q
theorem leS_anti {a b : Str} (h1 : leS a b = true) (h2 : leS b a = true) : a = b := by
  unfold leS at *
  simp only [Bool.not_eq_true', decide_eq_false_iff_not] at *
  by_cases e : a = b
  · exact e
  · rcases ltS_sto.tot e with q | q
    · exact absurd q h2
    · exact absurd q h1
def sortS (xs : List Str) : List Str := xs.mergeSort leS
theorem sortS_perm (xs : List Str) : (sortS xs).Perm xs := List.mergeSort_perm xs leS
theorem sortS_pw (xs : List Str) : (sortS xs).Pairwise fun a b => leS a b = true := List.pairwise_mergeSort leS_trans leS_total xs
theorem sortS_of {xs ys : List Str} (p : ys.Perm xs) (h : ys.Pairwise fun a b => leS a b = true) : ys = sortS xs :=
  List.Perm.eq_of_pairwise (fun a b _ _ => leS_anti) h (sortS_pw xs) (p.trans (sortS_perm xs).symm)
theorem ltCps_eq : ∀ a b : List Nat, ltCps a b = decide (a < b)
  | [], [] => by decide
  | [], b :: t => by
    have : ([] : List Nat) < b :: t := List.nil_lt_cons b t
    simp [ltCps, this]
  | a :: r, [] => by
    have : ¬ (a :: r) < ([] : List Nat) := List.not_lt_nil _
    simp [ltCps, this]
  | a :: r, b :: t => by
    unfold ltCps
    rw [ltCps_eq r t, Bool.eq_iff_iff, decide_eq_true_iff, List.cons_lt_cons_iff]
    simp
theorem rising_pw : ∀ (r : List Str) (p : Str), risingS p r = true → (p :: r).Pairwise fun a b => leS a b = true
  | [], p, _ => by simp
  | x :: r, p, h => by
    unfold risingS at h
    rw [Bool.and_eq_true] at h
    have ih := rising_pw r x h.2
    have hp : leS p x = true := by
      unfold leS
      have := h.1
      rw [ltCps_eq] at this
      exact this
    refine List.pairwise_cons.mpr ⟨fun y hy => ?_, ih⟩
    rcases List.mem_cons.mp hy with e | m
    · rw [e]; exact hp
    · exact leS_trans _ _ _ hp ((List.pairwise_cons.mp ih).1 y m)
theorem sortedS_pw {ys : List Str} (h : sortedS ys = true) : ys.Pairwise fun a b => leS a b = true := by
  cases ys with
  | nil => exact .nil
  | cons x r => exact rising_pw r x h
theorem rc_sortedS {K : PySem.W.Frag} {xs : List Str} (hz : xs.length < 64) : Rc (rSortedS K) [.p (.list (xs.map .str))] (.p (.list ((sortS xs).map .str))) := fun hid H us o a Q q => by
  cases a with
  | cons a r =>
    cases r
    cases a with
    | list n e l =>
      have := l.strs
      subst this
      refine ⟨_, xs, rfl, .of e, hz, fun ys p hp hs hn => ?_⟩
      have := sortS_of hp (sortedS_pw hs)
      subst this
      exact q _ _ (ex_new hn) (.list (o.new hn) upd_same AtL.of_strs)
/-- strictly ascending, where nothing stands twice -/
theorem sortS_strict {xs : List Str} (h : xs.Nodup) : (sortS xs).Pairwise ltS := by
  have nd : (sortS xs).Nodup := (sortS_perm xs).nodup_iff.mpr h
  exact (List.pairwise_and_iff.mpr ⟨sortS_pw xs, nd⟩).imp fun {a b} ⟨h1, h2⟩ => (ltS_sto.tot h2).resolve_right (by
    unfold leS at h1
    simpa using h1)
theorem sortS_id {xs : List Str} (h : xs.Pairwise ltS) : sortS xs = xs :=
  (sortS_of (List.Perm.refl xs) (h.imp fun {a b} q => by
    unfold leS
    simp [ltS_sto.asym q])).symm
end SL
set_option Elab.async false
set_option linter.all false
set_option maxRecDepth 100000
set_option maxHeartbeats 4000000
namespace SL
open PySem PySem.Spec PyProof.Rows L2 DL FM

def letters : Str := "abcdefghijklmnopqrstuvwxyz"
def isNum (d : PyData) : Bool := isIntD d && !isBoolD d
def isWordS (z : Str) : Bool := (decide (1 ≤ (z.length : Int)) && decide ((z.length : Int) ≤ 8)) && z.cps.toList.all fun c => decide (c ∈ letters.cps.toList)
def isWord : PyData → Bool
  | .str z => isWordS z
  | _ => false
/-- texts are short -/
def shortS : PyData → Prop
  | .str z => z.length ≤ 1000
  | _ => True
theorem fitsLine {n : Nat} (h : n ≤ 1000) : n ≤ sizeLine := Nat.le_trans h (by decide)
def lotD (l : List Str) : PyData := .tuple (l.map .str)
def lotsD (ls : List (List Str)) : List PyData := ls.map lotD

abbrev R_is_number : List D → D → Prop := fun ds d => ∃ x, ds = [.p x] ∧ d = .p (.bool (isNum x))
abbrev R_is_word : List D → D → Prop := fun ds d => ∃ x, ds = [.p x] ∧ shortS x ∧ d = .p (.bool (isWord x))
/-- of words alone -/
abbrev R_are_ascending : List D → D → Prop := fun ds d => ∃ l : List Str, ds = [.p (lotD l)] ∧ (∀ z ∈ l, isWordS z = true) ∧ l.length ≤ 1000 ∧ d = .p (.bool ((l.zip l.tail).all fun p => decide (ltS p.1 p.2)))
abbrev R_need_things : List D → D → Prop := fun ds d => ∃ l : List Str, ds = [.p (lotD l)] ∧ (∀ z ∈ l, isWordS z = true) ∧ l.Pairwise ltS ∧ 1 ≤ l.length ∧ l.length ≤ 5 ∧ d = .p (lotD l)
abbrev R_without : List D → D → Prop := fun ds d => ∃ a b : List Str, ds = [.p (lotD a), .p (lotD b)] ∧ a.length ≤ 1000 ∧ d = .p (lotD (a.filter fun x => !decide (x ∈ b)))
abbrev R_joined : List D → D → Prop := fun ds d => ∃ a b : List Str, ds = [.p (lotD a), .p (lotD b)] ∧ a.length + b.length < 64 ∧ d = .p (lotD (sortS (a ++ b.filter fun x => !decide (x ∈ a))))
abbrev R_all_lots : List D → D → Prop := fun ds d => ∃ l : List Str, ds = [.p (lotD l)] ∧ l.length ≤ 5 ∧ d = .p (.tuple (lotsD (lots l)))
theorem word_short {z : Str} (h : isWordS z = true) : z.length ≤ 8 := by
  unfold isWordS at h
  simp only [Bool.and_eq_true, decide_eq_true_eq] at h
  omega

section
variable {P : Program} {w : World} {K : PySem.W.Frag} {mg : Str → Option Value} {base : Heap}
abbrev N_is_number : List Str := ["thing"]
theorem sc_is_number : FnScope N_is_number ["thing"] (defScope s_is_number) := ⟨rfl, rfl, rfl, by decide +kernel, rfl, by decide +kernel, by decide +kernel⟩
theorem ok_is_number (h : Has K mg "is_number" s_is_number) (T : Txt mg) : Cal P w K mg base "is_number" 1 ["thing"] (spD R_is_number) := by
  refine cal_of h sc_is_number (fun _ _ _ _ _ _ us hl => match us, hl with | [_], _ => rfl) (by rintro _ _ ⟨x, rfl, _⟩; rfl) (by decide) fun f cdv A outer s H E hr => ?_
  refine ⟨_, (pss_one (ps_ret (pe_and (pe_callB (call_isiK K) (by rfl) T.b_isinstance (by decide +kernel) (pa_cons (pv 0) (pa_cons (pe_bltn (v := .ty "int") (by rfl) T.b_int (by decide +kernel) rfl) pa_nil))) (pe_one (pe_not (pe_callB (call_isiK K) (by rfl) T.b_isinstance (by decide +kernel) (pa_cons (pv 0) (pa_cons (pe_bltn (v := .ty "bool") (by rfl) T.b_bool (by decide +kernel) rfl) pa_nil)))))))), ?_⟩
  rintro _ _ ⟨x, rfl, rfl⟩
  exact sm_ret (ev_andV (ev_cb (ea_cons (ev_var rfl) (ea_cons ev_val ea_nil)) (rc_isi (kit_int x))) fun _ => ev_notV (ev_cb (ea_cons (ev_var rfl) (ea_cons ev_val ea_nil)) (rc_isi (kit_bool x)))) rfl

abbrev N_is_word : List Str := ["thing", "letter"]
theorem sc_is_word : FnScope N_is_word ["thing"] (defScope s_is_word) := ⟨rfl, rfl, rfl, by decide +kernel, rfl, by decide +kernel, by decide +kernel⟩
theorem ok_is_word (h : Has K mg "is_word" s_is_word) (T : Txt mg) : Cal P w K mg base "is_word" 1 ["thing"] (spD R_is_word) := by
  refine cal_of h sc_is_word (fun _ _ _ _ _ _ us hl => match us, hl with | [_], _ => rfl) (by rintro _ _ ⟨x, rfl, _⟩; rfl) (by decide) fun f cdv A outer s H E hr => ?_
  refine ⟨_, (pss_one (ps_ret (pe_and (pe_callB (call_isiK K) (by rfl) T.b_isinstance (by decide +kernel) (pa_cons (pv 0) (pa_cons (pe_bltn (v := .ty "str") (by rfl) T.b_str (by decide +kernel) rfl) pa_nil))) (pe_and (pe_chain op_le op_le pe_int (pe_callB call_len_str (by rfl) T.b_len (by decide +kernel) (pa_cons (pv 0) pa_nil)) (pe_gint T.g_MOST_LETTERS (by rfl))) (pe_one (pe_callB (cr_allK K rfl) (by rfl) T.b_all (by decide +kernel) (pa_cons (pe_lc (own := [("letter", 1)]) (g := (gName 1)) rfl sc_is_word.nd (pi_str (pv 0)) (blkOk_by (own := [("letter", 1)]) (N := N_is_word) (sc := defScope s_is_word) (by decide +kernel)) (fun _ _ _ _ _ => (pg_name (i := 1) sc_is_word.nd rfl (by first | exact Or.inl rfl | exact Or.inr rfl))) (fun _ _ _ _ _ => pts_nil) (fun _ _ _ _ _ => (pe_cmpR op_in_sign (pv 1) (pe_gstr T.g_LETTERS (by rfl)) (by rfl)))) pa_nil))))))), ?_⟩
  rintro _ _ ⟨x, rfl, hx, rfl⟩
  refine sm_ret (d := .p (.bool (isWord x))) ?_ rfl
  cases x with
  | str z =>
    have hz : z.length ≤ sizeLine := fitsLine hx
    refine ev_is (ev_andV (ev_cb (ea_cons (ev_var rfl) (ea_cons ev_val ea_nil)) (rc_isi (kit_str (.str z)))) fun _ => ev_andV (ev_chain ev_int (ev_cb (ea_cons (ev_var rfl) ea_nil) (rc_lenS hz)) rv_le (fun _ => ev_int) fun _ => rv_le) fun _ =>
      ev_cb (ea_cons ?_ ea_nil) (rc_all (bs := z.cps.toList.map fun c => decide (c ∈ letters.cps.toList)))) ?_
    · refine ev_is (ev_lcM (fun c => .bool (decide (c ∈ letters.cps.toList))) (ei_str (ev_var rfl)) (sl := [1]) (by decide) (by rw [Array.length_toList]; exact Nat.le_trans hx (by decide)) fun c hc => ⟨_, eg_name, ev_op (ev_var rfl) ev_str rv_inSign⟩) ?_
      rw [List.map_map]
      rfl
    · show D.p (PyData.bool (true && _)) = _
      rw [Bool.true_and, List.all_map]
      rfl
  | none => exact ev_andV (a := false) (ev_cb (ea_cons (ev_var rfl) (ea_cons ev_val ea_nil)) (rc_isi (kit_str _))) (b := false) fun q => by cases q
  | bool b => exact ev_andV (a := false) (ev_cb (ea_cons (ev_var rfl) (ea_cons ev_val ea_nil)) (rc_isi (kit_str _))) (b := false) fun q => by cases q
  | int b => exact ev_andV (a := false) (ev_cb (ea_cons (ev_var rfl) (ea_cons ev_val ea_nil)) (rc_isi (kit_str _))) (b := false) fun q => by cases q
  | list b => exact ev_andV (a := false) (ev_cb (ea_cons (ev_var rfl) (ea_cons ev_val ea_nil)) (rc_isi (kit_str _))) (b := false) fun q => by cases q
  | tuple b => exact ev_andV (a := false) (ev_cb (ea_cons (ev_var rfl) (ea_cons ev_val ea_nil)) (rc_isi (kit_str _))) (b := false) fun q => by cases q
  | dict b => exact ev_andV (a := false) (ev_cb (ea_cons (ev_var rfl) (ea_cons ev_val ea_nil)) (rc_isi (kit_str _))) (b := false) fun q => by cases q

abbrev N_are_ascending : List Str := ["thing", "one", "other"]
theorem sc_are_ascending : FnScope N_are_ascending ["thing"] (defScope s_are_ascending) := ⟨rfl, rfl, rfl, by decide +kernel, rfl, by decide +kernel, by decide +kernel⟩
theorem ok_are_ascending (h : Has K mg "are_ascending" s_are_ascending) (T : Txt mg) (C_is_word : Cal P w K mg base "is_word" 1 ["thing"] (spD R_is_word)) : Cal P w K mg base "are_ascending" 2 ["thing"] (spD R_are_ascending) := by
  refine cal_of h sc_are_ascending (fun _ _ _ _ _ _ us hl => match us, hl with | [_], _ => rfl) (by rintro _ _ ⟨x, rfl, _⟩; rfl) (by decide) fun f cdv A outer s H E hr => ?_
  refine ⟨_, (pss_cons (ps_if (PW.pt (pw_or (pt_not (pt_val (pe_callB (call_isiK K) (by rfl) T.b_isinstance (by decide +kernel) (pa_cons (pv 0) (pa_cons (pe_bltn (v := .ty "tuple") (by rfl) T.b_tuple (by decide +kernel) rfl) pa_nil))))) (pw_or1 (pt_not (pt_val (pe_callB (cr_allK K rfl) (by rfl) T.b_all (by decide +kernel) (pa_cons (pe_lc (own := [("one", 1)]) (g := (gName 1)) rfl sc_are_ascending.nd (pi_tupK K (pv 0)) (blkOk_by (own := [("one", 1)]) (N := N_are_ascending) (sc := defScope s_are_ascending) (by decide +kernel)) (fun _ _ _ _ _ => (pg_name (i := 1) sc_are_ascending.nd rfl (by first | exact Or.inl rfl | exact Or.inr rfl))) (fun _ _ _ _ _ => pts_nil) (fun _ _ _ _ _ => (pe_cal C_is_word (hr.mono (by decide)) (by rfl) (pa_cons (pv 1) pa_nil)))) pa_nil))))))) (pss_one (ps_ret pe_bl)) pss_nil)
    (pss_one (ps_ret (pe_callB (cr_allK K rfl) (by rfl) T.b_all (by decide +kernel) (pa_cons (pe_lc (own := [("one", 1), ("other", 2)]) (g := (gTup K 2 (gCons (gName 1) (gCons (gName 2) gNil)))) rfl sc_are_ascending.nd (pi_zipAK K (by rfl) T.b_zip (pa_cons (pv 0) (pa_cons (pe_slice (sl_tupAK K) (pv 0) (po_some pe_int) po_none) pa_nil))) (blkOk_by (own := [("one", 1), ("other", 2)]) (N := N_are_ascending) (sc := defScope s_are_ascending) (by decide +kernel)) (fun _ _ _ _ _ => (pg_tupK K rfl (pgs_cons (pg_name (i := 1) sc_are_ascending.nd rfl (by first | exact Or.inl rfl | exact Or.inr rfl)) (pgs_cons (pg_name (i := 2) sc_are_ascending.nd rfl (by first | exact Or.inl rfl | exact Or.inr rfl)) pgs_nil)))) (fun _ _ _ _ _ => pts_nil) (fun _ _ _ _ _ => (pe_cmpR op_lt_str (pv 1) (pv 2) (nomark _)))) pa_nil))))), ?_⟩
  rintro _ _ ⟨l, rfl, hw, hl, rfl⟩
  refine sq_if (a := false) (et_is (et_or (et_not (et_test (ev_cb (ea_cons (ev_var rfl) (ea_cons ev_val ea_nil)) (rc_isi (kit_tup _))))) fun _ => et_not (et_test (ev_cb (ea_cons ?_ ea_nil) (rc_all (bs := l.map isWordS))))) ?_) (fun q => by cases q) fun _ => sm_next (sm_ret (ev_cb (ea_cons ?_ ea_nil) (rc_all (bs := (l.zip l.tail).map fun p => decide (ltS p.1 p.2)))) ?_)
  · refine ev_is (ev_lcM (fun c => .bool (isWordS c)) (ei_tup (ev_var rfl)) (sl := [1]) (by decide) (by omega) fun c hc => ⟨_, eg_name, ev_call (ea_cons (ev_var rfl) ea_nil) ⟨_, rfl, Nat.le_trans (word_short (hw c hc)) (by decide), rfl⟩⟩) ?_
    rw [List.map_map]
    rfl
  · have : (l.map isWordS).all id = true := by
      rw [List.all_map, List.all_eq_true]
      exact hw
    rw [this]
    rfl
  · have hz := ei_zipT (K := K) (ta := tCons (tVar 0) (tCons (tSl (rSlA K) (tVar 0) (tPart (tC (.int 1))) tNoPart) tNil)) (ρ := [some (.p (lotD l)), none, none]) (xs := l.map .str) (ys := l.tail.map .str)
      (ea_cons (ev_var rfl) (ea_cons (ev_is (ev_sl (ev_var rfl) (eo_some ev_int) eo_none rs_tup) (by rw [show (1 : Int) = ((1 : Nat) : Int) from rfl, cut_from, List.drop_one, List.map_tail])) ea_nil))
    rw [List.zip_map, List.map_map] at hz
    refine ev_is (ev_lcM (fun p => .bool (decide (ltS p.1 p.2))) hz (sl := [1, 2]) (by decide) (by rw [List.length_zip]; omega) fun ⟨x, y⟩ hc => ⟨_, eg_tup rfl (egs_cons eg_name (egs_cons eg_name egs_nil)), ev_op (x := .p (.str x)) (y := .p (.str y)) (ev_var rfl) (ev_var rfl) rv_ltS⟩) ?_
    rw [List.map_map]
    rfl
  · show D.p _ = D.p _
    rw [List.all_map]
    rfl
end
end SL
set_option Elab.async false
set_option linter.all false
set_option maxRecDepth 100000
set_option maxHeartbeats 4000000
namespace SL
open PySem PySem.Spec PyProof.Rows L2 DL FM

theorem ea_starL1 {K : PySem.W.Frag} {ρ : DL.Env} {ta : TE} {xs : List PyData} (h : Ev ta ρ (.p (.list xs))) : EvA (StX.tStar K ta tNil) ρ (xs.map .p) := by
  have := ea_starL (K := K) h (ea_nil (ρ := ρ))
  rwa [List.append_nil] at this
theorem asc_zip : ∀ {l : List Str}, l.Pairwise ltS → ((l.zip l.tail).all fun p => decide (ltS p.1 p.2)) = true
  | [], _ => rfl
  | [_], _ => rfl
  | a :: b :: r, h => by
    obtain ⟨h1, h2⟩ := List.pairwise_cons.mp h
    have ih := asc_zip h2
    show (decide (ltS a b) && (((b :: r).zip r).all fun p => decide (ltS p.1 p.2))) = true
    rw [Bool.and_eq_true, decide_eq_true_iff]
    exact ⟨h1 b List.mem_cons_self, ih⟩
def stepsL (l : List Str) : List (List Str × Str) := (lots l).flatMap fun a => (l.filter fun x => !decide (x ∈ a)).map fun x => (a, x)
def cornersL (l : List Str) : List (List Str × Str × Str) := (stepsL l).flatMap fun p => ((l.filter fun x => !decide (x ∈ p.1)).filter fun x => decide (ltS p.2 x)).map fun x => (p.1, p.2, x)
def stepD (p : List Str × Str) : PyData := .tuple [lotD p.1, .str p.2]
def cornerD (p : List Str × Str × Str) : PyData := .tuple [lotD p.1, .str p.2.1, .str p.2.2]
inductive Rule where
  | none
  | step (a : List Str) (x : Str)
  | pair (a : List Str) (x y : Str)
def ruleD : Rule → PyData
  | .none => .tuple [.str "none"]
  | .step a x => .tuple [.str "step", lotD a, .str x]
  | .pair a x y => .tuple [.str "pair", lotD a, .str x, .str y]
def rulesL (l : List Str) : List Rule := .none :: ((stepsL l).map fun p => .step p.1 p.2) ++ (cornersL l).map fun p => .pair p.1 p.2.1 p.2.2
abbrev R_steps : List D → D → Prop := fun ds d => ∃ l : List Str, ds = [.p (lotD l)] ∧ l.length ≤ 5 ∧ d = .p (.list ((stepsL l).map stepD))
abbrev R_corners : List D → D → Prop := fun ds d => ∃ l : List Str, ds = [.p (lotD l)] ∧ l.length ≤ 5 ∧ d = .p (.list ((cornersL l).map cornerD))
abbrev R_rules : List D → D → Prop := fun ds d => ∃ l : List Str, ds = [.p (lotD l)] ∧ l.length ≤ 5 ∧ d = .p (.tuple ((rulesL l).map ruleD))
/-- a tie -/
def isTie : PyData → Bool
  | .tuple [a, b, c] => isWord a && (isNum b && isNum c)
  | _ => false
def shortT : PyData → Prop
  | .tuple [a, _, _] => shortS a
  | _ => True
abbrev R_is_tie : List D → D → Prop := fun ds d => ∃ x, ds = [.p x] ∧ shortT x ∧ d = .p (.bool (isTie x))
theorem filter_tt {α : Type} (l : List α) : l.filter (fun _ => true) = l := List.filter_eq_self.mpr fun _ _ => rfl
theorem flat_len {α β : Type} {f : α → List β} {n : Nat} : ∀ {l : List α}, (∀ a ∈ l, (f a).length ≤ n) → (l.flatMap f).length ≤ l.length * n
  | [], _ => by simp
  | a :: r, h => by
    rw [List.flatMap_cons, List.length_append, List.length_cons, Nat.add_mul, Nat.one_mul]
    have h1 := h a List.mem_cons_self
    have h2 := flat_len (n := n) (l := r) fun b hb => h b (List.mem_cons_of_mem _ hb)
    omega
theorem lots_le {l : List Str} (h : l.length ≤ 5) : (lots l).length ≤ 32 := by
  rw [lots_len]
  exact Nat.pow_le_pow_right (by decide : 0 < 2) h
theorem steps_le {l : List Str} (h : l.length ≤ 5) : (stepsL l).length ≤ 160 := by
  have h1 : (stepsL l).length ≤ (lots l).length * 5 := flat_len fun a _ => by
    rw [List.length_map]
    exact Nat.le_trans (List.length_filter_le _ _) h
  have := lots_le h
  omega
theorem corners_le {l : List Str} (h : l.length ≤ 5) : (cornersL l).length ≤ 800 := by
  have h1 : (cornersL l).length ≤ (stepsL l).length * 5 := flat_len fun a _ => by
    rw [List.length_map]
    exact Nat.le_trans (List.length_filter_le _ _) (Nat.le_trans (List.length_filter_le _ _) h)
  have := steps_le h
  omega

section
variable {P : Program} {w : World} {K : PySem.W.Frag} {mg : Str → Option Value} {base : Heap}
abbrev N_need_things : List Str := ["thing"]
theorem sc_need_things : FnScope N_need_things ["thing"] (defScope s_need_things) := ⟨rfl, rfl, rfl, by decide +kernel, rfl, by decide +kernel, by decide +kernel⟩
theorem ok_need_things (h : Has K mg "need_things" s_need_things) (T : Txt mg) (C_are_ascending : Cal P w K mg base "are_ascending" 2 ["thing"] (spD R_are_ascending)) : Cal P w K mg base "need_things" 3 ["thing"] (spD R_need_things) := by
  refine cal_of h sc_need_things (fun _ _ _ _ _ _ us hl => match us, hl with | [_], _ => rfl) (by rintro _ _ ⟨x, rfl, _⟩; rfl) (by decide) fun f cdv A outer s H E hr => ?_
  refine ⟨_, (pss_cons (ps_if (PW.pt (pw_or (pt_not (pt_val (pe_cal C_are_ascending (hr.mono (by decide)) (by rfl) (pa_cons (pv 0) pa_nil)))) (pw_or1 (pt_not (pt_chain op_le op_le pe_int (pe_callB (call_len_seqK K) (by rfl) T.b_len (by decide +kernel) (pa_cons (pv 0) pa_nil)) (pe_gint T.g_MOST_THINGS (by rfl))))))) pss_never pss_nil)
    (pss_one (ps_ret (pv 0)))), ?_⟩
  rintro _ _ ⟨l, rfl, hw, hp, h1, h5, rfl⟩
  have h1' : (1 : Int) ≤ ((l.map PyData.str).length : Int) := by rw [List.length_map]; omega
  have h5' : ((l.map PyData.str).length : Int) ≤ 5 := by rw [List.length_map]; omega
  refine sq_if (a := false) (et_is (et_or (et_not (et_B (ev_call (ea_cons (ev_var rfl) ea_nil) ⟨l, rfl, hw, by omega, rfl⟩))) fun _ => et_not (et_test (ev_chain ev_int (ev_cb (ea_cons (ev_var rfl) ea_nil) rc_lenT) rv_le (fun _ => ev_int) fun _ => rv_le))) ?_) (fun q => by cases q) fun _ => sm_next (sm_ret (ev_var rfl) rfl)
  rw [asc_zip hp, decide_eq_true h1', decide_eq_true h5']
  rfl

abbrev N_without : List Str := ["one", "other", "thing"]
theorem sc_without : FnScope N_without ["one", "other"] (defScope s_without) := ⟨rfl, rfl, rfl, by decide +kernel, rfl, by decide +kernel, by decide +kernel⟩
theorem ok_without (h : Has K mg "without" s_without) (T : Txt mg) : Cal P w K mg base "without" 1 ["one", "other"] (spD R_without) := by
  refine cal_of h sc_without (fun _ _ _ _ _ _ us hl => match us, hl with | [_, _], _ => rfl) (by rintro _ _ ⟨x, y, rfl, _⟩; rfl) (by decide) fun f cdv A outer s H E hr => ?_
  refine ⟨_, (pss_one (ps_ret (pe_callTy (call_tuple_ofK K) (by rfl) T.b_tuple (by decide +kernel) (pa_cons (pe_lc (own := [("thing", 2)]) (g := (gName 2)) rfl sc_without.nd (pi_tupK K (pv 0)) (blkOk_by (own := [("thing", 2)]) (N := N_without) (sc := defScope s_without) (by decide +kernel)) (fun _ _ _ _ _ => (pg_name (i := 2) sc_without.nd rfl (by first | exact Or.inl rfl | exact Or.inr rfl))) (fun _ _ _ _ _ => (pts_one (pt_cmpR (op_notIn_seqK K) (pv 2) (pv 1) (by rfl)))) (fun _ _ _ _ _ => (pv 2))) pa_nil)))), ?_⟩
  rintro _ _ ⟨a, b, rfl, ha, rfl⟩
  refine sm_ret (ev_cb (ea_cons ?_ ea_nil) rc_tupL) rfl
  exact ev_lcF (fun x => !decide (x ∈ b)) (fun x => .str x) (ei_tup (ev_var rfl)) (sl := [2]) (by decide) (by omega) fun c hc => ⟨_, eg_name, et_test (ev_op (ev_var rfl) (ev_var rfl) rv_notInT), fun _ => ev_var rfl⟩

abbrev N_joined : List Str := ["one", "other", "thing"]
theorem sc_joined : FnScope N_joined ["one", "other"] (defScope s_joined) := ⟨rfl, rfl, rfl, by decide +kernel, rfl, by decide +kernel, by decide +kernel⟩
theorem ok_joined (h : Has K mg "joined" s_joined) (T : Txt mg) : Cal P w K mg base "joined" 1 ["one", "other"] (spD R_joined) := by
  refine cal_of h sc_joined (fun _ _ _ _ _ _ us hl => match us, hl with | [_, _], _ => rfl) (by rintro _ _ ⟨x, y, rfl, _⟩; rfl) (by decide) fun f cdv A outer s H E hr => ?_
  refine ⟨_, (pss_one (ps_ret (pe_callTy (call_tuple_ofK K) (by rfl) T.b_tuple (by decide +kernel) (pa_cons (pe_callB (cr_sortedSK K) (by rfl) T.b_sorted (by decide +kernel) (pa_cons (pe_lst (pa_starK K (pv 0) (pa_starK K (pe_lc (own := [("thing", 2)]) (g := (gName 2)) rfl sc_joined.nd (pi_tupK K (pv 1)) (blkOk_by (own := [("thing", 2)]) (N := N_joined) (sc := defScope s_joined) (by decide +kernel)) (fun _ _ _ _ _ => (pg_name (i := 2) sc_joined.nd rfl (by first | exact Or.inl rfl | exact Or.inr rfl))) (fun _ _ _ _ _ => (pts_one (pt_cmpR (op_notIn_seqK K) (pv 2) (pv 0) (by rfl)))) (fun _ _ _ _ _ => (pv 2))) pa_nil))) pa_nil)) pa_nil)))), ?_⟩
  rintro _ _ ⟨a, b, rfl, hl, rfl⟩
  have hf : (b.filter fun x => !decide (x ∈ a)).length ≤ b.length := List.length_filter_le _ _
  refine sm_ret (ev_cb (ea_cons (ev_cb (ea_cons ?_ ea_nil) (rc_sortedS (xs := a ++ b.filter fun x => !decide (x ∈ a)) (by rw [List.length_append]; omega))) ea_nil) rc_tupL) rfl
  rw [List.map_append]
  refine ev_lst ?_ (by rw [List.length_append, List.length_map, List.length_map]; omega)
  rw [List.map_append]
  refine ea_starT (ev_var rfl) (ea_starL1 ?_)
  exact ev_lcF (fun x => !decide (x ∈ a)) (fun x => .str x) (ei_tup (ev_var rfl)) (sl := [2]) (by decide) (by omega) fun c hc => ⟨_, eg_name, et_test (ev_op (ev_var rfl) (ev_var rfl) rv_notInT), fun _ => ev_var rfl⟩

abbrev N_steps : List Str := ["things", "lot", "thing"]
theorem sc_steps : FnScope N_steps ["things"] (defScope s_steps) := ⟨rfl, rfl, rfl, by decide +kernel, rfl, by decide +kernel, by decide +kernel⟩
theorem ok_steps (h : Has K mg "steps" s_steps) (C_all_lots : Cal P w K mg base "all_lots" 1 ["things"] (spD R_all_lots)) (C_without : Cal P w K mg base "without" 1 ["one", "other"] (spD R_without)) : Cal P w K mg base "steps" 2 ["things"] (spD R_steps) := by
  refine cal_of h sc_steps (fun _ _ _ _ _ _ us hl => match us, hl with | [_], _ => rfl) (by rintro _ _ ⟨x, rfl, _⟩; rfl) (by decide) fun f cdv A outer s H E hr => ?_
  refine ⟨_, (pss_one (ps_ret (pe_lc2 (own := [("lot", 1), ("thing", 2)]) (g := (gName 1)) (g1 := (gName 2)) (vs1 := [2]) rfl sc_steps.nd (pi_tupK K (pe_cal C_all_lots (hr.mono (by decide)) (by rfl) (pa_cons (pv 0) pa_nil))) (blkOk_by (own := [("lot", 1), ("thing", 2)]) (N := N_steps) (sc := defScope s_steps) (by decide +kernel)) (by decide) (fun _ _ _ _ _ => (pg_name (i := 1) sc_steps.nd rfl (by first | exact Or.inl rfl | exact Or.inr rfl))) (fun _ _ _ _ _ => pts_nil) (fun _ _ _ _ _ => (pi_tupK K (pe_cal C_without (hr.mono (by decide)) (by rfl) (pa_cons (pv 0) (pa_cons (pv 1) pa_nil))))) (fun _ _ _ _ _ => (pg_name (i := 2) sc_steps.nd rfl (by first | exact Or.inl rfl | exact Or.inr rfl))) (fun _ _ _ _ _ => pts_nil) (fun _ _ _ _ _ => (pe_tup (pa_cons (pv 1) (pa_cons (pv 2) pa_nil))))))), ?_⟩
  rintro _ _ ⟨l, rfl, hl, rfl⟩
  refine sm_ret (d := .p (.list ((stepsL l).map stepD))) (ev_is (ev_lc2 (xs := lots l) (φ := lotD) (fun a => l.filter fun x => !decide (x ∈ a)) (fun _ x => .str x) (fun _ _ => true) (fun a x => stepD (a, x)) (ei_tup (ev_call (ea_cons (ev_var rfl) ea_nil) ⟨l, rfl, hl, rfl⟩)) (sl := [1]) (sl1 := [2]) (by decide) (by decide) ?_ ?_) ?_) rfl
  · have := steps_le hl
    unfold stepsL at this
    refine Nat.le_trans (Nat.le_of_eq ?_) (Nat.le_trans this (by decide))
    simp only [List.length_flatMap, List.length_map, filter_tt]
  · intro a ha
    refine ⟨_, eg_name, ei_tup (ev_call (ea_cons (ev_var rfl) (ea_cons (ev_var rfl) ea_nil)) ⟨l, a, rfl, by omega, rfl⟩), fun x hx => ⟨_, eg_name, et_yes, fun _ => ?_⟩⟩
    exact ev_tup (ds := [lotD a, .str x]) (ea_cons (ev_var rfl) (ea_cons (ev_var rfl) ea_nil)) (by simp)
  · unfold stepsL
    rw [List.map_flatMap]
    simp only [filter_tt, List.map_map]
    rfl

abbrev N_corners : List Str := ["things", "lot", "one", "other"]
theorem sc_corners : FnScope N_corners ["things"] (defScope s_corners) := ⟨rfl, rfl, rfl, by decide +kernel, rfl, by decide +kernel, by decide +kernel⟩
theorem ok_corners (h : Has K mg "corners" s_corners) (C_steps : Cal P w K mg base "steps" 2 ["things"] (spD R_steps)) (C_without : Cal P w K mg base "without" 1 ["one", "other"] (spD R_without)) : Cal P w K mg base "corners" 3 ["things"] (spD R_corners) := by
  refine cal_of h sc_corners (fun _ _ _ _ _ _ us hl => match us, hl with | [_], _ => rfl) (by rintro _ _ ⟨x, rfl, _⟩; rfl) (by decide) fun f cdv A outer s H E hr => ?_
  refine ⟨_, (pss_one (ps_ret (pe_lc2 (own := [("lot", 1), ("one", 2), ("other", 3)]) (g := (gTup K 2 (gCons (gName 1) (gCons (gName 2) gNil)))) (g1 := (gName 3)) (vs1 := [3]) rfl sc_corners.nd (pi_listK K (pe_cal C_steps (hr.mono (by decide)) (by rfl) (pa_cons (pv 0) pa_nil))) (blkOk_by (own := [("lot", 1), ("one", 2), ("other", 3)]) (N := N_corners) (sc := defScope s_corners) (by decide +kernel)) (by decide) (fun _ _ _ _ _ => (pg_tupK K rfl (pgs_cons (pg_name (i := 1) sc_corners.nd rfl (by first | exact Or.inl rfl | exact Or.inr rfl)) (pgs_cons (pg_name (i := 2) sc_corners.nd rfl (by first | exact Or.inl rfl | exact Or.inr rfl)) pgs_nil)))) (fun _ _ _ _ _ => pts_nil) (fun _ _ _ _ _ => (pi_tupK K (pe_cal C_without (hr.mono (by decide)) (by rfl) (pa_cons (pv 0) (pa_cons (pv 1) pa_nil))))) (fun _ _ _ _ _ => (pg_name (i := 3) sc_corners.nd rfl (by first | exact Or.inl rfl | exact Or.inr rfl))) (fun _ _ _ _ _ => (pts_one (pt_cmpR op_lt_str (pv 2) (pv 3) (nomark _)))) (fun _ _ _ _ _ => (pe_tup (pa_cons (pv 1) (pa_cons (pv 2) (pa_cons (pv 3) pa_nil)))))))), ?_⟩
  rintro _ _ ⟨l, rfl, hl, rfl⟩
  refine sm_ret (d := .p (.list ((cornersL l).map cornerD))) (ev_is (ev_lc2 (xs := stepsL l) (φ := stepD) (fun p => l.filter fun x => !decide (x ∈ p.1)) (fun _ x => .str x) (fun p x => decide (ltS p.2 x)) (fun p x => cornerD (p.1, p.2, x)) (ei_list (ev_call (ea_cons (ev_var rfl) ea_nil) ⟨l, rfl, hl, rfl⟩)) (sl := [1, 2]) (sl1 := [3]) (by decide) (by decide) ?_ ?_) ?_) rfl
  · have := corners_le hl
    unfold cornersL at this
    refine Nat.le_trans (Nat.le_of_eq ?_) (Nat.le_trans this (by decide))
    simp only [List.length_flatMap, List.length_map]
  · rintro ⟨a, x⟩ ha
    refine ⟨_, eg_tup rfl (egs_cons eg_name (egs_cons eg_name egs_nil)), ei_tup (ev_call (ea_cons (ev_var rfl) (ea_cons (ev_var rfl) ea_nil)) ⟨l, a, rfl, by omega, rfl⟩), fun y hy => ⟨_, eg_name, et_test (ev_op (x := .p (.str x)) (ev_var rfl) (ev_var rfl) rv_ltS), fun _ => ?_⟩⟩
    exact ev_tup (ds := [lotD a, .str x, .str y]) (ea_cons (ev_var rfl) (ea_cons (ev_var rfl) (ea_cons (ev_var rfl) ea_nil))) (by simp)
  · unfold cornersL
    rw [List.map_flatMap]
    simp only [List.map_map]
    rfl

abbrev N_rules : List Str := ["things", "found", "lot", "thing", "one", "other"]
theorem sc_rules : FnScope N_rules ["things"] (defScope s_rules) := ⟨rfl, rfl, rfl, by decide +kernel, rfl, by decide +kernel, by decide +kernel⟩
theorem ok_rules (h : Has K mg "rules" s_rules) (T : Txt mg) (C_steps : Cal P w K mg base "steps" 2 ["things"] (spD R_steps)) (C_corners : Cal P w K mg base "corners" 3 ["things"] (spD R_corners)) : Cal P w K mg base "rules" 4 ["things"] (spD R_rules) := by
  refine cal_of h sc_rules (fun _ _ _ _ _ _ us hl => match us, hl with | [_], _ => rfl) (by rintro _ _ ⟨x, rfl, _⟩; rfl) (by decide) fun f cdv A outer s H E hr => ?_
  refine ⟨_, (pss_cons (ps_set (i := 1) sc_rules.nd rfl (by first | exact Or.inl rfl | exact Or.inr rfl) (pe_lst (pa_cons (pe_tup (pa_cons (pe_gstr T.g_NONE (by rfl)) pa_nil)) (pa_starK K (pe_lc (own := [("lot", 2), ("thing", 3)]) (g := (gTup K 2 (gCons (gName 2) (gCons (gName 3) gNil)))) rfl sc_rules.nd (pi_listK K (pe_cal C_steps (hr.mono (by decide)) (by rfl) (pa_cons (pv 0) pa_nil))) (blkOk_by (own := [("lot", 2), ("thing", 3)]) (N := N_rules) (sc := defScope s_rules) (by decide +kernel)) (fun _ _ _ _ _ => (pg_tupK K rfl (pgs_cons (pg_name (i := 2) sc_rules.nd rfl (by first | exact Or.inl rfl | exact Or.inr rfl)) (pgs_cons (pg_name (i := 3) sc_rules.nd rfl (by first | exact Or.inl rfl | exact Or.inr rfl)) pgs_nil)))) (fun _ _ _ _ _ => pts_nil) (fun _ _ _ _ _ => (pe_tup (pa_cons (pe_gstr T.g_STEP (by rfl)) (pa_cons (pv 2) (pa_cons (pv 3) pa_nil)))))) pa_nil))))
    (pss_one (ps_ret (pe_callTy (call_tuple_ofK K) (by rfl) T.b_tuple (by decide +kernel) (pa_cons (pe_lst (pa_starK K (pv 1) (pa_starK K (pe_lc (own := [("lot", 2), ("one", 4), ("other", 5)]) (g := (gTup K 3 (gCons (gName 2) (gCons (gName 4) (gCons (gName 5) gNil))))) rfl sc_rules.nd (pi_listK K (pe_cal C_corners (hr.mono (by decide)) (by rfl) (pa_cons (pv 0) pa_nil))) (blkOk_by (own := [("lot", 2), ("one", 4), ("other", 5)]) (N := N_rules) (sc := defScope s_rules) (by decide +kernel)) (fun _ _ _ _ _ => (pg_tupK K rfl (pgs_cons (pg_name (i := 2) sc_rules.nd rfl (by first | exact Or.inl rfl | exact Or.inr rfl)) (pgs_cons (pg_name (i := 4) sc_rules.nd rfl (by first | exact Or.inl rfl | exact Or.inr rfl)) (pgs_cons (pg_name (i := 5) sc_rules.nd rfl (by first | exact Or.inl rfl | exact Or.inr rfl)) pgs_nil))))) (fun _ _ _ _ _ => pts_nil) (fun _ _ _ _ _ => (pe_tup (pa_cons (pe_gstr T.g_PAIR (by rfl)) (pa_cons (pv 2) (pa_cons (pv 4) (pa_cons (pv 5) pa_nil))))))) pa_nil))) pa_nil))))), ?_⟩
  rintro _ _ ⟨l, rfl, hl, rfl⟩
  have h1 := steps_le hl
  have h2 := corners_le hl
  refine sq_set (d := .p (.list (ruleD .none :: (stepsL l).map fun p => ruleD (.step p.1 p.2)))) (ev_lst ?_ (by simp; omega)) (sm_ret (ev_cb (ea_cons (ev_lst (ds := (rulesL l).map ruleD) ?_ (by simp [rulesL]; omega)) ea_nil) rc_tupL) rfl)
  · rw [List.map_cons]
    refine ea_cons (ev_tup (ds := [.str "none"]) (ea_cons ev_str ea_nil) (by simp)) (ea_starL1 ?_)
    refine ev_lcM (cs := stepsL l) (φ := stepD) (fun p => ruleD (.step p.1 p.2)) (ei_list (ev_call (ea_cons (ev_var rfl) ea_nil) ⟨l, rfl, hl, rfl⟩)) (sl := [2, 3]) (by decide) (by omega) ?_
    rintro ⟨a, x⟩ ha
    exact ⟨_, eg_tup rfl (egs_cons eg_name (egs_cons eg_name egs_nil)), ev_tup (ds := [.str "step", lotD a, .str x]) (ea_cons ev_str (ea_cons (ev_var rfl) (ea_cons (ev_var rfl) ea_nil))) (by simp)⟩
  · have e : (rulesL l).map ruleD = (ruleD .none :: (stepsL l).map fun p => ruleD (.step p.1 p.2)) ++ (cornersL l).map fun p => ruleD (.pair p.1 p.2.1 p.2.2) := by
      unfold rulesL
      rw [List.map_append, List.map_cons, List.map_map, List.map_map]
      rfl
    rw [e, List.map_append]
    refine ea_starL (ev_var rfl) (ea_starL1 ?_)
    refine ev_lcM (cs := cornersL l) (φ := cornerD) (fun p => ruleD (.pair p.1 p.2.1 p.2.2)) (ei_list (ev_call (ea_cons (ev_var rfl) ea_nil) ⟨l, rfl, hl, rfl⟩)) (sl := [2, 4, 5]) (by decide) (by omega) ?_
    rintro ⟨a, x, y⟩ ha
    exact ⟨_, eg_tup rfl (egs_cons eg_name (egs_cons eg_name (egs_cons eg_name egs_nil))), ev_tup (ds := [.str "pair", lotD a, .str x, .str y]) (ea_cons ev_str (ea_cons (ev_var rfl) (ea_cons (ev_var rfl) (ea_cons (ev_var rfl) ea_nil)))) (by simp)⟩
end
end SL
set_option Elab.async false
set_option linter.all false
set_option maxRecDepth 100000
set_option maxHeartbeats 4000000
/-! More rules over the readings: t[::-1] of a tuple, text * int, enumerate(tuple). -/
namespace NW
open PySem PySem.Spec PyProof.Rows L2

/-! ### t[::-1] -/
section
variable {prog : Program} {w : World} {A : Around} {E : Value → Shared → Prop} {s : Shared}
theorem rev_adjust (n : Nat) : Builtin.Slice.sliceAdjust none none (-1) (n : Int) = ((n : Int) - 1, -1) := by
  unfold Builtin.Slice.sliceAdjust
  rfl
theorem rev_places (n : Nat) : Builtin.Slice.slicePlaces ((n : Int) - 1) (-1) (-1) = n := by
  unfold Builtin.Slice.slicePlaces
  have h1 : ¬ ((-1 : Int) > 0) := by omega
  rw [if_neg h1]
  by_cases h : (n : Int) - 1 > -1
  · rw [if_pos h]
    have e : -(-1 : Int) = 1 := by decide
    rw [e, Int.ediv_one]
    omega
  · rw [if_neg h]
    omega
theorem sliceApplied_rev {sl : Addr} {vs : Value} {n : Nat} {Q : Int × Int × Nat → Shared → Prop} (hs : s.heap.IsSliceOf sl .none .none vs) (ps : IsPart vs (some (-1)))
    (h : Q ((n : Int) - 1, -1, n) s) : wpAny (model prog w) A (Builtin.Slice.sliceApplied (.ref sl) (pure (n : Int))) Q E s := by
  obtain ⟨os, hos, hcs, hds⟩ := id hs
  unfold Builtin.Slice.sliceApplied Builtin.Slice.sliceFields
  refine wpAny_bind (wpAny_bind (wpAny_field hos hds (x := .none) rfl (wpAny_bind (wpAny_field hos hds (x := .none) rfl (wpAny_bind (wpAny_field hos hds (x := vs) rfl (wpAny_pure ?_)))))))
  refine wpAny_bind (HT.slicePart_ ps ?_)
  show wpAny _ _ (if ((-1 : Int) == 0) = true then _ else _) _ _ s
  rw [if_neg (by decide)]
  refine wpAny_bind (slicePart_none (wpAny_bind (slicePart_none (wpAny_bind (wpAny_pure ?_)))))
  show wpAny _ _ (match Builtin.Slice.sliceAdjust none none (-1) (n : Int) with | (lo, hi) => pure (lo, (-1 : Int), Builtin.Slice.slicePlaces lo hi (-1))) _ _ s
  rw [rev_adjust n]
  show wpAny _ _ (pure ((n : Int) - 1, (-1 : Int), Builtin.Slice.slicePlaces ((n : Int) - 1) (-1) (-1))) _ _ s
  rw [rev_places]
  exact wpAny_pure h
theorem filterMap_eq {α β : Type} {f g : α → Option β} : ∀ {l : List α}, (∀ m ∈ l, f m = g m) → l.filterMap f = l.filterMap g
  | [], _ => rfl
  | a :: r, h => by
    rw [List.filterMap_cons, List.filterMap_cons, h a List.mem_cons_self, filterMap_eq fun m hm => h m (List.mem_cons_of_mem _ hm)]
theorem rev_pick (xs : Array Value) : ((List.range xs.size).filterMap fun (m : Nat) => xs[((xs.size : Int) - 1 + (m : Int) * (-1)).toNat]?) = xs.toList.reverse := by
  have h1 : ((List.range xs.size).filterMap fun (m : Nat) => xs[((xs.size : Int) - 1 + (m : Int) * (-1)).toNat]?) = ((List.range xs.size).map fun k => xs.size - 1 - k).filterMap (xs[·]?) := by
    rw [List.filterMap_map]
    refine filterMap_eq fun m hm => ?_
    have := List.mem_range.mp hm
    show xs[((xs.size : Int) - 1 + (m : Int) * (-1)).toNat]? = xs[xs.size - 1 - m]?
    have e : ((xs.size : Int) - 1 + (m : Int) * (-1)).toNat = xs.size - 1 - m := by omega
    rw [e]
  rw [h1, PySem.W.krv_range, List.filterMap_reverse, PySem.W.krv_all]
theorem getItem_tuple_rev {t sl : Addr} {items : Array Value} {vs : Value} {Q : Value → Shared → Prop} (ht : IsTup s.heap t items) (hs : s.heap.IsSliceOf sl .none .none vs) (ps : IsPart vs (some (-1)))
    (h : Q (.ref s.heap.objs.size) { s with heap := s.heap.push { cls := .type "tuple", data := .seq items.toList.reverse.toArray } })
    (hsz : items.size ≤ sizeLine) : wpAny (model prog w) A (getItem (.ref t) (.ref sl)) Q E s := by
  have htake : sizeOk (.seq items.toList.reverse.toArray) := by
    show items.toList.reverse.toArray.size ≤ sizeLine
    rw [List.size_toArray, List.length_reverse, Array.length_toList]
    exact hsz
  obtain ⟨os, hos, hcs, hds⟩ := id hs
  have hTs : s.TypeIs (.ref sl) "slice" := ⟨os, hos, hcs⟩
  unfold getItem
  try with_reducible refine wpAny_holding ?_
  first | refine wpAny_bind (wpAny_pure ?_) | skip
  refine wpAny_bind (wpAny_sequenceKey ht.typeIs (by decide) ?_)
  refine wpAny_bind (wpAny_callSpecial?_slot (name := Str.ofString "__getitem__") ht.typeIs PyProof.Rows.slot_tuple_getitem
    (wpAny_call_entry PyProof.Rows.slot_tuple_getitem ht.typeIs entry_tuple_getitem ?_ (args_tuple_getitem _ _)))
  show wpAny _ _ (Builtin.Tuple.tupleItemsOf (.ref t) >>= _) _ _ s
  refine wpAny_bind (tupleItemsOf_ ht ?_)
  refine wpAny_bind (wpAny_typeOf hTs ?_)
  rw [if_pos (by decide)]
  refine wpAny_bind (sliceApplied_rev hs ps ?_)
  have hno : ¬ (((((items.size : Int) - 1) == 0) && (-1 : Int) == 1 && items.size == items.size) = true) := by
    intro q
    rw [Bool.and_eq_true, Bool.and_eq_true] at q
    exact absurd q.1.2 (by decide)
  show wpAny _ _ (if ((((items.size : Int) - 1) == 0) && (-1 : Int) == 1 && items.size == items.size) = true then _ else _) _ _ s
  rw [if_neg hno, rev_pick]
  first
    | exact wpAny_bind (m := Builtin.Tuple.tupleExact _) (wpAny_newObj_type (wpAny_pure ⟨_, rfl, wpAny_pure h⟩) htake)
    | exact wpAny_bind (m := Builtin.Tuple.tupleExact _) (wpAny_newObj_type (wpAny_bind (wpAny_pure (wpAny_pure ⟨_, rfl, wpAny_pure h⟩))) htake)
    | exact wpAny_bind (wpAny_bind (m := Builtin.Tuple.tupleExact _) (wpAny_newObj_type (wpAny_pure (wpAny_pure ⟨_, rfl, wpAny_pure h⟩)) htake))
    | exact wpAny_bind (wpAny_bind (m := Builtin.Tuple.tupleExact _) (wpAny_newObj_type (wpAny_pure ⟨_, rfl, wpAny_pure h⟩) htake))
end
def tRevT (K : PySem.W.Frag) (te : TE) : TE := fun σ H Q => te σ H fun x H1 => ∃ a xs, x = .ref a ∧ SqT K H1 a xs ∧ ∀ p, H1 p = none → Q (.ref p) (upd H1 p (.tup xs.reverse))
section
variable {X : Cx}
theorem pe_revT {e : Expr} {te : TE} {k : Nat} {p1 p2 p3 pos : Pos} (he : PE X e te) : PE X (.Subscript e (.Slice none none (some (.UnaryOp .USub (.Constant (.int 1) k p1) p2)) p3) pos) (tRevT X.K te) := by
  refine ⟨fun pins s σ H Q I h => ?_⟩
  refine Subscript_ (thn (he.run pins s σ H _ I h) fun v s1 ⟨x, H1, I1, r1, q1⟩ => ?_)
  obtain ⟨a, xs, ex, hx, q⟩ := q1
  subst ex
  cases r1
  have hst : PO X (some (.UnaryOp .USub (.Constant (.int 1) k p1) p2)) (tPart (tUn (rU fun i => .int (-i)) (tC (.int 1)))) := po_some (pe_un un_neg pe_int)
  refine wpAny_Slice ?_
  rw [evalPart_none]
  refine wpAny_pure (wpAny_pure ?_)
  refine thn (hst.run pins s1 σ H1 (fun o H4 => o = some (-1) ∧ H4 = H1) I1 ⟨1, rfl, -1, rfl, rfl, rfl⟩) fun vs s4 ⟨o, H4, I4, ps, eo, e4⟩ => ?_
  subst eo e4
  have I5 : Inv X pins σ H4 { s4 with heap := s4.heap.push { cls := .type "slice", data := .fields #[.none, .none, vs] } } := I4.kept (t' := s4.toks) fun b ob q => Heap.get?_push_of_some _ q
  obtain ⟨its, r, ht, hz⟩ := I5.tuple hx
  have hlen := r.length
  show wpAny (model X.prog X.w) X.A (subscriptTail e (.Slice none none (some (.UnaryOp .USub (.Constant (.int 1) k p1) p2)) p3) (.ref a) (.ref s4.heap.objs.size)) (EP X pins σ Q) X.xe { s4 with heap := s4.heap.push { cls := .type "slice", data := .fields #[.none, .none, vs] } }
  refine tail_any (ops := [.ref a, .ref s4.heap.objs.size]) ht.typeIs PyProof.Rows.slot_tuple_getitem.lookup ?_ (by with_unfolding_all rfl)
  refine getItem_tuple_rev ht (Heap.IsSliceOf.new _ .none .none vs) ps ?_ (by rw [List.size_toArray]; omega)
  refine ⟨.ref _, _, I5.laid (t' := s4.toks) (o := .tup xs.reverse) (fun b ob q => Heap.get?_push_of_some _ q) (Nat.le_refl _) ?_, rfl, q _ (I5.hok.fresh (Nat.le_refl _))⟩
  exact ⟨by rw [List.length_reverse]; exact hz, _, r.reverse, IsTup.new _ _⟩
theorem pe_revTK (K : PySem.W.Frag) {e : Expr} {te : TE} {k : Nat} {p1 p2 p3 pos : Pos} (he : PE X e te) (h : X.K = K := by rfl) : PE X (.Subscript e (.Slice none none (some (.UnaryOp .USub (.Constant (.int 1) k p1) p2)) p3) pos) (tRevT K te) := by
  subst h
  exact pe_revT he
end

/-! ### text * int -/
theorem rep_size (c : Array Nat) : ∀ (m : Nat) (a : Array Nat), ((List.replicate m c).foldl (· ++ ·) a).size = a.size + m * c.size
  | 0, a => by simp
  | m + 1, a => by
    rw [List.replicate_succ, List.foldl_cons, rep_size c m, Array.size_append, Nat.add_mul]
    omega
def repS (x : Str) (n : Nat) : Str := ⟨(List.replicate n x.cps).foldl (· ++ ·) #[]⟩
def rRepS : R2 := fun x y H Q => ∃ z n, x = .str z ∧ y = .int n ∧ 2 ≤ n ∧ n ≤ 1000 ∧ z.length ≤ 1000 ∧ Q (.str (repS z n.toNat)) H
section
variable {X : Cx}
theorem op_repS : OpR X (binaryOp .Mult) rRepS := by
  intro pins s σ H x y v u Q I rx ry h
  obtain ⟨z, n, rfl, rfl, h2, hn, hz, q⟩ := h
  obtain ⟨t, rfl⟩ := rx
  obtain ⟨t2, rfl⟩ := ry
  have big : (sizeLine : Int) ≥ 2000000 := by rw [sizeLine_eq]; omega
  refine P.mul_str ?_ (fun _ _ => ?_) (fun _ _ => ?_) ?_
  · rw [decide_eq_false (by omega), decide_eq_false (by omega)]
    rfl
  · intro hc
    have h3 : (2 ^ 63 - 1 : Int) / n ≥ 1000 := by
      rw [ge_iff_le, Int.le_ediv_iff_mul_le (by omega)]
      omega
    omega
  · unfold Builtin.Str.tooLong
    rw [sizeLine_eq]
    refine decide_eq_false ?_
    have a1 : z.length * n.toNat ≤ 1000 * 1000 := Nat.mul_le_mul hz (by omega)
    omega
  · rw [if_neg (by omega)]
    by_cases hc : (n == 1 || z.length == 0) = true
    · rw [if_pos hc]
      have hz0 : z.length = 0 := by
        rw [Bool.or_eq_true] at hc
        rcases hc with c | c
        · exact absurd (eq_of_beq c) (by omega)
        · exact eq_of_beq c
      have e : repS z n.toNat = z := by
        have : z.cps = #[] := Array.eq_empty_of_size_eq_zero hz0
        have key : ∀ m : Nat, (List.replicate m (#[] : Array Nat)).foldl (· ++ ·) #[] = #[] := fun m => by
          induction m with
          | zero => rfl
          | succ m ih => rw [List.replicate_succ, List.foldl_cons]; exact ih
        cases z with
        | mk c =>
          have this' : c = #[] := this
          subst this'
          unfold repS
          rw [key]
      rw [e] at q
      exact ⟨.str z, H, I, ⟨t, rfl⟩, q⟩
    · rw [if_neg hc]
      refine ⟨?_, .str _, H, I.tok _, ⟨_, rfl⟩, q⟩
      show (repS z n.toNat).length ≤ sizeLine
      have e : (repS z n.toNat).length = #[].size + n.toNat * z.cps.size := rep_size z.cps n.toNat #[]
      rw [e, sizeLine_eq]
      have a1 : n.toNat * z.cps.size ≤ 1000 * 1000 := Nat.mul_le_mul (by omega) hz
      have a2 : (#[] : Array Nat).size = 0 := rfl
      omega
theorem repS_len (z : Str) (n : Nat) : (repS z n).length = n * z.length := by
  have e : (repS z n).length = #[].size + n * z.cps.size := rep_size z.cps n #[]
  rw [e]
  exact Nat.zero_add _
end

/-! ### enumerate(tuple) -/
theorem meets_enumerate_newT (l : Addr) (items : Array Value) :
    Meets (Builtin.«enumerate.__new__» ⟨[.type "enumerate", .ref l], []⟩) (fun _ R s => s.heap.IsTuple l items ∧
      R (.ok (.ret (.ref (s.heap.push { cls := .type "tuple_iterator", data := .fields #[.ref l, .int 0 0] }).objs.size)))
        { s with heap := (s.heap.push { cls := .type "tuple_iterator", data := .fields #[.ref l, .int 0 0] }).push { cls := .type "enumerate", data := .fields #[.none, .bool false, .ref s.heap.objs.size, rawInt 0, .none, .none] } }) :=
  .of_wp fun prog w A R s h => by
    obtain ⟨hp, g, d, tk, os⟩ := s; obtain ⟨hl, h⟩ := h
    have hsub := sub_enumerate
    have hL : Heap.IsTuple (Shared.heap ⟨hp, g, d, tk, os⟩) l items := hl
    wp_walk using wpAny_pyIter_tuple hL
    refine wpAny_stack_any fun st => wpAny_pure ?_
    split
    · rename_i c _ _ _ _ _
      cases (c == Value.type "enumerate")
      · wp_walk using wpAny_pyIter_tuple hL
        exact ⟨_, rfl, h⟩
      · wp_walk using wpAny_pyIter_tuple hL
        exact ⟨_, rfl, h⟩
    · wp_walk using wpAny_pyIter_tuple hL
      exact ⟨_, rfl, h⟩
section
variable {prog : Program} {w : World} {A : Around} {E : Value → Shared → Prop} {s : Shared}
theorem call_enumerate_tuple {l : Addr} {items : Array Value} {Q : Value → Shared → Prop} (hL : s.heap.IsTuple l items)
    (h : ∀ h', IsEnum h' (s.heap.objs.size + 1) s.heap.objs.size 0 .none → h'.IsTupleIter s.heap.objs.size l 0 → h'.objs.size = s.heap.objs.size + 2 →
      (∀ b o, s.heap.get? b = some o → h'.get? b = some o) → Q (.ref (s.heap.objs.size + 1)) { s with heap := h' }) :
    wpAny (model prog w) A (call (.type "enumerate") [.ref l]) Q E s := by
  refine callType_new F.called_enumerate (by decide) (F.typeCall_enumerate_1 _) (F.newCall_enumerate_1 _) (fun obj => F.args_object_init_2 obj _) F.entry_enumerate_new
    (meets_enumerate_newT l items) ⟨hL, ?_⟩
  have hz : (s.heap.push { cls := .type "tuple_iterator", data := .fields #[.ref l, .int 0 0] }).objs.size = s.heap.objs.size + 1 := Heap.size_push ..
  show _ ∧ _
  rw [hz]
  have he : IsEnum ((s.heap.push { cls := .type "tuple_iterator", data := .fields #[.ref l, .int 0 0] }).push
      { cls := .type "enumerate", data := .fields #[.none, .bool false, .ref s.heap.objs.size, rawInt 0, .none, .none] }) (s.heap.objs.size + 1) s.heap.objs.size 0 .none := by
    have := Heap.get?_push_size (s.heap.push { cls := .type "tuple_iterator", data := .fields #[.ref l, .int 0 0] })
      (o := { cls := .type "enumerate", data := .fields #[.none, .bool false, .ref s.heap.objs.size, rawInt 0, .none, .none] }) rfl
    rw [hz] at this; exact this
  refine ⟨⟨_, he, rfl⟩, h _ he ⟨_, Heap.get?_push_of_some _ (Heap.get?_push_size _ rfl), rfl, rfl⟩ (by rw [Heap.size_push, hz]) fun b o x => Heap.get?_push_of_some _ (Heap.get?_push_of_some _ x)⟩
end
theorem draws_tuple {prog : Program} {w : World} {A : Around} (hh : A.handled = none) (it l : Addr) (hne : l ≠ it) (items : Array Value) :
    Draws prog w A it [it, l] items.size (fun i v => items[i]? = some v) (fun i h => h.IsTupleIter it l i ∧ h.IsTuple l items) where
  live := fun _ _ st => let ⟨o, ho, _⟩ := st.1; ⟨o, ho⟩
  frame := fun _ _ _ st hk => ⟨st.1.at fun o e => hk it (by simp) o e, by
    obtain ⟨o, ho, r⟩ := st.2
    exact ⟨o, hk l (by simp) o ho, r⟩⟩
  item := fun i s Q E hi st hQ => by
    refine RZ.nextOf_tuple_item st.1 st.2 (x := items[i]) (by simp [hi]) fun h' hit' hs' => ?_
    exact hQ _ h' s.toks (by simp [hi]) ⟨hit', st.2.extBut hs'.extBut hne⟩ hs'
  done := fun s Q E st hE => RZ.nextOf_tuple_end hh st.1 st.2 (by simp) hE
/-- the tuple at a, each item in a new pair -/
def IteT (K : PySem.W.Frag) (a : Addr) : It :=
  ⟨fun i H => ∃ (xs : List V) (x : V), SqT K H a xs ∧ xs[i]? = some x, fun i H v H' => ∃ T x, v = .ref T ∧ H T = none ∧ H' = upd H T (.tup [.int (i : Nat), x]) ∧ ∀ xs, SqT K H a xs → xs[i]? = some x, fun i H => ∃ xs : List V, SqT K H a xs ∧ xs.length ≤ i⟩
theorem turn_enumT {P : Program} {w : World} {K : PySem.W.Frag} {elts : List Expr} {kk : Nat} {tpos : Pos} (a e it : Addr) (hae : a ≠ e) (hai : a ≠ it) :
    Turn P w K (.Tuple elts kk tpos) (IteT K a) [e, it] e (fun i h => (∃ old, IsEnum h e it ((i : Nat) : Int) old) ∧ h.IsTupleIter it a i ∧ e ≠ it) where
  mem := by simp
  obj := fun i h st b hb => by
    obtain ⟨⟨old, he⟩, ⟨o, ho, hc, hd⟩, _⟩ := st
    have e' : b = e ∨ b = it := by simpa using hb
    rcases e' with z | z
    · rw [z]; exact ⟨_, he, fun v q => nomatch q⟩
    · rw [z]; exact ⟨o, ho, fun v q => by rw [hd] at q; cases q⟩
  keep := fun i h h' st k => let ⟨⟨old, he⟩, hi, hne⟩ := st; ⟨⟨old, k e (by simp) _ he⟩, hi.at fun o q => k it (by simp) o q, hne⟩
  item := by
    intro X hP hw hK hc i pins s σ H E I hf st hg
    subst hP hw hK
    obtain ⟨⟨old, he⟩, hit, hne⟩ := st
    obtain ⟨xs, x, hq, hx⟩ := hg
    obtain ⟨its, rv, p, hz⟩ := I.tuple hq
    obtain ⟨u, hu, ru⟩ := rv.get hx
    have hel : e < s.heap.objs.size := Heap.lt_size he
    have hil : it < s.heap.objs.size := by obtain ⟨_, q, _⟩ := hit; exact Heap.lt_size q
    have hil2 : i < its.toArray.size := by
      have := (List.getElem?_eq_some_iff.mp hu).1
      simpa using this
    refine wpAny_pyNext_enum_itemD (draws_tuple (prog := X.prog) (w := X.w) (A := X.A.in1) (I.ok.hd hc) it a hai its.toArray) he ⟨hit, p⟩ hil2 hne (by simp; exact ⟨hne, fun q => hae q.symm⟩) fun x' h' tk hP ho hst' hT hsz hk => ?_
    have ex : x' = u := by
      have hP' : its.toArray[i]? = some x' := hP
      have : its[i]? = some x' := by simpa using hP'
      rw [hu] at this
      exact (Option.some.inj this).symm
    subst ex
    have hit' := hst'.1
    refine ⟨_, rfl, wpAny_letOwnedTupleGo_enum (s := { s with heap := h', toks := tk + 1 }) ho fun h'' he' sb => ?_⟩
    have hT2 : h''.get? s.heap.objs.size = some { cls := .type "tuple", data := .seq #[.int i tk, x'] } := (sb.2 _ (Nat.ne_of_gt hel)).trans hT
    have new : ObjOk X.prog X.w (upd H s.heap.objs.size (.tup [.int (i : Nat), x])) h'' s.heap.objs.size (.tup [.int (i : Nat), x]) :=
      ⟨by show 2 ≤ sizeLine; decide, [.int i tk, x'], .cons ⟨_, rfl⟩ (.cons ru .nil), ⟨_, hT2, rfl, _, rfl⟩⟩
    have I1 : Inv X pins σ (upd H s.heap.objs.size (.tup [.int (i : Nat), x])) { s with heap := h'', toks := tk + 1 } :=
      I.turnedNew (ch := [e, it]) (fun b ob hb q => (sb.2 b (fun z => hb (by simp [z]))).trans (hk b ob (fun z => hb (by simp [z])) (fun z => hb (by simp [z])) q)) hf (Nat.le_refl _) new
    refine ⟨.ref s.heap.objs.size, _, I1, rfl, ⟨_, x, rfl, I.hok.fresh (Nat.le_refl _), rfl, fun ys hy => by rw [I.tuple_inj hy hq]; exact hx⟩, ⟨⟨x', ?_⟩, hit'.at fun o q => (sb.2 it (Ne.symm hne)).trans q, hne⟩, fun b hb => ?_⟩
    · have e1 : ((i + 1 : Nat) : Int) = (i : Int) + 1 := by omega
      rw [e1]; exact he'
    · have hb' : b < s.heap.objs.size := by
        have e' : b = e ∨ b = it := by simpa using hb
        rcases e' with z | z
        · rw [z]; exact hel
        · rw [z]; exact hil
      rw [upd_ne (Nat.ne_of_lt hb')]
      exact (hf b hb).1
  done := by
    intro X hP hw hK hc i pins s σ H E I hf st hg
    subst hP hw hK
    obtain ⟨⟨old, he⟩, hit, hne⟩ := st
    obtain ⟨xs, hq, hx⟩ := hg
    obtain ⟨its, rv, p, hz⟩ := I.tuple hq
    obtain ⟨f0, f1, f2, f3, f4, f5⟩ := hf it (by simp)
    have hl := rv.length
    have hT : s.TypeIs (.ref e) "enumerate" := ⟨_, he, rfl⟩
    unfold pyNext
    refine wpAny_bind (wpAny_attempt (wpAny_callSpecial?_slot (name := Str.ofString "__next__") hT F.slot_enumerate_next
      (wpAny_call_entry F.slot_enumerate_next hT F.entry_enumerate_next ?_ (F.args_enumerate_next_1 _))))
    show wpAny _ _ (field (.ref e) 2 >>= _) _ _ _
    refine wpAny_bind (wpAny_field he rfl (x := .ref it) rfl ?_)
    refine wpAny_bind (RZ.nextOf_tuple_end (I.ok.hd hc) hit p (by simp; omega) fun h' x he' hx' => ?_)
    obtain ⟨o, ho, hc'⟩ := hx'
    refine wpAny_bind (wpAny_isInstance (T := "StopIteration") (b := true) ⟨o, ho, hc'⟩ isSubtype_stop ?_)
    exact wpAny_pure ⟨rfl, I.turned (t' := s.toks) (fun b o hb q => he' b o hb q) f0 f1 f3 f4 f5⟩
  self := fun A i s Q E st h => let ⟨⟨_, he⟩, _⟩ := st; wpAny_pyIter_enum he h
/-- enumerate of a list or a tuple -/
def iEnumA (K : PySem.W.Frag) (ta : TA) : TI := fun σ H R => ta σ H fun vs H1 => ∃ a xs, vs = [.ref a] ∧ ((SqL K H1 a xs ∧ R (Ite K a) H1) ∨ (SqT K H1 a xs ∧ R (IteT K a) H1))
theorem pi_enumA {X : Cx} {e : Expr} {ta : TA} {p pos tpos : Pos} {elts : List Expr} {kk : Nat} (hg : Gl X "enumerate") (hm : X.mg "enumerate" = none) (ha : PA X [e] ta) (hs : starEach [e] X.env = [(false, eval e X.env)] := by rfl) :
    PI X (.Tuple elts kk tpos) (.Call (.Name "enumerate" p) [e] [] pos) (iEnumA X.K ta) := by
  refine ⟨fun pins s σ H R I h => ?_⟩
  refine Call_ (ld_blt I hg hm boot_enumerate (PyProof.Rows.callWith_type1 (thn (ha.run pos pins s σ H _ I h) fun us s1 ⟨vs, H1, I1, r1, q1⟩ => ?_) hs rfl))
  obtain ⟨a, xs, ex, q1⟩ := q1
  subst ex
  cases r1 with
  | cons r rr =>
    cases rr
    cases r
    have fr : ∀ b, b ∈ [s1.heap.objs.size + 1, s1.heap.objs.size] → FpOk X pins H1 b := fun b hb => by
      have e' : b = s1.heap.objs.size + 1 ∨ b = s1.heap.objs.size := by simpa using hb
      have hle : s1.heap.objs.size ≤ b := by
        rcases e' with z | z
        · rw [z]; exact Nat.le_add_right _ _
        · rw [z]; exact Nat.le_refl _
      exact I1.fpOk hle (I1.hok.fresh hle)
    rcases q1 with ⟨hq, q⟩ | ⟨hq, q⟩
    · obtain ⟨its, rv, p', hz⟩ := I1.list hq
      refine call_enumerate_list p'.isList fun h' he hit hsz hk => wpAny_pyIter_enum he ?_
      have I2 : Inv X pins σ H1 { s1 with heap := h' } := I1.kept (t' := s1.toks) hk
      exact ⟨s1.heap.objs.size + 1, [s1.heap.objs.size + 1, s1.heap.objs.size], _, _, H1, rfl, I2, turn_enum a (s1.heap.objs.size + 1) s1.heap.objs.size, ⟨⟨.none, he⟩, hit, Nat.succ_ne_self _⟩, fr, q⟩
    · obtain ⟨its, rv, p', hz⟩ := I1.tuple hq
      obtain ⟨o1, ho1, _⟩ := id p'
      have hlt : a < s1.heap.objs.size := Heap.lt_size ho1
      refine call_enumerate_tuple (show s1.heap.IsTuple a its.toArray from p') fun h' he hit hsz hk => wpAny_pyIter_enum he ?_
      have I2 : Inv X pins σ H1 { s1 with heap := h' } := I1.kept (t' := s1.toks) hk
      exact ⟨s1.heap.objs.size + 1, [s1.heap.objs.size + 1, s1.heap.objs.size], _, _, H1, rfl, I2, turn_enumT a (s1.heap.objs.size + 1) s1.heap.objs.size (Nat.ne_of_lt (Nat.lt_succ_of_lt hlt)) (Nat.ne_of_lt hlt), ⟨⟨.none, he⟩, hit, Nat.succ_ne_self _⟩, fr, q⟩
theorem pi_enumAK (K : PySem.W.Frag) {X : Cx} {e : Expr} {ta : TA} {p pos tpos : Pos} {elts : List Expr} {kk : Nat} (hg : Gl X "enumerate") (hm : X.mg "enumerate" = none) (ha : PA X [e] ta) (hs : starEach [e] X.env = [(false, eval e X.env)] := by rfl) (h : X.K = K := by rfl) :
    PI X (.Tuple elts kk tpos) (.Call (.Name "enumerate" p) [e] [] pos) (iEnumA K ta) := by
  subst h
  exact pi_enumA hg hm ha hs
/-! ### by data -/
open DL
theorem ev_revT {K : PySem.W.Frag} {ρ : DL.Env} {te : TE} {xs : List PyData} (h : Ev te ρ (.p (.tuple xs))) : Ev (tRevT K te) ρ (.p (.tuple xs.reverse)) := fun hid H σ o E Q q => h hid H σ o E _ fun v H1 e1 a => by
  cases a with
  | tuple n e l => exact ⟨_, _, rfl, .of e, fun p hp => q _ _ (e1.trans (ex_new hp)) (.tuple ((o.ex e1).new hp) upd_same (l.reverse.ex (ex_new hp)))⟩
theorem ev_revL {K : PySem.W.Frag} {ρ : DL.Env} {te : TE} {xs : List PyData} (h : Ev te ρ (.p (.list xs))) : Ev (tRevL K te) ρ (.p (.list xs.reverse)) := fun hid H σ o E Q q => h hid H σ o E _ fun v H1 e1 a => by
  cases a with
  | list n e l => exact ⟨_, _, rfl, .of e, fun p hp => q _ _ (e1.trans (ex_new hp)) (.list ((o.ex e1).new hp) upd_same (l.reverse.ex (ex_new hp)))⟩
theorem rv_repS {x : Str} {n : Int} (h2 : 2 ≤ n) (hn : n ≤ 1000) (hx : x.length ≤ 1000) : Rv rRepS (.p (.str x)) (.p (.int n)) (.p (.str (repS x n.toNat))) := fun hid H u v o a b Q q => by
  cases a; cases b
  exact ⟨_, _, rfl, rfl, h2, hn, hx, q _ _ (Same.refl H) (.str _)⟩
theorem ei_enumA {K : PySem.W.Frag} {ρ : DL.Env} {ta : TA} {xs : List PyData} {d : PyData} (hd : d = .list xs ∨ d = .tuple xs) (h : EvA ta ρ [.p d]) : EvI (iEnumA K ta) ρ (xs.zipIdx.map fun p => .tuple [.int (p.2 : Int), p.1]) := fun hid H σ o E R q => h hid H σ o E _ fun vs H1 e1 a => by
  cases a with
  | cons a r =>
    cases r
    rcases hd with rfl | rfl
    · cases a with
      | @list a0 vs _ n e l =>
        refine ⟨_, _, rfl, .inl ⟨.of e, q _ H1 e1 fun hid' H' le o' => ?_⟩⟩
        obtain ⟨n', e'⟩ := le _ _ n e
        have l' := l.le le
        have hl := l.length
        rw [List.length_map, List.length_zipIdx]
        refine ⟨fun i hi => ⟨vs, vs[i]'(by omega), .of e', List.getElem?_eq_getElem (by omega)⟩, fun i hi => ⟨vs, .of e', by omega⟩, fun i x H'' hi y => ?_⟩
        obtain ⟨T, x1, rfl, nT, rfl, f1⟩ := y
        obtain ⟨d1, ed1, ad1⟩ := l'.got (f1 vs (.of e'))
        refine ⟨.tuple [.int (i : Int), d1], ?_, ex_new nT, .tuple (o'.new nT) upd_same (.cons (.int _) (.cons (ad1.ex (ex_new nT)) .nil))⟩
        rw [List.getElem?_map, List.getElem?_zipIdx, ed1]
        simp
    · cases a with
      | @tuple a0 vs _ n e l =>
        refine ⟨_, _, rfl, .inr ⟨.of e, q _ H1 e1 fun hid' H' le o' => ?_⟩⟩
        obtain ⟨n', e'⟩ := le _ _ n e
        have l' := l.le le
        have hl := l.length
        rw [List.length_map, List.length_zipIdx]
        refine ⟨fun i hi => ⟨vs, vs[i]'(by omega), .of e', List.getElem?_eq_getElem (by omega)⟩, fun i hi => ⟨vs, .of e', by omega⟩, fun i x H'' hi y => ?_⟩
        obtain ⟨T, x1, rfl, nT, rfl, f1⟩ := y
        obtain ⟨d1, ed1, ad1⟩ := l'.got (f1 vs (.of e'))
        refine ⟨.tuple [.int (i : Int), d1], ?_, ex_new nT, .tuple (o'.new nT) upd_same (.cons (.int _) (.cons (ad1.ex (ex_new nT)) .nil))⟩
        rw [List.getElem?_map, List.getElem?_zipIdx, ed1]
        simp
end NW
set_option Elab.async false
set_option linter.all false
set_option maxRecDepth 100000
set_option maxHeartbeats 4000000
/-! zip of a tuple and a list, as the argument of dict(): the rules that the library has for two lists and for two tuples, turned to the mixed case. -/
namespace NZ
open PySem
open PySem.Sem (wp)
section
variable {prog : Program} {w : World} {A : Around} {E : Value → Shared → Prop} {s : Shared}
theorem zipM_next_item {z TI TO i1 i2 l1 l2 : Addr} {k1 k2 : Nat} {xs ys : Array Value} {x y a b : Value} {Q : Value → Shared → Prop} (D : ZipApart z TI TO i1 i2 l1 l2)
    (hz : IsZip s.heap z TI TO .none) (hTI : IsPair s.heap TI (.ref i1) (.ref i2)) (hTO : IsPair s.heap TO a b)
    (h1 : s.heap.IsTupleIter i1 l1 k1) (h2 : s.heap.IsListIter i2 l2 k2) (hl1 : s.heap.IsTuple l1 xs) (hl2 : s.heap.IsList l2 ys) (hx : xs[k1]? = some x) (hy : ys[k2]? = some y)
    (hQ : ∀ h', IsZip h' z TI TO (rawInt s.heap.objs.size) → IsPair h' TO x y → h'.IsTupleIter i1 l1 (k1 + 1) → h'.IsListIter i2 l2 (k2 + 1) → IsPair h' s.heap.objs.size x y → h'.objs.size = s.heap.objs.size + 1 →
      (∀ c o, c ≠ z → c ≠ TO → c ≠ i1 → c ≠ i2 → s.heap.get? c = some o → h'.get? c = some o) → Q (.ref s.heap.objs.size) { s with heap := h' }) :
    wpAny (model prog w) A (Builtin.«zip.__next__» ⟨[.ref z], []⟩) (fun fin s' => ∃ v, fin = .done (.ret v) ∧ Q v s') E s := by
  show wpAny _ _ (field (.ref z) 2 >>= _) _ _ _
  refine wpAny_bind (wpAny_field hz rfl (x := .bool false) rfl ?_)
  show wpAny _ _ (field (.ref z) 3 >>= _) _ _ _
  refine wpAny_bind (wpAny_field hz rfl (x := .ref TI) rfl ?_)
  refine wpAny_bind (wpAny_seqItems hTI rfl ?_)
  show wpAny _ _ (Builtin.SmallTypes.ownedTupleIsFree (.ref z) >>= _) _ _ _
  refine wpAny_bind ?_
  unfold Builtin.SmallTypes.ownedTupleIsFree
  refine wpAny_bind (wpAny_field hz rfl (x := .none) rfl (wpAny_pure ?_))
  simp only [if_true]
  refine wpAny_bind (wpAny_rule ?_)
  refine wpAny_bind (wpAny_field hz rfl (x := .ref TO) rfl ?_)
  refine wpAny_bind (wpAny_setField_rec hz (by simp) fun h₁ hz₁ hs₁ => ?_)
  replace hz₁ : IsZip h₁ z TI TO .ellipsis := hz₁
  refine wpAny_bind ?_
  simp only [List.zipIdx_cons, List.zipIdx_nil, List.forIn_cons, List.forIn_nil]

  refine wpAny_bind (wpAny_bind (wpAny_onRaise ?_))
  show wpAny _ _ (Builtin.SmallTypes.nextOf (.ref i1) >>= _) _ _ _
  refine wpAny_bind (RZ.nextOf_tuple_item (h1.extBut hs₁.extBut D.i1z) (hl1.extBut hs₁.extBut D.l1z) hx fun h₂ h1₂ hs₂ => wpAny_pure ?_)
  have hTO₂ : IsPair h₂ TO a b := hs₂.extBut _ _ D.TOi1 (hs₁.extBut _ _ D.TOz hTO)
  refine wpAny_bind (wpAny_seqItems hTO₂ rfl ?_)
  refine wpAny_bind (wpAny_updateSeq_pair hTO₂ fun h₃ hTO₃ hs₃ => ?_)
  replace hTO₃ : IsPair h₃ TO x b := hTO₃
  refine wpAny_bind (wpAny_letGo (wpAny_pure ?_))

  refine wpAny_bind (wpAny_bind (wpAny_onRaise ?_))
  show wpAny _ _ (Builtin.SmallTypes.nextOf (.ref i2) >>= _) _ _ _
  refine wpAny_bind (wpAny_nextOf_list_item (((h2.extBut hs₁.extBut D.i2z).extBut hs₂.extBut D.i12.symm).extBut hs₃.extBut D.TOi2.symm)
    (((hl2.extBut hs₁.extBut D.l2z).extBut hs₂.extBut D.l2i1).extBut hs₃.extBut D.l2TO) hy fun h₄ h2₄ hs₄ => wpAny_pure ?_)
  have hTO₄ : IsPair h₄ TO x b := hs₄.extBut _ _ D.TOi2 hTO₃
  refine wpAny_bind (wpAny_seqItems hTO₄ rfl ?_)
  refine wpAny_bind (wpAny_updateSeq_pair hTO₄ fun h₅ hTO₅ hs₅ => ?_)
  replace hTO₅ : IsPair h₅ TO x y := hTO₅
  refine wpAny_bind (wpAny_letGo (wpAny_pure (wpAny_pure ?_)))

  refine wpAny_bind (wpAny_seqItems hTO₅ rfl ?_)
  refine wpAny_bind (wpAny_newTuple ?_)
  have hsz : h₅.objs.size = s.heap.objs.size := by rw [hs₅.1, hs₄.1, hs₃.1, hs₂.1, hs₁.1]
  have hz₅ : IsZip h₅ z TI TO .ellipsis := hs₅.extBut _ _ D.TOz.symm (hs₄.extBut _ _ D.i2z.symm (hs₃.extBut _ _ D.TOz.symm (hs₂.extBut _ _ D.i1z.symm hz₁)))
  have hk₅ : ∀ c o, c ≠ z → c ≠ TO → c ≠ i1 → c ≠ i2 → s.heap.get? c = some o → h₅.get? c = some o := fun c o c1 c2 c3 c4 e =>
    hs₅.extBut _ _ c2 (hs₄.extBut _ _ c4 (hs₃.extBut _ _ c2 (hs₂.extBut _ _ c3 (hs₁.extBut _ _ c1 e))))
  have h1₅ : h₅.IsTupleIter i1 l1 (k1 + 1) := ((h1₂.extBut hs₃.extBut D.TOi1.symm).extBut hs₄.extBut D.i12).extBut hs₅.extBut D.TOi1.symm
  have h2₅ : h₅.IsListIter i2 l2 (k2 + 1) := h2₄.extBut hs₅.extBut D.TOi2.symm
  have hzlt : z < h₅.objs.size := Heap.lt_size hz₅
  have hTOlt : TO < h₅.objs.size := Heap.lt_size hTO₅
  have hi1lt : i1 < h₅.objs.size := by obtain ⟨_, e, _⟩ := h1₅; exact Heap.lt_size e
  have hi2lt : i2 < h₅.objs.size := by obtain ⟨_, e, _⟩ := h2₅; exact Heap.lt_size e
  show wpAny _ _ (Builtin.SmallTypes.ownedTupleHandOut (.ref z) (.ref h₅.objs.size) >>= _) _ _ _
  refine wpAny_bind ?_
  unfold Builtin.SmallTypes.ownedTupleHandOut
  have hz₆ : IsZip (h₅.push { cls := .type "tuple", data := .seq #[x, y] }) z TI TO .ellipsis := Heap.get?_push_of_some _ hz₅
  refine wpAny_bind (wpAny_setField_rec hz₆ (by simp) fun h₇ hz₇ hs₇ => ?_)
  replace hz₇ : IsZip h₇ z TI TO (rawInt h₅.objs.size) := hz₇
  refine wpAny_setField_rec hz₇ (by simp) fun h₈ hz₈ hs₈ => ?_
  replace hz₈ : IsZip h₈ z TI TO (rawInt h₅.objs.size) := hz₈
  have up : ∀ c o, c ≠ z → h₅.get? c = some o → h₈.get? c = some o := fun c o c1 e => hs₈.extBut _ _ c1 (hs₇.extBut _ _ c1 (Heap.get?_push_of_some _ e))
  have hT₈ : IsPair h₈ h₅.objs.size x y := hs₈.extBut _ _ (Nat.ne_of_gt hzlt) (hs₇.extBut _ _ (Nat.ne_of_gt hzlt) (Heap.get?_push_size _ rfl))
  have hz8 : h₈.objs.size = h₅.objs.size + 1 := by rw [hs₈.1, hs₇.1, Heap.size_push]
  rw [hsz] at hz₈ hT₈ hz8
  refine wpAny_pure ⟨_, rfl, ?_⟩
  show Q (.ref h₅.objs.size) _
  rw [hsz]
  exact hQ h₈ hz₈ (up _ _ D.TOz hTO₅) (h1₅.at fun o e => up _ o D.i1z e) (h2₅.at fun o e => up _ o D.i2z e) hT₈ hz8 fun c o c1 c2 c3 c4 e => up c o c1 (hk₅ c o c1 c2 c3 c4 e)

theorem zipM_next_end {z TI TO i1 i2 l1 l2 : Addr} {k1 k2 : Nat} {xs ys : Array Value} {a b : Value} {Q : Fin → Shared → Prop} (hh : A.handled = none) (D : ZipApart z TI TO i1 i2 l1 l2)
    (hz : IsZip s.heap z TI TO .none) (hTI : IsPair s.heap TI (.ref i1) (.ref i2)) (hTO : IsPair s.heap TO a b)
    (h1 : s.heap.IsTupleIter i1 l1 k1) (h2 : s.heap.IsListIter i2 l2 k2) (hl1 : s.heap.IsTuple l1 xs) (hl2 : s.heap.IsList l2 ys) (hend : xs[k1]? = none ∨ ys[k2]? = none)
    (hE : ∀ h' e, (∀ c o, c ≠ z → c ≠ TO → c ≠ i1 → c ≠ i2 → s.heap.get? c = some o → h'.get? c = some o) → (∃ o, h'.get? e = some o ∧ o.cls = .type "StopIteration") → E (.ref e) { s with heap := h' }) :
    wpAny (model prog w) A (Builtin.«zip.__next__» ⟨[.ref z], []⟩) Q E s := by
  show wpAny _ _ (field (.ref z) 2 >>= _) _ _ _
  refine wpAny_bind (wpAny_field hz rfl (x := .bool false) rfl ?_)
  show wpAny _ _ (field (.ref z) 3 >>= _) _ _ _
  refine wpAny_bind (wpAny_field hz rfl (x := .ref TI) rfl ?_)
  refine wpAny_bind (wpAny_seqItems hTI rfl ?_)
  show wpAny _ _ (Builtin.SmallTypes.ownedTupleIsFree (.ref z) >>= _) _ _ _
  refine wpAny_bind ?_
  unfold Builtin.SmallTypes.ownedTupleIsFree
  refine wpAny_bind (wpAny_field hz rfl (x := .none) rfl (wpAny_pure ?_))
  simp only [if_true]
  refine wpAny_bind (wpAny_rule ?_)
  refine wpAny_bind (wpAny_field hz rfl (x := .ref TO) rfl ?_)
  refine wpAny_bind (wpAny_setField_rec hz (by simp) fun h₁ hz₁ hs₁ => ?_)
  replace hz₁ : IsZip h₁ z TI TO .ellipsis := hz₁
  refine wpAny_bind ?_
  simp only [List.zipIdx_cons, List.zipIdx_nil, List.forIn_cons, List.forIn_nil]
  refine wpAny_bind (wpAny_bind (wpAny_onRaise ?_))
  show wpAny _ _ (Builtin.SmallTypes.nextOf (.ref i1) >>= _) _ _ _
  cases hx : xs[k1]? with
  | none =>
    refine wpAny_bind (RZ.nextOf_tuple_end hh (h1.extBut hs₁.extBut D.i1z) (hl1.extBut hs₁.extBut D.l1z) hx fun h₂ e hs₂ he => ?_)
    obtain ⟨oe, hoe, hce⟩ := he
    have hz₂ : IsZip h₂ z TI TO .ellipsis := hs₂ _ _ D.i1z.symm hz₁
    have hez : e ≠ z := fun x => by subst x; rw [hz₂] at hoe; cases hoe; simp at hce
    refine wpAny_setField_rec hz₂ (by simp) fun h₃ _ hs₃ => hE h₃ e (fun c o c1 _ c3 _ x => hs₃.extBut _ _ c1 (hs₂ _ _ c3 (hs₁.extBut _ _ c1 x))) ⟨oe, hs₃.extBut _ _ hez hoe, hce⟩
  | some x =>
    have hy : ys[k2]? = none := by rcases hend with h | h; rw [hx] at h; cases h; exact h
    refine wpAny_bind (RZ.nextOf_tuple_item (h1.extBut hs₁.extBut D.i1z) (hl1.extBut hs₁.extBut D.l1z) hx fun h₂ h1₂ hs₂ => wpAny_pure ?_)
    have hTO₂ : IsPair h₂ TO a b := hs₂.extBut _ _ D.TOi1 (hs₁.extBut _ _ D.TOz hTO)
    refine wpAny_bind (wpAny_seqItems hTO₂ rfl ?_)
    refine wpAny_bind (wpAny_updateSeq_pair hTO₂ fun h₃ hTO₃ hs₃ => ?_)
    refine wpAny_bind (wpAny_letGo (wpAny_pure ?_))
    refine wpAny_bind (wpAny_bind (wpAny_onRaise ?_))
    show wpAny _ _ (Builtin.SmallTypes.nextOf (.ref i2) >>= _) _ _ _
    refine wpAny_bind (wpAny_nextOf_list_end hh (((h2.extBut hs₁.extBut D.i2z).extBut hs₂.extBut D.i12.symm).extBut hs₃.extBut D.TOi2.symm)
      (((hl2.extBut hs₁.extBut D.l2z).extBut hs₂.extBut D.l2i1).extBut hs₃.extBut D.l2TO) hy fun h₄ e hs₄ he => ?_)
    obtain ⟨oe, hoe, hce⟩ := he
    have hz₄ : IsZip h₄ z TI TO .ellipsis := hs₄ _ _ D.i2z.symm (hs₃.extBut _ _ D.TOz.symm (hs₂.extBut _ _ D.i1z.symm hz₁))
    have hez : e ≠ z := fun x => by subst x; rw [hz₄] at hoe; cases hoe; simp at hce
    refine wpAny_setField_rec hz₄ (by simp) fun h₅ _ hs₅ => hE h₅ e (fun c o c1 c2 c3 c4 x => hs₅.extBut _ _ c1 (hs₄ _ _ c4 (hs₃.extBut _ _ c2 (hs₂.extBut _ _ c3 (hs₁.extBut _ _ c1 x))))) ⟨oe, hs₅.extBut _ _ hez hoe, hce⟩

theorem pyNext_zipM_item {z TI TO i1 i2 l1 l2 : Addr} {k1 k2 : Nat} {xs ys : Array Value} {x y a b : Value} {Q : Option Value → Shared → Prop} (D : ZipApart z TI TO i1 i2 l1 l2)
    (hz : IsZip s.heap z TI TO .none) (hTI : IsPair s.heap TI (.ref i1) (.ref i2)) (hTO : IsPair s.heap TO a b)
    (h1 : s.heap.IsTupleIter i1 l1 k1) (h2 : s.heap.IsListIter i2 l2 k2) (hl1 : s.heap.IsTuple l1 xs) (hl2 : s.heap.IsList l2 ys) (hx : xs[k1]? = some x) (hy : ys[k2]? = some y)
    (hQ : ∀ h', IsZip h' z TI TO (rawInt s.heap.objs.size) → IsPair h' TO x y → h'.IsTupleIter i1 l1 (k1 + 1) → h'.IsListIter i2 l2 (k2 + 1) → IsPair h' s.heap.objs.size x y → h'.objs.size = s.heap.objs.size + 1 →
      (∀ c o, c ≠ z → c ≠ TO → c ≠ i1 → c ≠ i2 → s.heap.get? c = some o → h'.get? c = some o) → Q (some (.ref s.heap.objs.size)) { s with heap := h' }) :
    wpAny (model prog w) A (pyNext (.ref z)) Q E s := by
  have hT : s.TypeIs (.ref z) "zip" := ⟨_, hz, rfl⟩
  unfold pyNext
  exact wpAny_bind (wpAny_attempt (wpAny_callSpecial?_slot (name := Str.ofString "__next__") hT F.slot_zip_next
    (wpAny_call_entry F.slot_zip_next hT F.entry_zip_next
      (zipM_next_item D hz hTI hTO h1 h2 hl1 hl2 hx hy fun h' a1 a2 a3 a4 a5 a6 a7 => wpAny_pure (hQ h' a1 a2 a3 a4 a5 a6 a7)) (F.args_zip_next_1 _))))

theorem pyNext_zipM_end {z TI TO i1 i2 l1 l2 : Addr} {k1 k2 : Nat} {xs ys : Array Value} {a b : Value} {Q : Option Value → Shared → Prop} (hh : A.handled = none) (D : ZipApart z TI TO i1 i2 l1 l2)
    (hz : IsZip s.heap z TI TO .none) (hTI : IsPair s.heap TI (.ref i1) (.ref i2)) (hTO : IsPair s.heap TO a b)
    (h1 : s.heap.IsTupleIter i1 l1 k1) (h2 : s.heap.IsListIter i2 l2 k2) (hl1 : s.heap.IsTuple l1 xs) (hl2 : s.heap.IsList l2 ys) (hend : xs[k1]? = none ∨ ys[k2]? = none)
    (hQ : ∀ h', (∀ c o, c ≠ z → c ≠ TO → c ≠ i1 → c ≠ i2 → s.heap.get? c = some o → h'.get? c = some o) → Q none { s with heap := h' }) : wpAny (model prog w) A (pyNext (.ref z)) Q E s := by
  have hT : s.TypeIs (.ref z) "zip" := ⟨_, hz, rfl⟩
  unfold pyNext
  refine wpAny_bind (wpAny_attempt (wpAny_callSpecial?_slot (name := Str.ofString "__next__") hT F.slot_zip_next
    (wpAny_call_entry F.slot_zip_next hT F.entry_zip_next (zipM_next_end hh D hz hTI hTO h1 h2 hl1 hl2 hend fun h' e hk he => ?_) (F.args_zip_next_1 _))))
  obtain ⟨o, ho, hc⟩ := he
  refine wpAny_bind (wpAny_isInstance (T := "StopIteration") (b := true) ⟨o, ho, hc⟩ isSubtype_stop ?_)
  exact wpAny_pure (hQ _ hk)


theorem zipM_next_item_held {z TI TO T i1 i2 l1 l2 : Addr} {f : Bool} {oT : Obj} {k1 k2 : Nat} {xs ys : Array Value} {x y : Value} {Q : Value → Shared → Prop} (D : ZipApart z TI TO i1 i2 l1 l2)
    (hz : IsZipHeld s.heap z TI TO T f) (hT : s.heap.get? T = some oT) (hTI : IsPair s.heap TI (.ref i1) (.ref i2))
    (h1 : s.heap.IsTupleIter i1 l1 k1) (h2 : s.heap.IsListIter i2 l2 k2) (hl1 : s.heap.IsTuple l1 xs) (hl2 : s.heap.IsList l2 ys) (hx : xs[k1]? = some x) (hy : ys[k2]? = some y)
    (hQ : ∀ h', IsZipHeld h' z TI TO T true → h'.IsTupleIter i1 l1 (k1 + 1) → h'.IsListIter i2 l2 (k2 + 1) → IsPair h' s.heap.objs.size x y → h'.objs.size = s.heap.objs.size + 1 →
      (∀ c o, c ≠ z → c ≠ i1 → c ≠ i2 → s.heap.get? c = some o → h'.get? c = some o) → Q (.ref s.heap.objs.size) { s with heap := h' }) :
    wpAny (model prog w) A (Builtin.«zip.__next__» ⟨[.ref z], []⟩) (fun fin s' => ∃ v, fin = .done (.ret v) ∧ Q v s') E s := by
  show wpAny _ _ (field (.ref z) 2 >>= _) _ _ _
  refine wpAny_bind (wpAny_field hz rfl (x := .bool false) rfl ?_)
  show wpAny _ _ (field (.ref z) 3 >>= _) _ _ _
  refine wpAny_bind (wpAny_field hz rfl (x := .ref TI) rfl ?_)
  refine wpAny_bind (wpAny_seqItems hTI rfl ?_)
  show wpAny _ _ (Builtin.SmallTypes.ownedTupleIsFree (.ref z) >>= _) _ _ _
  refine wpAny_bind (wpAny_tupleHeld_zip hz hT fun h₁ hz₁ hs₁ => ?_)
  simp only [Bool.false_eq_true, if_false]
  refine wpAny_bind ?_
  rw [← Array.forIn_toList]
  simp only [List.forIn_cons, List.forIn_nil]
  refine wpAny_bind (wpAny_bind (wpAny_holding ?_))
  show wpAny _ _ (Builtin.SmallTypes.nextOf (.ref i1) >>= _) _ _ _
  refine wpAny_bind (RZ.nextOf_tuple_item (s := { s with heap := h₁ }) (h1.extBut hs₁.extBut D.i1z) (hl1.extBut hs₁.extBut D.l1z) hx fun h₂ h1₂ hs₂ => wpAny_pure ?_)
  refine wpAny_pure ?_
  refine wpAny_bind (wpAny_bind (wpAny_holding ?_))
  show wpAny _ _ (Builtin.SmallTypes.nextOf (.ref i2) >>= _) _ _ _
  refine wpAny_bind (wpAny_nextOf_list_item (s := { s with heap := h₂ }) ((h2.extBut hs₁.extBut D.i2z).extBut hs₂.extBut D.i12.symm) ((hl2.extBut hs₁.extBut D.l2z).extBut hs₂.extBut D.l2i1) hy fun h₃ h2₃ hs₃ => wpAny_pure ?_)
  refine wpAny_pure (wpAny_pure ?_)
  show wpAny _ _ (newTuple [x, y] >>= _) _ _ _
  refine wpAny_bind (wpAny_newTuple ?_)
  have hsz : h₃.objs.size = s.heap.objs.size := by rw [hs₃.1, hs₂.1, hs₁.1]
  have hz₃ : IsZipHeld h₃ z TI TO T true := hs₃.extBut _ _ D.i2z.symm (hs₂.extBut _ _ D.i1z.symm hz₁)
  have hk : ∀ c o, c ≠ z → c ≠ i1 → c ≠ i2 → s.heap.get? c = some o → h₃.get? c = some o := fun c o c1 c2 c3 e => hs₃.extBut _ _ c3 (hs₂.extBut _ _ c2 (hs₁.extBut _ _ c1 e))
  have h1₃ : h₃.IsTupleIter i1 l1 (k1 + 1) := h1₂.extBut hs₃.extBut D.i12
  refine wpAny_pure ⟨_, rfl, ?_⟩
  show Q (.ref h₃.objs.size) _
  have hp : IsPair (h₃.push { cls := .type "tuple", data := .seq #[x, y] }) h₃.objs.size x y := Heap.get?_push_size _ rfl
  have hz4 : (h₃.push { cls := .type "tuple", data := .seq #[x, y] }).objs.size = h₃.objs.size + 1 := Heap.size_push ..
  rw [hsz] at hp hz4 ⊢
  exact hQ _ (Heap.get?_push_of_some _ hz₃) (h1₃.at fun o e => Heap.get?_push_of_some _ e) (h2₃.at fun o e => Heap.get?_push_of_some _ e) hp hz4 fun c o c1 c2 c3 e => Heap.get?_push_of_some _ (hk c o c1 c2 c3 e)

theorem zipM_next_end_held {z TI TO T i1 i2 l1 l2 : Addr} {f : Bool} {oT : Obj} {k1 k2 : Nat} {xs ys : Array Value} {Q : Fin → Shared → Prop} (hh : A.handled = none) (D : ZipApart z TI TO i1 i2 l1 l2)
    (hz : IsZipHeld s.heap z TI TO T f) (hT : s.heap.get? T = some oT) (hTI : IsPair s.heap TI (.ref i1) (.ref i2))
    (h1 : s.heap.IsTupleIter i1 l1 k1) (h2 : s.heap.IsListIter i2 l2 k2) (hl1 : s.heap.IsTuple l1 xs) (hl2 : s.heap.IsList l2 ys) (hend : xs[k1]? = none ∨ ys[k2]? = none)
    (hE : ∀ h' e, (∀ c o, c ≠ z → c ≠ i1 → c ≠ i2 → s.heap.get? c = some o → h'.get? c = some o) → (∃ o, h'.get? e = some o ∧ o.cls = .type "StopIteration") → E (.ref e) { s with heap := h' }) :
    wpAny (model prog w) A (Builtin.«zip.__next__» ⟨[.ref z], []⟩) Q E s := by
  show wpAny _ _ (field (.ref z) 2 >>= _) _ _ _
  refine wpAny_bind (wpAny_field hz rfl (x := .bool false) rfl ?_)
  show wpAny _ _ (field (.ref z) 3 >>= _) _ _ _
  refine wpAny_bind (wpAny_field hz rfl (x := .ref TI) rfl ?_)
  refine wpAny_bind (wpAny_seqItems hTI rfl ?_)
  show wpAny _ _ (Builtin.SmallTypes.ownedTupleIsFree (.ref z) >>= _) _ _ _
  refine wpAny_bind (wpAny_tupleHeld_zip hz hT fun h₁ hz₁ hs₁ => ?_)
  simp only [Bool.false_eq_true, if_false]
  refine wpAny_bind ?_
  rw [← Array.forIn_toList]
  simp only [List.forIn_cons, List.forIn_nil]
  refine wpAny_bind (wpAny_bind (wpAny_holding ?_))
  show wpAny _ _ (Builtin.SmallTypes.nextOf (.ref i1) >>= _) _ _ _
  cases hx : xs[k1]? with
  | none =>
    refine wpAny_bind (RZ.nextOf_tuple_end (s := { s with heap := h₁ }) hh (h1.extBut hs₁.extBut D.i1z) (hl1.extBut hs₁.extBut D.l1z) hx fun h₂ e hs₂ he => ?_)
    exact hE h₂ e (fun c o c1 c2 _ x => hs₂ _ _ c2 (hs₁.extBut _ _ c1 x)) he
  | some x =>
    have hy : ys[k2]? = none := by rcases hend with h | h; rw [hx] at h; cases h; exact h
    refine wpAny_bind (RZ.nextOf_tuple_item (s := { s with heap := h₁ }) (h1.extBut hs₁.extBut D.i1z) (hl1.extBut hs₁.extBut D.l1z) hx fun h₂ h1₂ hs₂ => wpAny_pure ?_)
    refine wpAny_pure ?_
    refine wpAny_bind (wpAny_bind (wpAny_holding ?_))
    show wpAny _ _ (Builtin.SmallTypes.nextOf (.ref i2) >>= _) _ _ _
    refine wpAny_bind (wpAny_nextOf_list_end (s := { s with heap := h₂ }) hh ((h2.extBut hs₁.extBut D.i2z).extBut hs₂.extBut D.i12.symm) ((hl2.extBut hs₁.extBut D.l2z).extBut hs₂.extBut D.l2i1) hy fun h₃ e hs₃ he => ?_)
    exact hE h₃ e (fun c o c1 c2 c3 x => hs₃ _ _ c3 (hs₂.extBut _ _ c2 (hs₁.extBut _ _ c1 x))) he

theorem pyNext_zipM_item_held {z TI TO T i1 i2 l1 l2 : Addr} {f : Bool} {oT : Obj} {k1 k2 : Nat} {xs ys : Array Value} {x y : Value} {Q : Option Value → Shared → Prop} (D : ZipApart z TI TO i1 i2 l1 l2)
    (hz : IsZipHeld s.heap z TI TO T f) (hT : s.heap.get? T = some oT) (hTI : IsPair s.heap TI (.ref i1) (.ref i2))
    (h1 : s.heap.IsTupleIter i1 l1 k1) (h2 : s.heap.IsListIter i2 l2 k2) (hl1 : s.heap.IsTuple l1 xs) (hl2 : s.heap.IsList l2 ys) (hx : xs[k1]? = some x) (hy : ys[k2]? = some y)
    (hQ : ∀ h', IsZipHeld h' z TI TO T true → h'.IsTupleIter i1 l1 (k1 + 1) → h'.IsListIter i2 l2 (k2 + 1) → IsPair h' s.heap.objs.size x y → h'.objs.size = s.heap.objs.size + 1 →
      (∀ c o, c ≠ z → c ≠ i1 → c ≠ i2 → s.heap.get? c = some o → h'.get? c = some o) → Q (some (.ref s.heap.objs.size)) { s with heap := h' }) :
    wpAny (model prog w) A (pyNext (.ref z)) Q E s := by
  have hTy : s.TypeIs (.ref z) "zip" := ⟨_, hz, rfl⟩
  unfold pyNext
  exact wpAny_bind (wpAny_attempt (wpAny_callSpecial?_slot (name := Str.ofString "__next__") hTy F.slot_zip_next
    (wpAny_call_entry F.slot_zip_next hTy F.entry_zip_next
      (zipM_next_item_held D hz hT hTI h1 h2 hl1 hl2 hx hy fun h' a1 a3 a4 a5 a6 a7 => wpAny_pure (hQ h' a1 a3 a4 a5 a6 a7)) (F.args_zip_next_1 _))))
theorem pyNext_zipM_end_held {z TI TO T i1 i2 l1 l2 : Addr} {f : Bool} {oT : Obj} {k1 k2 : Nat} {xs ys : Array Value} {Q : Option Value → Shared → Prop} (hh : A.handled = none) (D : ZipApart z TI TO i1 i2 l1 l2)
    (hz : IsZipHeld s.heap z TI TO T f) (hT : s.heap.get? T = some oT) (hTI : IsPair s.heap TI (.ref i1) (.ref i2))
    (h1 : s.heap.IsTupleIter i1 l1 k1) (h2 : s.heap.IsListIter i2 l2 k2) (hl1 : s.heap.IsTuple l1 xs) (hl2 : s.heap.IsList l2 ys) (hend : xs[k1]? = none ∨ ys[k2]? = none)
    (hQ : ∀ h', (∀ c o, c ≠ z → c ≠ i1 → c ≠ i2 → s.heap.get? c = some o → h'.get? c = some o) → Q none { s with heap := h' }) : wpAny (model prog w) A (pyNext (.ref z)) Q E s := by
  have hTy : s.TypeIs (.ref z) "zip" := ⟨_, hz, rfl⟩
  unfold pyNext
  refine wpAny_bind (wpAny_attempt (wpAny_callSpecial?_slot (name := Str.ofString "__next__") hTy F.slot_zip_next
    (wpAny_call_entry F.slot_zip_next hTy F.entry_zip_next (zipM_next_end_held hh D hz hT hTI h1 h2 hl1 hl2 hend fun h' e hk he => ?_) (F.args_zip_next_1 _))))
  obtain ⟨o, ho, hc⟩ := he
  refine wpAny_bind (wpAny_isInstance (T := "StopIteration") (b := true) ⟨o, ho, hc⟩ isSubtype_stop ?_)
  exact wpAny_pure (hQ _ hk)

end
section
variable {prog : Program} {w : World}
theorem pairArg_zipM (z TI TO i1 i2 l1 l2 : Addr) (D : ZipApart z TI TO i1 i2 l1 l2) (xs ys : Array Value) :
    PairArg prog w "zip" z [z, TI, TO, i1, i2, l1, l2] [z, TO, i1, i2] (min xs.size ys.size) (fun i k v => xs[i]? = some k ∧ ys[i]? = some v)
      (fun h => IsZip h z TI TO .none ∧ IsPair h TI (.ref i1) (.ref i2) ∧ (∃ a b, IsPair h TO a b) ∧ h.IsTupleIter i1 l1 0 ∧ h.IsListIter i2 l2 0 ∧ h.IsTuple l1 xs ∧ h.IsList l2 ys) where
  type := fun s ok => ⟨_, ok.1, rfl⟩
  notDict := by decide
  keep := fun h h' ok hk => by
    obtain ⟨hz, hTI, ⟨a, b, hTO⟩, h1, h2, hl1, hl2⟩ := ok
    exact ⟨hk _ _ hz, hk _ _ hTI, ⟨a, b, hk _ _ hTO⟩, h1.at fun o e => hk _ o e, h2.at fun o e => hk _ o e, hl1.at fun o e => hk _ o e, hl2.at fun o e => hk _ o e⟩
  there := fun h ok b hb => by
    obtain ⟨hz, hTI, ⟨a, c, hTO⟩, ⟨o1, h1, _⟩, ⟨o2, h2, _⟩, ⟨o3, hl1, _⟩, ⟨o4, hl2, _⟩⟩ := ok
    simp only [List.mem_cons, List.not_mem_nil, or_false] at hb
    rcases hb with rfl | rfl | rfl | rfl | rfl | rfl | rfl
    all_goals first | exact ⟨_, hz⟩ | exact ⟨_, hTI⟩ | exact ⟨_, hTO⟩ | exact ⟨_, h1⟩ | exact ⟨_, h2⟩ | exact ⟨_, hl1⟩ | exact ⟨_, hl2⟩
  sub := fun b hb => by simp at hb ⊢; rcases hb with rfl | rfl | rfl | rfl <;> simp
  noKeys := fun A s Q E hA ok h => getAttrOr_miss_zip ok.1 rfl rfl rfl zip_no_keys (by decide +kernel) hA h
  iter := fun A s d Q E hA ok hd hdf h => by
    obtain ⟨hz, hTI, ⟨a, b, hTO⟩, h1, h2, hl1, hl2⟩ := ok
    simp only [List.mem_cons, List.not_mem_nil, or_false, not_or] at hdf
    obtain ⟨dz, dTI, dTO, di1, di2, dl1, dl2⟩ := hdf
    refine wpAny_pyIter_zip hz (h z [z, TO, i1, i2] (fun i h => IsPair h TI (.ref i1) (.ref i2) ∧ h.IsTupleIter i1 l1 i ∧ h.IsListIter i2 l2 i ∧ h.IsTuple l1 xs ∧ h.IsList l2 ys ∧
      ((IsZip h z TI TO .none ∧ ∃ a b, IsPair h TO a b) ∨ ∃ T f oT, IsZipHeld h z TI TO T f ∧ h.get? T = some oT ∧ T ≠ z ∧ T ≠ i1 ∧ T ≠ i2 ∧ T ≠ d)) s.heap s.toks ?_
      ⟨hTI, h1, h2, hl1, hl2, .inl ⟨hz, a, b, hTO⟩⟩ (fun _ _ e => e) fun b hb => .inl hb)
    exact {
      off := fun hm => by
        simp only [List.mem_cons, List.not_mem_nil, or_false] at hm
        rcases hm with e | e | e | e
        · exact dz e
        · exact dTO e
        · exact di1 e
        · exact di2 e
      frame := fun i h₁ h₂ st hk => by
        obtain ⟨hTI, h1, h2, hl1, hl2, hz⟩ := st
        refine ⟨hk _ _ (Ne.symm dTI) hTI, h1.at fun o e => hk _ o (Ne.symm di1) e, h2.at fun o e => hk _ o (Ne.symm di2) e, hl1.at fun o e => hk _ o (Ne.symm dl1) e, hl2.at fun o e => hk _ o (Ne.symm dl2) e, ?_⟩
        rcases hz with ⟨hz, a, b, hTO⟩ | ⟨T, f, oT, hz, hT, r1, r2, r3, r4⟩
        · exact .inl ⟨hk _ _ (Ne.symm dz) hz, a, b, hk _ _ (Ne.symm dTO) hTO⟩
        · exact .inr ⟨T, f, oT, hk _ _ (Ne.symm dz) hz, hk _ _ r4 hT, r1, r2, r3, r4⟩
      item := fun i s₁ Q₁ E₁ hi st hds hQ => by
        obtain ⟨hTI, h1, h2, hl1, hl2, hz⟩ := st
        have hix : i < xs.size := Nat.lt_of_lt_of_le hi (Nat.min_le_left ..)
        have hiy : i < ys.size := Nat.lt_of_lt_of_le hi (Nat.min_le_right ..)
        have ex := Array.getElem?_eq_getElem hix
        have ey := Array.getElem?_eq_getElem hiy
        have lt : ∀ {c o}, s₁.heap.get? c = some o → s₁.heap.objs.size ≠ c := fun e => Nat.ne_of_gt (Heap.lt_size e)
        have n1 : s₁.heap.objs.size ≠ i1 := let ⟨_, e, _⟩ := h1; lt e
        have n2 : s₁.heap.objs.size ≠ i2 := let ⟨_, e, _⟩ := h2; lt e
        rcases hz with ⟨hz, a, b, hTO⟩ | ⟨T, f, oT, hz, hT, r1, r2, r3, r4⟩
        · refine pyNext_zipM_item D hz hTI hTO h1 h2 hl1 hl2 ex ey fun h' a1 a2 a3 a4 a5 a6 hk => ?_
          exact hQ s₁.heap.objs.size _ _ h' s₁.toks ⟨ex, ey⟩ (.inl ⟨_, a5, rfl, _, rfl⟩)
            ⟨hk _ _ D.TIz D.TITO D.TIi1 D.TIi2 hTI, a3, a4, hl1.at fun o e => hk _ o D.l1z D.l1TO D.l1i1 D.l1i2 e, hl2.at fun o e => hk _ o D.l2z D.l2TO D.l2i1 D.l2i2 e,
              .inr ⟨s₁.heap.objs.size, false, _, a1, a5, lt hz, n1, n2, Nat.ne_of_gt hds⟩⟩
            fun c o hc e => hk c o (fun x => hc (by simp [x])) (fun x => hc (by simp [x])) (fun x => hc (by simp [x])) (fun x => hc (by simp [x])) e
        · refine pyNext_zipM_item_held D hz hT hTI h1 h2 hl1 hl2 ex ey fun h' a1 a3 a4 a5 a6 hk => ?_
          exact hQ s₁.heap.objs.size _ _ h' s₁.toks ⟨ex, ey⟩ (.inl ⟨_, a5, rfl, _, rfl⟩)
            ⟨hk _ _ D.TIz D.TIi1 D.TIi2 hTI, a3, a4, hl1.at fun o e => hk _ o D.l1z D.l1i1 D.l1i2 e, hl2.at fun o e => hk _ o D.l2z D.l2i1 D.l2i2 e,
              .inr ⟨T, true, oT, a1, hk _ _ r1 r2 r3 hT, r1, r2, r3, r4⟩⟩
            fun c o hc e => hk c o (fun x => hc (by simp [x])) (fun x => hc (by simp [x])) (fun x => hc (by simp [x])) e
      done := fun s₁ Q₁ E₁ st hQ => by
        obtain ⟨hTI, h1, h2, hl1, hl2, hz⟩ := st
        have hend : xs[min xs.size ys.size]? = none ∨ ys[min xs.size ys.size]? = none := by
          rcases Nat.le_total xs.size ys.size with h | h
          · exact .inl (Array.getElem?_eq_none (by rw [Nat.min_eq_left h]; exact Nat.le_refl _))
          · exact .inr (Array.getElem?_eq_none (by rw [Nat.min_eq_right h]; exact Nat.le_refl _))
        rcases hz with ⟨hz, a, b, hTO⟩ | ⟨T, f, oT, hz, hT, r1, r2, r3, r4⟩
        · exact pyNext_zipM_end hA D hz hTI hTO h1 h2 hl1 hl2 hend fun h' hk => hQ h' s₁.toks fun c o hc e => hk c o (fun x => hc (by simp [x])) (fun x => hc (by simp [x])) (fun x => hc (by simp [x])) (fun x => hc (by simp [x])) e
        · exact pyNext_zipM_end_held hA D hz hT hTI h1 h2 hl1 hl2 hend fun h' hk => hQ h' s₁.toks fun c o hc e => hk c o (fun x => hc (by simp [x])) (fun x => hc (by simp [x])) (fun x => hc (by simp [x])) e }

end
abbrev zipMH1 (h : Heap) (l1 : Addr) : Heap := h.push { cls := .type "tuple_iterator", data := .fields #[.ref l1, .int 0 0] }
abbrev zipMH2 (h : Heap) (l1 l2 : Addr) : Heap := (zipMH1 h l1).push { cls := .type "list_iterator", data := .fields #[.ref l2, .int 0 0] }
abbrev zipMH3 (h : Heap) (l1 l2 : Addr) : Heap := (zipMH2 h l1 l2).push { cls := .type "tuple", data := .seq #[.ref h.objs.size, .ref (zipMH1 h l1).objs.size] }
abbrev zipMH4 (h : Heap) (l1 l2 : Addr) : Heap := (zipMH3 h l1 l2).push { cls := .type "tuple", data := .seq #[.none, .none] }
abbrev zipMH5 (h : Heap) (l1 l2 : Addr) : Heap := (zipMH4 h l1 l2).push { cls := .type "zip", data := .fields #[.none, .bool false, .bool false, .ref (zipMH2 h l1 l2).objs.size, .ref (zipMH3 h l1 l2).objs.size] }

theorem meets_zipM_new (l1 l2 : Addr) (xs ys : Array Value) :
    Meets (Builtin.«zip.__new__» ⟨[.type "zip", .ref l1, .ref l2], []⟩) (fun _ R s => s.heap.IsTuple l1 xs ∧ s.heap.IsList l2 ys ∧
      R (.ok (.ret (.ref (zipMH4 s.heap l1 l2).objs.size))) { s with heap := zipMH5 s.heap l1 l2 }) :=
  .of_wp fun prog w A R s h => by
    obtain ⟨hp, g, d, tk, os⟩ := s; obtain ⟨hl1, hl2, h⟩ := h
    have hsub := sub_zip
    have hL1 : Heap.IsTuple (Shared.heap ⟨hp, g, d, tk, os⟩) l1 xs := hl1
    have hL2 : Heap.IsList (Shared.heap ⟨hp.push { cls := .type "tuple_iterator", data := .fields #[.ref l1, .int 0 0] }, g, d, tk, os⟩) l2 ys := hl2.push _
    wp_walk using wpAny_pyIter_tuple hL1, wpAny_pyIter_list hL2
    exact ⟨_, rfl, h⟩

section
variable {prog : Program} {w : World} {A : Around} {E : Value → Shared → Prop} {s : Shared}

theorem call_zipM {l1 l2 : Addr} {xs ys : Array Value} {Q : Value → Shared → Prop} (hl1 : s.heap.IsTuple l1 xs) (hl2 : s.heap.IsList l2 ys)
    (h : ∀ h', IsZip h' (s.heap.objs.size + 4) (s.heap.objs.size + 2) (s.heap.objs.size + 3) .none → IsPair h' (s.heap.objs.size + 2) (.ref s.heap.objs.size) (.ref (s.heap.objs.size + 1)) →
      IsPair h' (s.heap.objs.size + 3) .none .none → h'.IsTupleIter s.heap.objs.size l1 0 → h'.IsListIter (s.heap.objs.size + 1) l2 0 → h'.objs.size = s.heap.objs.size + 5 →
      (∀ c o, s.heap.get? c = some o → h'.get? c = some o) → Q (.ref (s.heap.objs.size + 4)) { s with heap := h' }) :
    wpAny (model prog w) A (call (.type "zip") [.ref l1, .ref l2]) Q E s := by
  refine callType_new F.called_zip (by decide) (F.typeCall_zip_2 _ _) (F.newCall_zip_2 _ _) (fun obj => F.args_object_init_3 obj _ _) F.entry_zip_new
    (meets_zipM_new l1 l2 xs ys) ⟨hl1, hl2, ?_⟩
  have z1 : (zipMH1 s.heap l1).objs.size = s.heap.objs.size + 1 := Heap.size_push ..
  have z2 : (zipMH2 s.heap l1 l2).objs.size = s.heap.objs.size + 2 := by rw [Heap.size_push, z1]
  have z3 : (zipMH3 s.heap l1 l2).objs.size = s.heap.objs.size + 3 := by rw [Heap.size_push, z2]
  have z4 : (zipMH4 s.heap l1 l2).objs.size = s.heap.objs.size + 4 := by rw [Heap.size_push, z3]
  have z5 : (zipMH5 s.heap l1 l2).objs.size = s.heap.objs.size + 5 := by rw [Heap.size_push, z4]
  have g5 : (zipMH5 s.heap l1 l2).get? (zipMH4 s.heap l1 l2).objs.size = some _ := Heap.get?_push_size _ rfl
  have g4 : (zipMH5 s.heap l1 l2).get? (zipMH3 s.heap l1 l2).objs.size = some _ := Heap.get?_push_of_some _ (Heap.get?_push_size _ rfl)
  have g3 : (zipMH5 s.heap l1 l2).get? (zipMH2 s.heap l1 l2).objs.size = some _ := Heap.get?_push_of_some _ (Heap.get?_push_of_some _ (Heap.get?_push_size _ rfl))
  have g2 : (zipMH5 s.heap l1 l2).get? (zipMH1 s.heap l1).objs.size = some _ := Heap.get?_push_of_some _ (Heap.get?_push_of_some _ (Heap.get?_push_of_some _ (Heap.get?_push_size _ rfl)))
  have g1 : (zipMH5 s.heap l1 l2).get? s.heap.objs.size = some _ := Heap.get?_push_of_some _ (Heap.get?_push_of_some _ (Heap.get?_push_of_some _ (Heap.get?_push_of_some _ (Heap.get?_push_size _ rfl))))
  show _ ∧ _
  rw [z2, z3, z4] at g5
  rw [z1, z2] at g3
  rw [z3] at g4
  rw [z1] at g2
  rw [z4]
  exact ⟨⟨_, g5, rfl⟩, h _ g5 g3 g4 ⟨_, g1, rfl, rfl⟩ ⟨_, g2, rfl, rfl⟩ z5 fun c o x =>
    Heap.get?_push_of_some _ (Heap.get?_push_of_some _ (Heap.get?_push_of_some _ (Heap.get?_push_of_some _ (Heap.get?_push_of_some _ x))))⟩
end

end NZ
set_option Elab.async false
set_option linter.all false
set_option maxRecDepth 100000
set_option maxHeartbeats 4000000
/-! dict(zip(t, l)): t a tuple of tuples of texts and ints, l a list. -/
namespace NW
open PySem PySem.Spec PyProof.Rows L2

def foldT (kvs : List (List Key × V)) : List (List Key × V) := kvs.foldl (fun acc kv => putK acc kv.1 kv.2) []
theorem foldT_len (kvs : List (List Key × V)) : (foldT kvs).length ≤ kvs.length := by
  have key : ∀ (l a : List (List Key × V)), (l.foldl (fun acc kv => putK acc kv.1 kv.2) a).length ≤ a.length + l.length := fun l => by
    induction l with
    | nil => intro a; exact Nat.le_refl _
    | cons x r ih =>
      intro a
      rw [List.foldl_cons, List.length_cons]
      have := ih (putK a x.1 x.2)
      have := length_putK a x.1 x.2
      omega
  have := key kvs []
  rw [List.length_nil] at this
  unfold foldT
  omega
/-- dict(zip(t, l)) -/
def tDictZip (K : PySem.W.Frag) (ta : TA) : TE := fun σ H Q => ta σ H fun vs H1 => ∃ (a b : Addr) (ks : List (Addr × List Key)) (ys : List V), vs = [.ref a, .ref b] ∧ SqT K H1 a (ks.map fun k => .ref k.1) ∧
  (∀ k ∈ ks, H1 k.1 = some (.tup (k.2.map kV))) ∧ SqL K H1 b ys ∧ ks.length = ys.length ∧ ∀ p, H1 p = none → Q (.ref p) (upd H1 p (.dT (foldT ((ks.map (·.2)).zip ys))))
theorem vals_refs : ∀ {ps : List Addr} {us : List Value}, Vals (ps.map V.ref) us → us = ps.map Value.ref
  | [], us, r => by
    rw [List.map_nil] at r
    cases r
    rfl
  | p :: ps, us, r => by
    rw [List.map_cons] at r
    cases r with
    | cons h t =>
      cases h
      rw [List.map_cons, ← vals_refs t]
theorem kt_fold {H : Hp} : ∀ {ks : List (Addr × List Key)} {ys : List V} {us : List Value} {kvs : List (List Key × V)} {xs : List (List Key × Addr × Value)}, (∀ k ∈ ks, H k.1 = some (.tup (k.2.map kV))) → Vals ys us → KT H kvs xs →
    KT H (((ks.map (·.2)).zip ys).foldl (fun acc kv => putK acc kv.1 kv.2) kvs) (storedAllH xs ((ks.zip us).map fun z => (z.1.2, z.1.1, z.2)))
  | [], _, _, _, _, _, _, r => r
  | k :: ks, [], us, _, _, _, rv, r => by
    cases rv
    exact r
  | k :: ks, y :: ys, _, kvs, xs, hk, .cons ry rv, r =>
    kt_fold (ks := ks) (fun q hq => hk q (List.mem_cons_of_mem _ hq)) rv (r.put k.2 (hk k List.mem_cons_self) ry)
section
variable {X : Cx}
theorem pe_dictZip {a b : Expr} {ta : TA} {p p2 pos pos2 : Pos} (hc : X.calm = true) (hu : X.A.units + 64 < cLine) (hg : Gl X "dict") (hm : X.mg "dict" = none) (hg2 : Gl X "zip") (hm2 : X.mg "zip" = none) (ha : PA X [a, b] ta)
    (hs : starEach [a, b] X.env = (false, eval a X.env) :: starEach [b] X.env := by rfl) (hpl : (backTo pos2 (starEach [b] X.env)).any (·.1) = false := by rfl)
    (hs1 : starEach [.Call (.Name "zip" p2) [a, b] [] pos2] X.env = (false, eval (.Call (.Name "zip" p2) [a, b] [] pos2) X.env) :: starEach [] X.env := by rfl) (hpl1 : (backTo pos (starEach [] X.env)).any (·.1) = false := by rfl) :
    PE X (.Call (.Name "dict" p) [.Call (.Name "zip" p2) [a, b] [] pos2] [] pos) (tDictZip X.K ta) := by
  refine ⟨fun pins s σ H Q I h => ?_⟩
  refine wpAny_Call_Name_kw (ld_blt I hg hm boot_dict (PyProof.Rows.callWith_type1 ?_ hs1 hpl1))
  rw [hs1]
  show wpAny _ _ (spliced ((false, eval (.Call (.Name "zip" p2) [a, b] [] pos2) X.env) :: backTo pos (starEach [] X.env))) _ _ _
  refine Calls.spliced_cons (Call_ (ld_blt I hg2 hm2 boot_zip (PyProof.Rows.callWith_type1 (thn (ha.run pos2 pins s σ H _ I h) fun us s1 ⟨vs, H1, I1, r1, q1⟩ => ?_) hs hpl)))
  obtain ⟨a0, b0, ks, ys, ex, hqa, hks, hqb, hlen, q⟩ := q1
  subst ex
  cases r1 with
  | cons r rr =>
    cases rr with
    | cons r' rr =>
      cases rr
      cases r
      cases r'
      obtain ⟨its, rv, p1, hz1⟩ := I1.tuple hqa
      obtain ⟨its2, rv2, pl2, hz2⟩ := I1.list hqb
      have hits : its = (ks.map (·.1)).map Value.ref := by
        refine vals_refs ?_
        rw [List.map_map]
        exact rv
      obtain ⟨o1, ho1, _⟩ := id p1
      have l2 : its2.length = ys.length := rv2.length.symm
      have l1 : its.length = ks.length := by rw [hits]; simp
      have hlt1 : a0 < s1.heap.objs.size := Heap.lt_size ho1
      have D := PySem.W.ktu_apart s1.heap.objs.size a0 b0 hlt1 pl2.lt
      refine NZ.call_zipM (show s1.heap.IsTuple a0 its.toArray from p1) pl2.isList fun h' hz hTI hTO h1 h2 hsz hk => ?_
      refine Calls.spliced_nil ?_
      have I2 : Inv X pins σ H1 { s1 with heap := h' } := I1.kept (t' := s1.toks) hk
      have hbt : ∀ k ∈ ks, k.1 < s1.heap.objs.size := fun k hk' => (I1.hok _ _ (hks k hk')).lt
      have hps : ((ks.zip its2).map fun z => (z.1.2, z.1.1, z.2)).length = min its.toArray.size its2.toArray.size := by
        rw [List.length_map, List.length_zip, List.size_toArray, List.size_toArray, l1]
      refine PySem.call_dict_pairsH (knd := tupleKind (mixKind X.prog X.w)) (ps := (ks.zip its2).map fun z => (z.1.2, z.1.1, z.2))
        (NZ.pairArg_zipM (prog := X.prog) (w := X.w) (s1.heap.objs.size + 4) (s1.heap.objs.size + 2) (s1.heap.objs.size + 3) s1.heap.objs.size (s1.heap.objs.size + 1) a0 b0 D its.toArray its2.toArray) (I1.ok.hd hc) ?_
        ⟨hz, hTI, ⟨_, _, hTO⟩, h1, h2, ?_, ?_⟩ ⟨hps, ?_⟩ ?_ ?_ fun h'' tk hd' hk' => ?_
      · show X.A.in1.in1.units < cLine
        show X.A.units + 1 + 1 < cLine
        omega
      · obtain ⟨o, ho, r⟩ := p1
        exact ⟨o, hk _ _ ho, r⟩
      · exact pl2.isList.at fun o e => hk _ o e
      · intro i key v hrel
        obtain ⟨e1, e2⟩ := hrel
        have e1' : its[i]? = some key := by simpa using e1
        have e2' : its2[i]? = some v := by simpa using e2
        rw [hits, List.map_map, List.getElem?_map] at e1'
        cases hki : ks[i]? with
        | none => rw [hki] at e1'; cases e1'
        | some k =>
          rw [hki] at e1'
          cases e1'
          refine ⟨k.2, k.1, ?_, rfl⟩
          rw [List.getElem?_map, (List.getElem?_zip_eq_some (z := (k, v))).mpr ⟨hki, e2'⟩]
          rfl
      · intro h3 hk3 x hx
        obtain ⟨z, hz', rfl⟩ := List.mem_map.mp hx
        have hmem : z.1 ∈ ks := (List.of_mem_zip (a := z.1) (b := z.2) hz').1
        obtain ⟨o, items, n, g1, g2, g3, g4⟩ := key_of I1.hok (hks _ hmem)
        have hlt := hbt _ hmem
        refine ⟨o, items, n, hk3 _ _ (fun e => ?_) (fun hm' => ?_) (hk _ _ g1), g2, g3, g4⟩
        · have := Heap.lt_size (hk _ _ g1)
          show False
          exact absurd (show z.1.1 = h'.objs.size from e) (Nat.ne_of_lt this)
        · simp only [List.mem_cons, List.not_mem_nil, or_false] at hm'
          show False
          have hm2 : z.1.1 = s1.heap.objs.size + 4 ∨ z.1.1 = s1.heap.objs.size + 3 ∨ z.1.1 = s1.heap.objs.size ∨ z.1.1 = s1.heap.objs.size + 1 := hm'
          rcases hm2 with e | e | e | e
          · exact absurd e (Nat.ne_of_lt (Nat.lt_of_lt_of_le hlt (Nat.le_add_right _ _)))
          · exact absurd e (Nat.ne_of_lt (Nat.lt_of_lt_of_le hlt (Nat.le_add_right _ _)))
          · exact absurd e (Nat.ne_of_lt hlt)
          · exact absurd e (Nat.ne_of_lt (Nat.lt_of_lt_of_le hlt (Nat.le_add_right _ _)))
      · rw [List.size_toArray, List.size_toArray]
        omega
      · have hfr : H1 h'.objs.size = none := I2.hok.fresh (Nat.le_refl _)
        have hmods : (h'.objs.size == sysModules) = false := beq_eq_false_iff_ne.mpr (Nat.ne_of_gt I2.big)
        obtain ⟨o, es, ep, hq, g2, g3, g4, _, g5⟩ := hd'
        refine ⟨.ref h'.objs.size, _, I1.laid (t' := tk) (o := .dT (foldT ((ks.map (·.2)).zip ys))) (fun c oc e => hk' c oc (fun hm' => ?_) (hk c oc e)) (by rw [hsz]; omega) ?_, rfl, q _ hfr⟩
        · simp only [List.mem_cons, List.not_mem_nil, or_false] at hm'
          have hlt := Heap.lt_size e
          rcases hm' with e | e | e | e
          · exact absurd e (Nat.ne_of_lt (Nat.lt_of_lt_of_le hlt (Nat.le_add_right _ _)))
          · exact absurd e (Nat.ne_of_lt (Nat.lt_of_lt_of_le hlt (Nat.le_add_right _ _)))
          · exact absurd e (Nat.ne_of_lt hlt)
          · exact absurd e (Nat.ne_of_lt (Nat.lt_of_lt_of_le hlt (Nat.le_add_right _ _)))
        · refine ⟨?_, hmods, _, (kt_fold hks rv2 .nil).keeps fun c ys' ec => ?_, o, es, ep, hq, g2, g3, g4, g5⟩
          · have := foldT_len ((ks.map (·.2)).zip ys)
            rw [List.length_zip, List.length_map] at this
            omega
          · rw [upd_ne (ne_of_none ec hfr)]
            exact ec
end
/-! by data -/
open DL
def foldD (kvs : List (List Key × PyData)) : List (List Key × PyData) := kvs.foldl (fun acc kv => putD acc kv.1 kv.2) []
theorem fold_at {hid : Hid} {H : Hp} : ∀ {kys : List (List Key)} {ys : List PyData} {vs : List V} {kvs : List (List Key × PyData)} {ws : List (List Key × V)}, AtL hid H ys vs → ws.map (·.1) = kvs.map (·.1) → AtL hid H (kvs.map (·.2)) (ws.map (·.2)) →
    ((kys.zip vs).foldl (fun acc kv => putK acc kv.1 kv.2) ws).map (·.1) = ((kys.zip ys).foldl (fun acc kv => putD acc kv.1 kv.2) kvs).map (·.1) ∧
      AtL hid H (((kys.zip ys).foldl (fun acc kv => putD acc kv.1 kv.2) kvs).map (·.2)) (((kys.zip vs).foldl (fun acc kv => putK acc kv.1 kv.2) ws).map (·.2))
  | [], _, _, _, _, _, hk, hv => ⟨hk, hv⟩
  | k :: kys, [], _, _, _, a, hk, hv => by
    cases a
    exact ⟨hk, hv⟩
  | k :: kys, y :: ys, v :: vs, kvs, ws, .cons a1 r, hk, hv => by
    obtain ⟨p1, p2⟩ := put_at (k := k) hk hv a1
    exact fold_at (kys := kys) r p1 p2
/-- a tuple of tuples of keys -/
theorem keys_at {hid : Hid} {H : Hp} : ∀ {kss : List (List Key)} {vs : List V}, AtL hid H (kss.map fun ks => .tuple (ks.map keyD)) vs → ∃ ks : List (Addr × List Key), vs = ks.map (fun k => V.ref k.1) ∧ ks.map (·.2) = kss ∧ ∀ k ∈ ks, H k.1 = some (.tup (k.2.map kV))
  | [], _, a => by
    cases a
    exact ⟨[], rfl, rfl, fun k hk => nomatch hk⟩
  | k :: kss, _, a => by
    rw [List.map_cons] at a
    cases a with
    | cons a1 r =>
      obtain ⟨ks, e1, e2, e3⟩ := keys_at r
      cases a1 with
      | tuple n e l =>
        have := keysD_at l
        subst this
        subst e1
        refine ⟨(_, k) :: ks, rfl, by rw [List.map_cons, e2], fun q hq => ?_⟩
        rcases List.mem_cons.mp hq with rfl | m
        · exact e
        · exact e3 q m
theorem ev_dictZip {K : PySem.W.Frag} {ρ : DL.Env} {ta : TA} {kss : List (List Key)} {ys : List PyData} (hl : kss.length = ys.length) (h : EvA ta ρ [.p (.tuple (kss.map fun ks => .tuple (ks.map keyD))), .p (.list ys)]) :
    Ev (tDictZip K ta) ρ (.dt (foldD (kss.zip ys))) := fun hid H σ o E Q q => h hid H σ o E _ fun vs H1 e1 a => by
  cases a with
  | cons a r =>
    cases r with
    | cons c r =>
      cases r
      cases a with
      | @tuple a0 vs _ n e l =>
        cases c with
        | @list c0 ws _ n2 e2 l2 =>
          obtain ⟨ks, rfl, hks, hkt⟩ := keys_at l
          have hll := l2.length
          have hl1 : ks.length = kss.length := by rw [← hks, List.length_map]
          refine ⟨_, _, ks, ws, rfl, .of e, hkt, .of e2, by omega, fun p hp => q _ _ (e1.trans (ex_new hp)) ?_⟩
          rw [hks]
          obtain ⟨f1, f2⟩ := fold_at (kys := kss) (kvs := []) (ws := []) (l2.ex (ex_new hp (o := .dT (foldT (kss.zip ws))))) rfl .nil
          exact ⟨p, _, rfl, (o.ex e1).new hp, upd_same, f1, f2⟩
end NW
set_option Elab.async false
set_option linter.all false
set_option maxRecDepth 100000
set_option maxHeartbeats 4000000
/-! dict comprehensions with two clauses; a dict comprehension given to a name on one line: the rules that the layer has for lists, turned to dicts. -/
namespace NW
open PySem PySem.Spec PyProof.Rows L2

theorem dcTurn2_out (kx vx t0 i0 t1 i1 : Expr) (ifs0 ifs1 : List Expr) (scope : Scope) (pos : Pos) (it acc : Value) (env : Env) :
    compTurn (.DictComp kx vx [⟨t0, i0, ifs0, 0⟩, ⟨t1, i1, ifs1, 0⟩] scope pos) 0 it acc env = (do
      standAt i0.pos
      match ← pyNext it with
      | none => pure (.done .next)
      | some v =>
        letOwnedTupleGo t0 it v
        assign t0 env v
        let mut ok := true
        for c in ifs0 do
          if ok then ok ← isTrue c env (eval c env)
        if ok then
          let x ← eval i1 env
          standAt i1.pos
          let x ← foldedSetIterable i1 env x
          let _ ← runOwn (.compStart (.DictComp kx vx [⟨t0, i0, ifs0, 0⟩, ⟨t1, i1, ifs1, 0⟩] scope pos) 1 (← holding [x] (pyIter x)) acc env) env
        again (.compLoop (.DictComp kx vx [⟨t0, i0, ifs0, 0⟩, ⟨t1, i1, ifs1, 0⟩] scope pos) 0 it acc env)) := by rfl
theorem dcTurn2_in (kx vx t0 i0 t1 i1 : Expr) (ifs0 ifs1 : List Expr) (scope : Scope) (pos : Pos) (it : Value) (D : Addr) (env : Env) :
    compTurn (.DictComp kx vx [⟨t0, i0, ifs0, 0⟩, ⟨t1, i1, ifs1, 0⟩] scope pos) 1 it (.ref D) env = (do
      standAt i1.pos
      match ← pyNext it with
      | none => pure (.done .next)
      | some v =>
        letOwnedTupleGo t1 it v
        assign t1 env v
        let mut ok := true
        for c in ifs1 do
          if ok then ok ← isTrue c env (eval c env)
        if ok then
          (do
            let kv ← eval kx env
            let vv ← holding [kv] (eval vx env)
            standAt { kx.pos with endLine := vx.pos.endLine, endCol := vx.pos.endCol }
            holding [kv, vv] (dictSet D kv vv))
        again (.compLoop (.DictComp kx vx [⟨t0, i0, ifs0, 0⟩, ⟨t1, i1, ifs1, 0⟩] scope pos) 1 it (.ref D) env)) := by rfl

section
variable {prog : Program} {w : World} {A : Around} {R : Result → Shared → Prop} {s : Shared} {kx vx t0 i0 t1 i1 : Expr} {ifs0 ifs1 : List Expr} {scope : Scope} {pos : Pos} {it acc : Value} {D : Addr} {env : Env}
/-- the loop of the first clause -/
theorem dcLoop2_out (hs : ∀ x, foldedSetIterable i1 env x = pure x) (I : Nat → Shared → Prop)
    (turn : ∀ n s, I n s → wpAny (model prog w) A (pyNext it) (fun r s₁ => match r with
      | none => R (.ok .next) s₁
      | some v => wpAny (model prog w) A (letOwnedTupleGo t0 it v) (fun _ s₁' => wpAny (model prog w) A (assign t0 env v) (fun _ s₂ =>
          wpAny (model prog w) A (forIn ifs0 true fun c r => if r = true then do let ok ← isTrue c env (eval c env); pure (ForInStep.yield ok) else pure (ForInStep.yield r)) (fun ok s₃ =>
            if ok = true then wpAny (model prog w) A (eval i1 env) (fun x s₄ => wpAny (model prog w) A (pyIter x) (fun it1 s₅ =>
              codeAny (model prog w) A (.compStart (.DictComp kx vx [⟨t0, i0, ifs0, 0⟩, ⟨t1, i1, ifs1, 0⟩] scope pos) 1 it1 acc env) (fun r s' => match r with
                | .ok _ => ∃ m, m < n ∧ I m s'
                | .error _ => False) s₅) (notedBy (model prog w) A env fun e s' => R (.error e) s') s₄) (notedBy (model prog w) A env fun e s' => R (.error e) s') s₃
            else ∃ m, m < n ∧ I m s₃) (notedBy (model prog w) A env fun e s' => R (.error e) s') s₂) (notedBy (model prog w) A env fun e s' => R (.error e) s') s₁') (notedBy (model prog w) A env fun e s' => R (.error e) s') s₁) (notedBy (model prog w) A env fun e s' => R (.error e) s') s)
    (n : Nat) (h : I n s) :
    codeAny (model prog w) A (.compLoop (.DictComp kx vx [⟨t0, i0, ifs0, 0⟩, ⟨t1, i1, ifs1, 0⟩] scope pos) 0 it acc env) R s := by
  refine codeAny_loop rfl I (fun n s hI => ?_) n h
  show wpAny _ A ((compTurn (.DictComp kx vx [⟨t0, i0, ifs0, 0⟩, ⟨t1, i1, ifs1, 0⟩] scope pos) 0 it acc env).onRaise (fun x => do noteFrame x env; theTreesLotGoes x)) _ _ s
  refine wpAny_noted ?_
  rw [dcTurn2_out]
  refine wpAny_bind (wpAny_standAt (wpAny_bind (wpAny_mono (turn n s hI) (fun r s₁ h₁ => ?_) fun _ _ h' => h')))
  cases r with
  | none => exact wpAny_pure h₁
  | some v =>
    refine wpAny_bind (wpAny_mono h₁ (fun _ s₁' h₁' => ?_) fun _ _ h' => h')
    refine wpAny_bind (wpAny_mono h₁' (fun _ s₂ h₂ => wpAny_bind (wpAny_mono h₂ (fun ok s₃ h₃ => ?_) fun _ _ h' => h')) fun _ _ h' => h')
    cases ok with
    | false => exact wpAny_pure ⟨rfl, h₃⟩
    | true =>
      refine wpAny_bind (wpAny_mono h₃ (fun x s₄ h₄ => ?_) fun _ _ h' => h')
      refine wpAny_bind (wpAny_standAt (wpAny_bind (wpAny_of_eq (hs x) (wpAny_bind (wpAny_holding (wpAny_mono h₄ (fun it1 s₅ h₅ => ?_) fun _ _ h' => h'))))))
      refine wpAny_bind (wpAny_runOwn ?_)
      rw [Around.mark_none]
      refine codeAny_mono h₅ fun r s' hr => ?_
      cases r with
      | ok f =>
        first
          | exact wpAny_pure ⟨rfl, hr⟩
          | exact wpAny_bind (wpAny_pure (wpAny_pure ⟨rfl, hr⟩))
      | error e => exact hr.elim
/-- the loop of the second -/
theorem dcLoop2_in (I : Nat → Shared → Prop)
    (turn : ∀ n s, I n s → wpAny (model prog w) A (pyNext it) (fun r s₁ => match r with
      | none => R (.ok .next) s₁
      | some v => wpAny (model prog w) A (letOwnedTupleGo t1 it v) (fun _ s₁' => wpAny (model prog w) A (assign t1 env v) (fun _ s₂ =>
          wpAny (model prog w) A (forIn ifs1 true fun c r => if r = true then do let ok ← isTrue c env (eval c env); pure (ForInStep.yield ok) else pure (ForInStep.yield r)) (fun ok s₃ =>
            if ok = true then wpAny (model prog w) A (eval kx env) (fun kv s₄ => wpAny (model prog w) A (eval vx env) (fun vv s₅ =>
              wpAny (model prog w) A (dictSet D kv vv) (fun _ s₆ => ∃ m, m < n ∧ I m s₆) (notedBy (model prog w) A env fun e s' => R (.error e) s') s₅) (notedBy (model prog w) A env fun e s' => R (.error e) s') s₄) (notedBy (model prog w) A env fun e s' => R (.error e) s') s₃
            else ∃ m, m < n ∧ I m s₃) (notedBy (model prog w) A env fun e s' => R (.error e) s') s₂) (notedBy (model prog w) A env fun e s' => R (.error e) s') s₁') (notedBy (model prog w) A env fun e s' => R (.error e) s') s₁) (notedBy (model prog w) A env fun e s' => R (.error e) s') s)
    (n : Nat) (h : I n s) :
    codeAny (model prog w) A (.compLoop (.DictComp kx vx [⟨t0, i0, ifs0, 0⟩, ⟨t1, i1, ifs1, 0⟩] scope pos) 1 it (.ref D) env) R s := by
  refine codeAny_loop rfl I (fun n s hI => ?_) n h
  show wpAny _ A ((compTurn (.DictComp kx vx [⟨t0, i0, ifs0, 0⟩, ⟨t1, i1, ifs1, 0⟩] scope pos) 1 it (.ref D) env).onRaise (fun x => do noteFrame x env; theTreesLotGoes x)) _ _ s
  refine wpAny_noted ?_
  rw [dcTurn2_in]
  refine wpAny_bind (wpAny_standAt (wpAny_bind (wpAny_mono (turn n s hI) (fun r s₁ h₁ => ?_) fun _ _ h' => h')))
  cases r with
  | none => exact wpAny_pure h₁
  | some v =>
    refine wpAny_bind (wpAny_mono h₁ (fun _ s₁' h₁' => ?_) fun _ _ h' => h')
    refine wpAny_bind (wpAny_mono h₁' (fun _ s₂ h₂ => wpAny_bind (wpAny_mono h₂ (fun ok s₃ h₃ => ?_) fun _ _ h' => h')) fun _ _ h' => h')
    cases ok with
    | false => exact wpAny_pure ⟨rfl, h₃⟩
    | true =>
      exact wpAny_bind (wpAny_bind (wpAny_mono h₃ (fun kv s₄ h₄ => wpAny_bind (wpAny_holding (wpAny_mono h₄ (fun vv s₅ h₅ => wpAny_bind (wpAny_standAt (wpAny_holding (wpAny_mono h₅ (fun _ s₆ h₆ => wpAny_pure ⟨rfl, h₆⟩) fun _ _ h' => h')))) fun _ _ h' => h'))) fun _ _ h' => h'))
/-- the second clause's start -/
theorem dcStart1_ok (h0 : codeAny (model prog w) A (.compLoop (.DictComp kx vx [⟨t0, i0, ifs0, 0⟩, ⟨t1, i1, ifs1, 0⟩] scope pos) 1 it acc env) R s)
    (h : wpAny (model prog w) A (pyIter it) (fun it' s' => codeAny (model prog w) A (.compLoop (.DictComp kx vx [⟨t0, i0, ifs0, 0⟩, ⟨t1, i1, ifs1, 0⟩] scope pos) 1 it' acc env) R s')
      (notedBy (model prog w) A env fun x s' => R (.error x) s') s) :
    codeAny (model prog w) A (.compStart (.DictComp kx vx [⟨t0, i0, ifs0, 0⟩, ⟨t1, i1, ifs1, 0⟩] scope pos) 1 it acc env) R s := by
  refine codeAny_of_tree ?_
  show wpAny _ _ ((compStart (.DictComp kx vx [⟨t0, i0, ifs0, 0⟩, ⟨t1, i1, ifs1, 0⟩] scope pos) 1 it acc env).onRaise (fun x => do noteFrame x env; standAt theWindowsPlace)) _ _ s
  refine wpAny_notedAt ?_
  unfold compStart
  show wpAny _ _ (ask >>= _) _ _ s
  refine wpAny_bind (wpAny_askSetting (wpAny_ite ?_))
  split
  · first
      | exact wpAny_bind (wpAny_pure (wpAny_pure (And.intro rfl h0)))
      | exact wpAny_pure (And.intro rfl h0)
  · first
      | exact wpAny_bind (wpAny_rule (wpAny_bind (wpAny_standAt (wpAny_bind (wpAny_mono h (fun it' s' h' => wpAny_pure (And.intro rfl h')) fun _ _ x => x)))))
      | (refine wpAny_bind (wpAny_rule ?_); show wpAny _ _ (standAt i1.pos >>= _) _ _ s; exact wpAny_bind (wpAny_standAt (wpAny_bind (wpAny_mono h (fun it' s' h' => wpAny_pure (And.intro rfl h')) fun _ _ x => x))))
end

section
variable {X : Cx}
/-- [elt for tg in iter if .. for tg1 in iter1 if ..]: behind the first clause's store and tests the second source's own loop, from which Nx is reached. vs: the block's names; vs1: those of the second target -/
def tDc2 (wi : TI) (g : TG) (tt : TT) (wi1 : TI) (g1 : TG) (tt1 : TT) (tk tv : TE) (vs vs1 : List Nat) : TE := fun σ H Q => wi σ H fun J H1 => ∀ D, H1 D = none → ∃ W : Nat → Nat → Hp → Prop, (∃ m, W 0 m (upd H1 D (.dK []))) ∧ ∀ i m H, W i m H →
  (J.stop i H ∧ Q (.ref D) H) ∨ (J.go i H ∧ ∃ Nx : Hp → Prop, (∀ H', Nx H' → ∃ m', m' < m ∧ W (i + 1) m' H') ∧ ∀ x H', J.yld i H x H' → g x (wipe σ vs) H' fun σ2 H2 => wipe σ2 vs = wipe σ vs ∧ tt σ2 H2 fun b H3 =>
    if b = true then wi1 σ2 H3 fun J1 H4 => ∃ W1 : Nat → Nat → Hp → Prop, (∃ m, W1 0 m H4) ∧ ∀ j k H, W1 j k H →
      (J1.stop j H ∧ Nx H) ∨ (J1.go j H ∧ ∃ Nx1 : Hp → Prop, (∀ H', Nx1 H' → ∃ k', k' < k ∧ W1 (j + 1) k' H') ∧ ∀ x H', J1.yld j H x H' → g1 x (wipe σ2 vs1) H' fun σ3 H5 => wipe σ3 vs1 = wipe σ2 vs1 ∧ tt1 σ3 H5 fun b H6 =>
        if b = true then tk σ3 H6 fun y H7 => tv σ3 H7 fun z H8 => ∃ kvs k, y = kV k ∧ H8 D = some (.dK kvs) ∧ kvs.length < sizeLine ∧ Nx1 (upd H8 D (.dK (putK kvs k z))) else Nx1 H6)
    else Nx H3)
theorem dc2_core {pins : List (Addr × Obj)} {s : Shared} {σ : L2.St} {H : Hp} {Q : VK} {kx vx tg iter tg1 iter1 : Expr} {ifs ifs1 : List Expr} {scope : Scope} {own : List (Str × Nat)} {vs1 : List Nat} {pos pos' : Pos} {wi wi1 : TI} {g g1 : TG} {tt tt1 : TT} {tk tv : TE} {use : Option (Value → Sem Unit)} {Qf : Value → Shared → Prop}
    (hc : X.calm = true) (hN : X.N.Nodup) (I : L2.Inv X pins σ H s) (hi : PI X tg iter wi) (ok : BlkOk X.N X.env.scope scope own) (hv : ∀ i ∈ vs1, i ∈ own.map (·.2))
    (hg : ∀ (s : Shared) (H : Hp) (C : Addr) (cl : List (Str × Addr)) (fp : List Addr), PG (X.blk s H scope (compEnvC scope cl C X.env) fp) tg g) (ht : ∀ (s : Shared) (H : Hp) (C : Addr) (cl : List (Str × Addr)) (fp : List Addr), PTs (X.blk s H scope (compEnvC scope cl C X.env) fp) ifs tt)
    (hk : ∀ (s : Shared) (H : Hp) (C : Addr) (cl : List (Str × Addr)) (fp : List Addr), PE (X.blk s H scope (compEnvC scope cl C X.env) fp) kx tk)
    (he : ∀ (s : Shared) (H : Hp) (C : Addr) (cl : List (Str × Addr)) (fp : List Addr), PE (X.blk s H scope (compEnvC scope cl C X.env) fp) vx tv) (hs : ∀ x, foldedSetIterable iter X.env x = pure x)
    (hi1 : ∀ (s : Shared) (H : Hp) (C : Addr) (cl : List (Str × Addr)) (fp : List Addr), PI (X.blk s H scope (compEnvC scope cl C X.env) fp) tg1 iter1 wi1)
    (hg1 : ∀ (s : Shared) (H : Hp) (C : Addr) (cl : List (Str × Addr)) (fp : List Addr), PG (X.blk s H scope (compEnvC scope cl C X.env) fp) tg1 g1)
    (ht1 : ∀ (s : Shared) (H : Hp) (C : Addr) (cl : List (Str × Addr)) (fp : List Addr), PTs (X.blk s H scope (compEnvC scope cl C X.env) fp) ifs1 tt1)
    (hs1 : ∀ env x, foldedSetIterable iter1 env x = pure x)
    (h : tDc2 wi g tt wi1 g1 tt1 tk tv (own.map (·.2)) vs1 σ H Q)
    (hRR : ∀ D C s' m H', L2.Inv X pins σ H' s' → Q (.ref D) H' → s'.heap.Ns C m → FpOk X pins H' C → compPost (model X.prog X.w) X.A X.xe use Qf (.ref D) C (.ok .next) s') :
    wpAny (model X.prog X.w) X.A (comprehension (.DictComp kx vx [⟨tg, iter, ifs, 0⟩, ⟨tg1, iter1, ifs1, 0⟩] scope pos) scope X.env pos' newDict false (eval iter X.env) use) Qf X.xe s := by
  have hfree : ∀ y ∈ scope.names, y.2 = .free → ∃ c, X.env.cells.lookup y.1 = some c := fun y hy e => by
    rcases ok.free y hy e with k | k
    · exact I.ok.has _ (.inl k)
    · exact I.ok.has _ (.inr k)
  refine wpAny_comprehension_free (use := use) rfl hs (closure_ok hfree) ok.kind (fun y hy e => by rw [ok.uniq y hy, e])
    (thn (hi.run pins s σ H _ I h) fun xv s1 hx => thn hx fun itv s2 h2 => ?_)
  obtain ⟨it, fp, tn, J, H2, e, I2, T, st2, f2, q⟩ := h2
  subst e
  refine wpAny_newObj_type (newEnv_comp ?_)
  generalize hD : s2.heap.objs.size = D
  have hDn : H2 D = none := I2.hok.fresh (Nat.le_of_eq hD)
  obtain ⟨W, ⟨m0, w0⟩, turn⟩ := q D hDn
  -- the new list
  generalize hs3 : ({ s2 with heap := s2.heap.push { cls := .type "dict", data := .dict #[] } } : Shared) = s3
  have I3 : L2.Inv X pins σ (upd H2 D (.dK [])) s3 := by
    rw [← hs3]
    refine I2.laid (t' := s2.toks) (fun b o e => Heap.get?_push_of_some _ e) (Nat.le_of_eq hD) ?_
    rw [← hD]
    exact dk_empty s2.heap I2.big
  have h3 : s3.heap = s2.heap.push { cls := .type "dict", data := .dict #[] } := by rw [← hs3]
  have sz : ∀ b ∈ fp, b < s2.heap.objs.size := fun b hb => by
    obtain ⟨o, e, _⟩ := T.obj _ _ st2 b hb
    exact Heap.lt_size e
  have f3 : ∀ b ∈ fp, FpOk X pins (upd H2 D (.dK [])) b ∧ b < s3.heap.objs.size := fun b hb => by
    have hlt := sz b hb
    refine ⟨⟨?_, (f2 b hb).2⟩, by rw [h3, Heap.size_push]; exact Nat.lt_succ_of_lt hlt⟩
    rw [upd_ne (by rw [← hD]; exact Nat.ne_of_lt hlt)]
    exact (f2 b hb).1
  have st3 : tn 0 s3.heap := T.keep _ _ _ st2 fun b _ o e => by rw [h3]; exact Heap.get?_push_of_some _ e
  have I4 := block_start I3 ok hN f3
  have pg := hg s3 (upd H2 D (.dK [])) s3.heap.objs.size (cellsFrom (s3.heap.objs.size + 1) scope.names (cloFrom X.env.cells scope.names [])) fp
  have pt := ht s3 (upd H2 D (.dK [])) s3.heap.objs.size (cellsFrom (s3.heap.objs.size + 1) scope.names (cloFrom X.env.cells scope.names [])) fp
  have pk := hk s3 (upd H2 D (.dK [])) s3.heap.objs.size (cellsFrom (s3.heap.objs.size + 1) scope.names (cloFrom X.env.cells scope.names [])) fp
  have pe := he s3 (upd H2 D (.dK [])) s3.heap.objs.size (cellsFrom (s3.heap.objs.size + 1) scope.names (cloFrom X.env.cells scope.names [])) fp
  have pi1 := hi1 s3 (upd H2 D (.dK [])) s3.heap.objs.size (cellsFrom (s3.heap.objs.size + 1) scope.names (cloFrom X.env.cells scope.names [])) fp
  have pg1 := hg1 s3 (upd H2 D (.dK [])) s3.heap.objs.size (cellsFrom (s3.heap.objs.size + 1) scope.names (cloFrom X.env.cells scope.names [])) fp
  have pt1 := ht1 s3 (upd H2 D (.dK [])) s3.heap.objs.size (cellsFrom (s3.heap.objs.size + 1) scope.names (cloFrom X.env.cells scope.names [])) fp
  show codeAny _ _ (.compStart (.DictComp kx vx [⟨tg, iter, ifs, 0⟩, ⟨tg1, iter1, ifs1, 0⟩] scope pos) 0 (.ref it) (.ref D) (compEnvC scope (cellsFrom (s3.heap.objs.size + 1) scope.names (cloFrom X.env.cells scope.names [])) s3.heap.objs.size X.env)) (compPost (model X.prog X.w) X.A X.xe use Qf (.ref D) s3.heap.objs.size) { s3 with heap := pushCells (s3.heap.push { cls := .type "dict", data := .dict #[] }) scope.names }
  have nfp : ∀ b ∈ fp, (upd H2 D (.dK [])) b = none := fun b hb => (f3 b hb).1.1
  generalize hce : compEnvC scope (cellsFrom (s3.heap.objs.size + 1) scope.names (cloFrom X.env.cells scope.names [])) s3.heap.objs.size X.env = ce at I4 pg pt pk pe pi1 pg1 pt1 ⊢
  have cL : ce.locals = s3.heap.objs.size := by subst hce; rfl
  generalize hH3 : upd H2 D (.dK []) = H3 at I3 I4 pg pt pk pe pi1 pg1 pt1 w0 nfp f3
  generalize hs4 : ({ s3 with heap := pushCells (s3.heap.push { cls := .type "dict", data := .dict #[] }) scope.names } : Shared) = s4 at I4 ⊢
  have st4 : tn 0 s4.heap := T.keep _ _ _ st3 fun b _ o e => by rw [← hs4]; exact pushCells_keeps _ _ _ _ (Heap.get?_push_of_some _ e)
  have stat : ∀ {σ' : L2.St} {H' : Hp} {s' : Shared}, L2.Inv (X.blk s3 H3 scope ce fp) [] σ' H' s' → (∀ b ∈ fp, H' b = none) → ∀ b ∈ fp, FpOk (X.blk s3 H3 scope ce fp) [] H' b := fun {σ' H' s'} I' hn b hb =>
    ⟨hn b hb, (I'.ok.exf b hb).1, I'.ok.exfs b hb, .inl hb, fun x c e => (I'.ok.exf b hb).2 x c e, fun p hp => absurd (show p ∈ ([] : List (Addr × Obj)) ++ [] from hp) (by simp)⟩
  have loop : codeAny (model X.prog X.w) X.A (.compLoop (.DictComp kx vx [⟨tg, iter, ifs, 0⟩, ⟨tg1, iter1, ifs1, 0⟩] scope pos) 0 (.ref it) (.ref D) ce) (compPost (model X.prog X.w) X.A X.xe use Qf (.ref D) s3.heap.objs.size) s4 := by
    refine dcLoop2_out (hs1 ce) (fun n s' => ∃ i H', L2.Inv (X.blk s3 H3 scope ce fp) [] (wipe σ (own.map (·.2))) H' s' ∧ tn i s'.heap ∧ (∀ b ∈ fp, H' b = none) ∧ W i n H') ?_ m0 ⟨0, H3, I4, st4, nfp, w0⟩
    rintro n s5 ⟨i, H5, I5, st5, n5, w5⟩
    rcases turn i n H5 w5 with ⟨stop, qq⟩ | ⟨go, Nx, hNx, step⟩
    · have td := T.done (X.blk s3 H3 scope ce fp) rfl rfl rfl hc i [] s5 _ H5 (fun _ _ => False) I5 (stat I5 n5) st5 stop
      refine thnF td fun r s6 ⟨hr, I6⟩ => ?_
      subst hr
      -- back in the def's context
      have I7 : L2.Inv X pins σ H5 s6 := I3.call' (ch := fp) I6.os I6.base I6.hok I6.bare fun b hb => ⟨(f3 b hb).1.2.2.2.1, (f3 b hb).1.2.1, (f3 b hb).1.2.2.2.2.1, (f3 b hb).1.2.2.2.2.2⟩
      have nC : H5 s3.heap.objs.size = none := by
        have z : H5 ce.locals = none := I6.free
        rw [cL] at z
        exact z
      obtain ⟨m, hn, _⟩ := I6.loc
      have hn : s6.heap.Ns ce.locals m := hn
      rw [cL] at hn
      exact hRR D s3.heap.objs.size s6 m H5 I7 qq hn (I3.fpOk (Nat.le_refl _) nC)
    · have ti := T.item (X.blk s3 H3 scope ce fp) rfl rfl rfl hc i [] s5 _ H5 (fun _ _ => False) I5 (stat I5 n5) st5 go
      refine thnF ti fun r s6 ⟨u, hr, h6⟩ => ?_
      subst hr
      refine thnF h6 fun _ s7 ⟨x, H7, I7, r7, y7, st7, n7⟩ => ?_
      have I7' := I7.pinned (stat I7 n7) (T.obj _ _ st7)
      refine thnF (pg.run _ s7 _ H7 x u _ I7' r7 (step x H7 y7)) fun _ s8 ⟨σ8, H8, I8, hw8, q8⟩ => ?_
      refine thnF (pt.run _ s8 σ8 H8 _ I8 q8) fun b s9 ⟨H9, I9, q9⟩ => ?_
      -- the turn's end, from any slots that know what the block knew at its start
      have fin : ∀ {σ9 : L2.St} {s' : Shared} {H' : Hp}, L2.Inv (X.blk s3 H3 scope ce fp) ([] ++ pinsAt fp s7.heap) σ9 H' s' → (wipe σ (own.map (·.2))).length = σ9.length → (∀ (j : Nat) v, (wipe σ (own.map (·.2)))[j]? = some (some v) → σ9[j]? = some (some v)) → Nx H' →
          ∃ m, m < n ∧ ∃ i H', L2.Inv (X.blk s3 H3 scope ce fp) [] (wipe σ (own.map (·.2))) H' s' ∧ tn i s'.heap ∧ (∀ b ∈ fp, H' b = none) ∧ W i m H' := fun {σ9 s' H'} I' hl hk nx => by
        obtain ⟨m', hm, w'⟩ := hNx H' nx
        have pin' : ∀ b ∈ fp, ∀ o, s7.heap.get? b = some o → s'.heap.get? b = some o ∧ H' b = none := fun b hb o e =>
          let z := I'.pin (b, o) (List.mem_append_right _ (List.mem_append_right _ (mem_pinsAt hb e)))
          ⟨z.1, z.2.1⟩
        refine ⟨m', hm, i + 1, H', (I'.unpinned (pins := [])).weak hl hk, T.keep _ _ _ st7 fun b hb o e => (pin' b hb o e).1, fun b hb => ?_, w'⟩
        obtain ⟨o, e, _⟩ := T.obj _ _ st7 b hb
        exact (pin' b hb o e).2
      have hl8 : (wipe σ (own.map (·.2))).length = σ8.length := by rw [← hw8, wipe_length]
      have hk8 : ∀ (j : Nat) v, (wipe σ (own.map (·.2)))[j]? = some (some v) → σ8[j]? = some (some v) := fun j v e => by
        rw [← hw8] at e
        exact (wipe_some e).1
      have hk9 : ∀ (j : Nat) v, (wipe σ (own.map (·.2)))[j]? = some (some v) → (wipe σ8 vs1)[j]? = some (some v) := fun j v e => by
        rw [← hw8] at e
        obtain ⟨e1, e2⟩ := wipe_some e
        rw [wipe_out fun z => e2 (hv j z)]
        exact e1
      cases b with
      | false =>
        simp only [Bool.false_eq_true, if_false] at q9 ⊢
        exact fin I9 hl8 hk8 q9
      | true =>
        simp only [if_true] at q9 ⊢
        refine thnF (pi1.run _ s9 σ8 H9 _ I9 q9) fun xv s10 hx => thnF hx fun itv s11 h11 => ?_
        obtain ⟨it1, fp1, tn1, J1, H11, e1, I11, T1, st11, f11, W1, ⟨m1, w1⟩, turn1⟩ := h11
        subst e1
        -- the inner loop
        have stat1 : ∀ {H' : Hp}, (∀ b ∈ fp1, H' b = none) → ∀ b ∈ fp1, FpOk (X.blk s3 H3 scope ce fp) ([] ++ pinsAt fp s7.heap) H' b := fun hn b hb => ⟨hn b hb, (f11 b hb).2⟩
        have loop1 : codeAny (model X.prog X.w) X.A (.compLoop (.DictComp kx vx [⟨tg, iter, ifs, 0⟩, ⟨tg1, iter1, ifs1, 0⟩] scope pos) 1 (.ref it1) (.ref D) ce)
            (fun r s' => match r with
              | .ok _ => ∃ m, m < n ∧ ∃ i H', L2.Inv (X.blk s3 H3 scope ce fp) [] (wipe σ (own.map (·.2))) H' s' ∧ tn i s'.heap ∧ (∀ b ∈ fp, H' b = none) ∧ W i m H'
              | .error _ => False) s11 := by
          refine dcLoop2_in (fun k s' => ∃ j H', L2.Inv (X.blk s3 H3 scope ce fp) ([] ++ pinsAt fp s7.heap) (wipe σ8 vs1) H' s' ∧ tn1 j s'.heap ∧ (∀ b ∈ fp1, H' b = none) ∧ W1 j k H') ?_ m1 ⟨0, H11, I11.weak (wipe_length _ _) (fun j v e => (wipe_some e).1), st11, fun b hb => (f11 b hb).1, w1⟩
          rintro k s12 ⟨j, H12, I12, st12, n12, w12⟩
          rcases turn1 j k H12 w12 with ⟨stop1, nx1⟩ | ⟨go1, Nx1, hNx1, step1⟩
          · refine thnF (T1.done (X.blk s3 H3 scope ce fp) rfl rfl rfl hc j _ s12 (wipe σ8 vs1) H12 (fun _ _ => False) I12 (stat1 n12) st12 stop1) fun r s13 ⟨hr, I13⟩ => ?_
            subst hr
            exact fin I13 (hl8.trans (wipe_length σ8 vs1).symm) hk9 nx1
          · refine thnF (T1.item (X.blk s3 H3 scope ce fp) rfl rfl rfl hc j _ s12 (wipe σ8 vs1) H12 (fun _ _ => False) I12 (stat1 n12) st12 go1) fun r s13 ⟨u1, hr, h13⟩ => ?_
            subst hr
            refine thnF h13 fun _ s14 ⟨x1, H14, I14, r14, y14, st14, n14⟩ => ?_
            have I14' := I14.pinned (stat1 n14) (T1.obj _ _ st14)
            refine thnF (pg1.run _ s14 (wipe σ8 vs1) H14 x1 u1 _ I14' r14 (step1 x1 H14 y14)) fun _ s15 ⟨σ15, H15, I15, hw15, q15⟩ => ?_
            refine thnF (pt1.run _ s15 σ15 H15 _ I15 q15) fun b1 s16 ⟨H16, I16, q16⟩ => ?_
            have fin1 : ∀ {s' : Shared} {H' : Hp}, L2.Inv (X.blk s3 H3 scope ce fp) (([] ++ pinsAt fp s7.heap) ++ pinsAt fp1 s14.heap) σ15 H' s' → Nx1 H' → ∃ m, m < k ∧ ∃ j H', L2.Inv (X.blk s3 H3 scope ce fp) ([] ++ pinsAt fp s7.heap) (wipe σ8 vs1) H' s' ∧ tn1 j s'.heap ∧ (∀ b ∈ fp1, H' b = none) ∧ W1 j m H' := fun {s' H'} I' nx => by
              obtain ⟨m', hm, w'⟩ := hNx1 H' nx
              have pin' : ∀ b ∈ fp1, ∀ o, s14.heap.get? b = some o → s'.heap.get? b = some o ∧ H' b = none := fun b hb o e =>
                let z := I'.pin (b, o) (List.mem_append_right _ (List.mem_append_right _ (mem_pinsAt hb e)))
                ⟨z.1, z.2.1⟩
              refine ⟨m', hm, j + 1, H', I'.unpinned.weak (by rw [← hw15, wipe_length]) (fun j v e => by rw [← hw15] at e; exact (wipe_some e).1), T1.keep _ _ _ st14 fun b hb o e => (pin' b hb o e).1, fun b hb => ?_, w'⟩
              obtain ⟨o, e, _⟩ := T1.obj _ _ st14 b hb
              exact (pin' b hb o e).2
            cases b1 with
            | false =>
              simp only [Bool.false_eq_true, if_false] at q16 ⊢
              exact fin1 I16 q16
            | true =>
              simp only [if_true] at q16 ⊢
              refine thnF (pk.run _ s16 σ15 H16 _ I16 q16) fun z s17 ⟨yk, H17, I17, r17, q17⟩ => ?_
              refine thnF (pe.run _ s17 σ15 H17 _ I17 q17) fun z2 s18 ⟨yv, H18, I18, r18, kvs, k, ek, hD18, hz18, nx⟩ => ?_
              subst ek
              exact d_dictSet (X := X.blk s3 H3 scope ce fp) I18 hD18 hz18 r17 r18 fun s19 I19 => fin1 I19 nx
        exact dcStart1_ok loop1 (T1.self X.A 0 _ _ _ st11 loop1)
  exact codeAny_compStart_dict loop (T.self X.A 0 _ _ _ st4 loop)
/-- as a value -/
theorem pe_dc2 {kx vx tg iter tg1 iter1 : Expr} {ifs ifs1 : List Expr} {scope : Scope} {own : List (Str × Nat)} {vs1 : List Nat} {pos : Pos} {wi wi1 : TI} {g g1 : TG} {tt tt1 : TT} {tk tv : TE} (hc : X.calm = true) (hN : X.N.Nodup) (hi : PI X tg iter wi) (ok : BlkOk X.N X.env.scope scope own) (hv : ∀ i ∈ vs1, i ∈ own.map (·.2))
    (hg : ∀ (s : Shared) (H : Hp) (C : Addr) (cl : List (Str × Addr)) (fp : List Addr), PG (X.blk s H scope (compEnvC scope cl C X.env) fp) tg g) (ht : ∀ (s : Shared) (H : Hp) (C : Addr) (cl : List (Str × Addr)) (fp : List Addr), PTs (X.blk s H scope (compEnvC scope cl C X.env) fp) ifs tt)
    (hi1 : ∀ (s : Shared) (H : Hp) (C : Addr) (cl : List (Str × Addr)) (fp : List Addr), PI (X.blk s H scope (compEnvC scope cl C X.env) fp) tg1 iter1 wi1)
    (hg1 : ∀ (s : Shared) (H : Hp) (C : Addr) (cl : List (Str × Addr)) (fp : List Addr), PG (X.blk s H scope (compEnvC scope cl C X.env) fp) tg1 g1) (ht1 : ∀ (s : Shared) (H : Hp) (C : Addr) (cl : List (Str × Addr)) (fp : List Addr), PTs (X.blk s H scope (compEnvC scope cl C X.env) fp) ifs1 tt1)
    (hk : ∀ (s : Shared) (H : Hp) (C : Addr) (cl : List (Str × Addr)) (fp : List Addr), PE (X.blk s H scope (compEnvC scope cl C X.env) fp) kx tk)
    (he : ∀ (s : Shared) (H : Hp) (C : Addr) (cl : List (Str × Addr)) (fp : List Addr), PE (X.blk s H scope (compEnvC scope cl C X.env) fp) vx tv) (hs : ∀ x, foldedSetIterable iter X.env x = pure x := by intro _; rfl) (hs1 : ∀ env x, foldedSetIterable iter1 env x = pure x := by intro _ _; rfl) :
    PE X (.DictComp kx vx [⟨tg, iter, ifs, 0⟩, ⟨tg1, iter1, ifs1, 0⟩] scope pos) (tDc2 wi g tt wi1 g1 tt1 tk tv (own.map (·.2)) vs1) := by
  refine ⟨fun pins s σ H Q I h => ?_⟩
  rw [arm_eval_DictComp]
  refine dc2_core hc hN I hi ok hv hg ht hk he hs hi1 hg1 ht1 hs1 h fun D C s' m H' I' q hn f => ⟨m, hn, fun h'' sb => ?_⟩
  obtain ⟨f0, f1, f2, f3, f4, f5⟩ := f
  exact ⟨.ref D, H', I'.turned (t' := s'.toks) (fun b o hb e => (sb.2 b hb).trans e) f0 f1 f3 f4 f5, rfl, q⟩
theorem ps_setDc {i : Nat} {y : Str} {py : Pos} {kx vx tg iter : Expr} {ifs : List Expr} {scope : Scope} {own : List (Str × Nat)} {pos spos : Pos} {wi : TI} {g : TG} {tt : TT} {tk tv : TE} (hc : X.calm = true) (hN : X.N.Nodup) (hy : X.N[i]? = some y) (hyl : X.env.scope.names.lookup y = some .local)
    (hsw : swapsWith (.DictComp kx vx [⟨tg, iter, ifs, 0⟩] scope pos) (some (.Name y py)) spos.line X.env = pure true) (hi : PI X tg iter wi) (ok : BlkOk X.N X.env.scope scope own)
    (hg : ∀ (s : Shared) (H : Hp) (C : Addr) (cl : List (Str × Addr)) (fp : List Addr), PG (X.blk s H scope (compEnvC scope cl C X.env) fp) tg g) (ht : ∀ (s : Shared) (H : Hp) (C : Addr) (cl : List (Str × Addr)) (fp : List Addr), PTs (X.blk s H scope (compEnvC scope cl C X.env) fp) ifs tt)
    (hk : ∀ (s : Shared) (H : Hp) (C : Addr) (cl : List (Str × Addr)) (fp : List Addr), PE (X.blk s H scope (compEnvC scope cl C X.env) fp) kx tk)
    (he : ∀ (s : Shared) (H : Hp) (C : Addr) (cl : List (Str × Addr)) (fp : List Addr), PE (X.blk s H scope (compEnvC scope cl C X.env) fp) vx tv) (hs : ∀ x, foldedSetIterable iter X.env x = pure x := by intro _; rfl) :
    PS X (.Assign [.Name y py] (.DictComp kx vx [⟨tg, iter, ifs, 0⟩] scope pos) spos) (tAsg (tDc wi g tt tk tv (own.map (·.2))) (gName i)) := by
  refine ⟨fun pins s σ H D I h => ?_⟩
  rw [exec_Assign_Name_used _ _ _ _ hsw]
  refine wpAny_bind (wpAny_standAt (wpAny_bind ?_))
  show wpAny _ X.A (do let _ ← comprehension (.DictComp kx vx [⟨tg, iter, ifs, 0⟩] scope pos) scope X.env (firstIterPos [⟨tg, iter, ifs, 0⟩] pos) newDict false (eval iter X.env) (some (assign (.Name y py) X.env))) _ _ s
  have h : tDc wi g tt tk tv (own.map (·.2)) σ H (fun x H1 => gName i x σ H1 D.nx) := h
  refine wpAny_bind (thn (dc_core (Qf := fun _ s' => SP X pins D .next s') hc hN I hi ok hg ht hk he hs h fun L C s' m H' I' q hn f => ?_) fun _ s' hq => wpAny_pure (wpAny_pure hq))
  show wpAny _ _ (assign (.Name y py) X.env (.ref L)) _ _ _
  refine wpAny_assign_Name (store_ok2 (v := V.ref L) I' hN hy (.inl hyl) rfl (fun s2 I2 ⟨a, sb, ha⟩ => ?_) (.inr hyl))
  obtain ⟨f0, f1, f2, f3, f4, f5⟩ := f
  have haC : C ≠ a := by
    rcases ha with z | z
    · rw [z]; exact f1
    · exact fun e => f4 y a z e.symm
  refine ⟨m, hn.sameBut sb haC, fun h3 sb3 => ?_⟩
  exact ⟨_, H', I2.turned (t' := s2.toks) (fun b o hb e => (sb3.2 b hb).trans e) f0 f1 f3 f4 f5, q⟩
theorem sw_trueD {kx vx : Expr} {gs : List Comprehension} {scope : Scope} {pos py : Pos} {y : Str} {l : Nat} {env : Env} (hk : env.scope.kind = .function) (hy : env.scope.names.lookup y = some .local) (hl : (py.line == pos.line) = true)
    (ha : (scope.names.any fun (n, k) => n == y && (k == .local || k == .cell)) = false) : swapsWith (.DictComp kx vx gs scope pos) (some (.Name y py)) l env = pure true := by
  have ky : env.kindOf y = some .local := hy
  have hb : env.blockKind = .function := by unfold Env.blockKind; rw [hk]; rfl
  unfold swapsWith
  simp only [hb, ky, ha, Expr.pos, hl]
  rfl
end
end NW
set_option Elab.async false
set_option linter.all false
set_option maxRecDepth 100000
set_option maxHeartbeats 4000000
/-! By data: dict comprehensions of two clauses; d = {.. for .. in d.items()}; stores into local dicts. -/
namespace NW
open PySem PySem.Spec PyProof.Rows L2 DL

theorem foldl_len {κ α : Type} [DecidableEq κ] (kf : α → κ) (v : α → PyData) (l : List α) : ∀ a : List (κ × PyData), (l.foldl (fun acc d => putD acc (kf d) (v d)) a).length ≤ a.length + l.length := by
  induction l with
  | nil => intro a; exact Nat.le_refl _
  | cons x r ih =>
    intro a
    rw [List.foldl_cons, List.length_cons]
    have := ih (putD a (kf x) (v x))
    have := putD_len a (kf x) (v x)
    omega
/-- a new dict at DD beside all else -/
structure CQ (hid : Hid) (H1 : Hp) (DD : Addr) (acc : List (Key × PyData)) (ws : List (Key × V)) (H' : Hp) : Prop where
  oc : Occ (fun a => hid a ∨ a = DD) H'
  ex : Ex H1 H'
  dd : H' DD = some (.dK ws)
  ks : ws.map (·.1) = acc.map (·.1)
  acc : AtL (fun a => hid a ∨ a = DD) H' (acc.map (·.2)) (ws.map (·.2))
  nD : H1 DD = none
theorem CQ.start {hid : Hid} {H1 : Hp} {DD : Addr} (o : Occ hid H1) (hD : H1 DD = none) : CQ hid H1 DD [] [] (upd H1 DD (.dK [])) where
  oc := fun a h => by
    rcases h with h | h
    · exact o.ex (ex_new hD) a h
    · rw [h, upd_same]
      exact fun q => nomatch q
  ex := ex_new hD
  dd := upd_same
  ks := rfl
  acc := .nil
  nD := hD
theorem CQ.step {hid : Hid} {H1 : Hp} {DD : Addr} {acc : List (Key × PyData)} {ws : List (Key × V)} {H' H2 : Hp} (c : CQ hid H1 DD acc ws H') (e : Ex H' H2) : CQ hid H1 DD acc ws H2 := ⟨c.oc.ex e, c.ex.trans e, e _ _ c.dd, c.ks, c.acc.ex e, c.nD⟩
theorem CQ.le {hid : Hid} {H1 : Hp} {DD : Addr} {acc : List (Key × PyData)} {ws : List (Key × V)} {H' : Hp} (c : CQ hid H1 DD acc ws H') : Le hid H1 (fun a => hid a ∨ a = DD) H' := fun a o n h =>
  ⟨fun q => q.elim n fun q => (by rw [q, c.nD] at h; cases h), c.ex a o h⟩
theorem CQ.grow {hid : Hid} {H1 : Hp} {DD : Addr} {acc : List (Key × PyData)} {ws : List (Key × V)} {H' : Hp} {k : Key} {z : PyData} {v : V} (c : CQ hid H1 DD acc ws H') (a : At (fun a => hid a ∨ a = DD) H' z v) : CQ hid H1 DD (putD acc k z) (putK ws k v) (upd H' DD (.dK (putK ws k v))) := by
  have lu : Le (fun a => hid a ∨ a = DD) H' (fun a => hid a ∨ a = DD) (upd H' DD (.dK (putK ws k v))) := fun x o n hx => ⟨n, by
    rw [upd_ne fun q => n (.inr q)]
    exact hx⟩
  obtain ⟨p1, p2⟩ := put_at (k := k) c.ks c.acc a
  refine ⟨fun x hx q => ?_, fun x o hx => ?_, upd_same, p1, p2.le lu, c.nD⟩
  · by_cases e : x = DD
    · rw [e, upd_same] at q
      cases q
    · rw [upd_ne e] at q
      exact c.oc x hx q
  · rw [upd_ne (ne_of_none hx c.nD)]
    exact c.ex x o hx
theorem CQ.fin {hid : Hid} {H1 : Hp} {DD : Addr} {acc : List (Key × PyData)} {ws : List (Key × V)} {H' : Hp} (c : CQ hid H1 DD acc ws H') (o : Occ hid H1) : ValAt hid H' (.dk acc) (.ref DD) :=
  ⟨DD, ws, rfl, fun q => o DD q c.nD, c.dd, c.ks, c.acc.le (.less fun _ h => .inl h)⟩
section
variable {ρ : DL.Env}
/-- {k: v for a in .. for b in ..} -/
theorem ev_dc2 {w w1 : TI} {g g1 : TG} {sl sl1 vs vs1 : List Nat} {tk tv : TE} {α γ : Type} {xs : List α} {φ : α → PyData} (ys : α → List γ) (ψ : α → γ → PyData) (kf : α → γ → Key) (v : α → γ → PyData) (hi : EvI w ρ (xs.map φ)) (hsl : ∀ i ∈ sl, i ∈ vs) (hsl1 : ∀ i ∈ sl1, i ∈ vs1)
    (hz : (xs.flatMap fun d => (ys d).map fun e => (kf d e, v d e)).length ≤ 100000)
    (hs : ∀ d, d ∈ xs → ∃ ρ1, EvG g sl (φ d) (wipeD ρ vs) ρ1 ∧ EvI w1 ρ1 ((ys d).map (ψ d)) ∧ ∀ e, e ∈ ys d → ∃ ρ2, EvG g1 sl1 (ψ d e) (wipeD ρ1 vs1) ρ2 ∧ Ev tk ρ2 (.p (keyD (kf d e))) ∧ Ev tv ρ2 (.p (v d e))) :
    Ev (tDc2 w g tYes w1 g1 tYes tk tv vs vs1) ρ (.dk ((xs.flatMap fun d => (ys d).map fun e => (kf d e, v d e)).foldl (fun acc p => putD acc p.1 p.2) [])) := fun hid H σ o E Q q =>
  hi hid H σ o E _ fun J H1 e1 wk DD hD => by
    have o1 := o.ex e1
    generalize hall : (fun d => (ys d).map fun e => (kf d e, v d e)) = F at *
    have hF : ∀ d, F d = (ys d).map fun e => (kf d e, v d e) := fun d => by rw [← hall]
    let mk := fun (l : List (Key × PyData)) => l.foldl (fun acc p => putD acc p.1 p.2) ([] : List (Key × PyData))
    have mkl : ∀ l, (mk l).length ≤ l.length := fun l => by
      have := foldl_len (fun p : Key × PyData => p.1) (fun p => p.2) l []
      rw [List.length_nil, Nat.zero_add] at this
      exact this
    have mks : ∀ l p, mk (l ++ [p]) = putD (mk l) p.1 p.2 := fun l p => by
      show (l ++ [p]).foldl _ _ = _
      rw [List.foldl_append]
      rfl
    have allz : ∀ i, ((xs.take i).flatMap F).length ≤ 100000 := fun i => by
      refine Nat.le_trans ?_ hz
      conv => rhs; rw [← List.take_append_drop i xs, List.flatMap_append, List.length_append]
      exact Nat.le_add_right _ _
    refine ⟨fun i m H' => m = xs.length - i ∧ i ≤ xs.length ∧ ∃ ws, CQ hid H1 DD (mk ((xs.take i).flatMap F)) ws H', ⟨_, rfl, Nat.zero_le _, [], CQ.start o1 hD⟩, ?_⟩
    rintro i m H' ⟨rfl, hle, ws, c⟩
    obtain ⟨go, stop, yld⟩ := wk _ H' c.le c.oc
    rw [List.length_map] at go stop yld
    by_cases hlt : i < xs.length
    · refine .inr ⟨go i hlt, fun H2 => ∃ ws, CQ hid H1 DD (mk ((xs.take (i + 1)).flatMap F)) ws H2, fun H2 h2 => ⟨xs.length - (i + 1), by omega, rfl, hlt, h2⟩, fun x H2 y => ?_⟩
      obtain ⟨d0, ed0, e2, ad⟩ := yld i x H2 hlt y
      obtain ⟨d, ed, rfl⟩ := map_get ed0
      obtain ⟨ρ1, hg, hi1, hs1⟩ := hs d (List.mem_of_getElem? ed)
      have tk' : xs.take (i + 1) = xs.take i ++ [d] := by
        rw [List.take_add_one, ed]
        rfl
      have tkf : (xs.take (i + 1)).flatMap F = (xs.take i).flatMap F ++ F d := by
        rw [tk', List.flatMap_append]
        simp
      have c2 := c.step e2
      refine hg _ H2 _ x (((E.ex e1).wipe vs).le c2.le) ad _ fun σ2 E2 wp => ⟨(wp vs hsl).trans (wipe_wipe fun _ h => h), ?_⟩
      refine et_yes _ H2 σ2 c2.oc E2 _ fun H3 e3 => ?_
      have c3 := c2.step e3
      refine iteT (hi1 _ H3 σ2 c3.oc (E2.ex e3) _ fun J1 H4 e4' wk1 => ?_)
      have c4 := c3.step e4'
      have e4 : Ex H2 H4 := e3.trans e4'
      refine ⟨fun j k H => k = (ys d).length - j ∧ j ≤ (ys d).length ∧ ExB DD H4 H ∧ ∃ ws, CQ hid H1 DD (mk ((xs.take i).flatMap F ++ ((ys d).take j).map fun e => (kf d e, v d e))) ws H,
        ⟨_, rfl, Nat.zero_le _, fun a u _ h => h, ws, by simpa using c4⟩, ?_⟩
      rintro j k H5 ⟨rfl, hjl, ex5, ws5, c5⟩
      have le5 : Le (fun a => hid a ∨ a = DD) H4 (fun a => hid a ∨ a = DD) H5 := fun a u n h => ⟨n, ex5 a u (fun q => n (.inr q)) h⟩
      obtain ⟨go1, stop1, yld1⟩ := wk1 _ H5 le5 c5.oc
      rw [List.length_map] at go1 stop1 yld1
      by_cases hlt1 : j < (ys d).length
      · refine .inr ⟨go1 j hlt1, fun H6 => ExB DD H4 H6 ∧ ∃ ws, CQ hid H1 DD (mk ((xs.take i).flatMap F ++ ((ys d).take (j + 1)).map fun e => (kf d e, v d e))) ws H6,
          fun H6 h6 => ⟨(ys d).length - (j + 1), by omega, rfl, hlt1, h6⟩, fun x1 H6 y1 => ?_⟩
        obtain ⟨d10, ed10, e6, ad1⟩ := yld1 j x1 H6 hlt1 y1
        obtain ⟨d1, ed1, rfl⟩ := map_get ed10
        obtain ⟨ρ2, hg1, hk1, hv1⟩ := hs1 d1 (List.mem_of_getElem? ed1)
        have tk1 : (ys d).take (j + 1) = (ys d).take j ++ [d1] := by
          rw [List.take_add_one, ed1]
          rfl
        have c6 := c5.step e6
        have exs : ∀ {Ha Hb : Hp}, ExB DD H4 Ha → Ex Ha Hb → ExB DD H4 Hb := fun {Ha Hb} h1 h2 a u n h => h2 a u (h1 a u n h)
        refine hg1 _ H6 _ x1 (((E2.ex e4).wipe vs1).le (le5.trans (.of_ex e6))) ad1 _ fun σ3 E3 wp1 => ⟨(wp1 vs1 hsl1).trans (wipe_wipe fun _ h => h), ?_⟩
        refine et_yes _ H6 σ3 c6.oc E3 _ fun H7 e7 => ?_
        have c7 := c6.step e7
        refine iteT (hk1 _ H7 σ3 c7.oc (E3.ex e7) _ fun yk H8 e8 a8 => hv1 _ H8 σ3 (c7.oc.ex e8) ((E3.ex e7).ex e8) _ fun vv H9 e9 a9 => ?_)
        have c9 := (c7.step e8).step e9
        have a8' := keyD_at a8
        subst a8'
        have hwl : ws5.length = (mk ((xs.take i).flatMap F ++ ((ys d).take j).map fun e => (kf d e, v d e))).length := len_keys c9.ks
        refine ⟨ws5, kf d d1, rfl, c9.dd, ?_, fun a u n ha => ?_, putK ws5 (kf d d1) vv, ?_⟩
        · have h1 := allz (i + 1)
          rw [tkf, List.length_append] at h1
          have h2 : (((ys d).take j).map fun e => (kf d e, v d e)).length ≤ (F d).length := by
            rw [hF, List.length_map, List.length_map]
            exact (List.take_sublist j (ys d)).length_le
          have h3 := mkl ((xs.take i).flatMap F ++ ((ys d).take j).map fun e => (kf d e, v d e))
          rw [List.length_append] at h3
          exact Nat.lt_of_lt_of_le (by omega : _ < 100001) (by decide)
        · rw [upd_ne n]
          exact exs ex5 (e6.trans (e7.trans (e8.trans e9))) a u n ha
        · rw [tk1, List.map_append, ← List.append_assoc]
          show CQ hid H1 DD (mk (_ ++ [(kf d d1, v d d1)])) _ _
          rw [mks]
          exact c9.grow a9
      · have hj : j = (ys d).length := by omega
        subst hj
        refine .inl ⟨stop1 _ (Nat.le_refl _), ws5, ?_⟩
        rw [List.take_length] at c5
        rw [tkf, hF]
        exact c5
    · have hi : i = xs.length := by omega
      subst hi
      rw [List.take_length] at c
      exact .inl ⟨stop _ (Nat.le_refl _), q _ H' (e1.trans c.ex) (c.fin o1)⟩
end

/-! ### flat data stands anywhere -/
theorem flat_any {hid hid' : Hid} {H H' : Hp} {d : PyData} {v : V} (f : flatD d = true) (h : At hid H d v) : At hid' H' d v := by
  cases h with
  | non => exact .non
  | bool b => exact .bool b
  | int i => exact .int i
  | str x => exact .str x
  | list _ _ _ => cases f
  | tuple _ _ _ => cases f
  | dict0 _ _ => cases f
theorem flat_anyL {hid hid' : Hid} {H H' : Hp} : ∀ {ds : List PyData} {vs : List V}, (∀ d ∈ ds, flatD d = true) → AtL hid H ds vs → AtL hid' H' ds vs
  | [], _, _, h => by cases h; exact .nil
  | d :: ds, _, f, h => by
    cases h with
    | cons a r => exact .cons (flat_any (f d List.mem_cons_self) a) (flat_anyL (fun x hx => f x (List.mem_cons_of_mem _ hx)) r)
/-- slots that hold flat data only -/
def FlatE (ρ : DL.Env) : Prop := ∀ (i : Nat) (d : D), ρ[i]? = some (some d) → ∃ p, d = .p p ∧ flatD p = true
theorem EnvAt.flat {hid hid' : Hid} {H H' : Hp} {σ : L2.St} {ρ : DL.Env} (f : FlatE ρ) (E : EnvAt hid H σ ρ) : EnvAt hid' H' σ ρ := ⟨E.len, fun i d e => by
  obtain ⟨p, rfl, hf⟩ := f i d e
  obtain ⟨v, e1, a⟩ := E.at_ i _ e
  exact ⟨v, e1, flat_any hf a⟩⟩
section
variable {β : Type} {M : Mo β} {b : β} {ρ ρ0 : DL.Env} {P : Po β}
/-- d = {k: v for .. in d.items()}: flat values, names that hold flat data -/
theorem sm_relabel {ig : Nat} {g : TG} {sl vs : List Nat} {tk tv : TE} {kvs : List (Key × PyData)} {acc : List (Key × PyData)} (hg : ρ[ig]? = some (some (.dk kvs))) (flat : ∀ kv ∈ kvs, flatD kv.2 = true) (hsub : Sub ρ0 ρ) (hfl : FlatE ρ0)
    (kf : Key × PyData → Key) (v : Key × PyData → PyData) (hsl : ∀ i ∈ sl, i ∈ vs) (hz : kvs.length ≤ 100000)
    (hs : ∀ kv, kv ∈ kvs → ∃ ρ'', EvG g sl (.tuple [keyD kv.1, kv.2]) (wipeD ρ0 vs) ρ'' ∧ Ev tk ρ'' (.p (keyD (kf kv))) ∧ Ev tv ρ'' (.p (v kv)))
    (hacc : kvs.foldl (fun acc kv => putD acc (kf kv) (v kv)) [] = acc)
    (k : P.nx b (ρ.set ig (some (.dk acc)))) :
    Sm M (tLock (tAsg (tDc (iItems (tVar ig)) g tYes tk tv vs) (gName ig))) b ρ P := fun hid fr H σ E w e qn _ _ _ => by
  obtain ⟨vd, ev, hv⟩ := e.at_ ig _ hg
  obtain ⟨d, ws, rfl, nd, hd, hks, hvs⟩ := hv
  have wl : ws.length = kvs.length := len_keys hks
  refine ⟨d, .dK ws, hd, trivial, fun od => ?_⟩
  refine ⟨_, ev, d, od, ws, rfl, upd_same, fun DD hD => ?_⟩
  -- the locked heap
  generalize hH1 : upd H d (.frz od (.dK ws)) = H1 at *
  have h1d : H1 d = some (.frz od (.dK ws)) := by rw [← hH1, upd_same]
  have h1n : ∀ a, a ≠ d → H1 a = H a := fun a n => by rw [← hH1, upd_ne n]
  let hid2 : Hid := fun a => un hid fr a ∨ a = d
  have o1 : Occ hid2 H1 := fun a h q => by
    by_cases n : a = d
    · rw [n, h1d] at q; cases q
    · rw [h1n a n] at q
      exact w.occ a (h.resolve_right n) q
  have hDd : DD ≠ d := fun q => by rw [q, h1d] at hD; cases hD
  let ac := fun i => (kvs.take i).foldl (fun acc kv => putD acc (kf kv) (v kv)) ([] : List (Key × PyData))
  have acl : ∀ i, (ac i).length ≤ i := fun i => by
    have := foldl_len kf v (kvs.take i) []
    rw [List.length_nil, List.length_take] at this
    show ((kvs.take i).foldl (fun acc kv => putD acc (kf kv) (v kv)) ([] : List (Key × PyData))).length ≤ i
    omega
  refine ⟨fun i m H' => m = kvs.length - i ∧ i ≤ kvs.length ∧ ∃ us, CQ hid2 H1 DD (ac i) us H', ⟨_, rfl, Nat.zero_le _, [], CQ.start o1 hD⟩, ?_⟩
  rintro i m H' ⟨rfl, hle, us, c⟩
  have hfz : H' d = some (.frz od (.dK ws)) := c.ex _ _ h1d
  by_cases hlt : i < kvs.length
  · refine .inr ⟨⟨hfz, by rw [wl]; exact hlt⟩, fun H2 => ∃ us, CQ hid2 H1 DD (ac (i + 1)) us H2, fun H2 h2 => ⟨kvs.length - (i + 1), by omega, rfl, hlt, h2⟩, fun x H2 y => ?_⟩
    obtain ⟨T, kk, vv, ewi, rfl, nT, rfl⟩ := y
    have ekv : kvs[i]? = some (kvs[i]'hlt) := List.getElem?_eq_getElem hlt
    have hk1 : kk = (kvs[i]'hlt).1 := by
      have h1 : (ws.map (·.1))[i]? = some kk := by rw [List.getElem?_map, ewi]; rfl
      have h2 : (kvs.map (·.1))[i]? = some (kvs[i]'hlt).1 := by rw [List.getElem?_map, ekv]; rfl
      rw [hks, h2] at h1
      exact (Option.some.inj h1).symm
    have hmem : (kvs[i]'hlt) ∈ kvs := List.getElem_mem hlt
    generalize hkv : kvs[i]'hlt = kv at *
    have av : At (un hid fr) H kv.2 vv := by
      have h2 : (kvs.map (·.2))[i]? = some kv.2 := by rw [List.getElem?_map, ekv]; rfl
      obtain ⟨v2, e2, a2⟩ := hvs.get h2
      rw [List.getElem?_map, ewi] at e2
      cases e2
      exact a2
    have ex2 := ex_new nT (o := .tup [kV kk, vv])
    have c2 := c.step ex2
    have ad : At (fun a => hid2 a ∨ a = DD) (upd H' T (.tup [kV kk, vv])) (.tuple [keyD kv.1, kv.2]) (.ref T) := by
      refine .tuple (c.oc.new nT) upd_same (.cons ?_ (.cons (flat_any (flat kv hmem) av) .nil))
      rw [hk1]
      cases kv.1 with
      | inl i => exact .int i
      | inr x => exact .str x
    obtain ⟨ρ'', hgg, hkk, hvv⟩ := hs kv hmem
    have tk' : ac (i + 1) = putD (ac i) (kf kv) (v kv) := by
      show (kvs.take (i + 1)).foldl _ _ = _
      rw [List.take_add_one, ekv, List.foldl_append]
      rfl
    have E0 : EnvAt (fun a => hid2 a ∨ a = DD) (upd H' T (.tup [kV kk, vv])) (L2.wipe σ vs) (wipeD ρ0 vs) := (EnvAt.flat hfl (e.sub hsub)).wipe vs
    refine hgg _ _ _ (.ref T) E0 ad _ fun σ2 E2 wp => ⟨(wp vs hsl).trans (wipe_wipe fun _ h => h), ?_⟩
    refine et_yes _ _ σ2 c2.oc E2 _ fun H3 e3 => ?_
    have c3 := c2.step e3
    refine iteT (hkk _ H3 σ2 c3.oc (E2.ex e3) _ fun yk H4 e4 a4 => hvv _ H4 σ2 (c3.oc.ex e4) ((E2.ex e3).ex e4) _ fun z H5 e5 a5 => ?_)
    have c5 := (c3.step e4).step e5
    have a4' := keyD_at a4
    subst a4'
    have hul : us.length = (ac i).length := len_keys c.ks
    refine ⟨us, kf kv, rfl, c5.dd, by rw [hul]; have := acl i; exact Nat.lt_of_lt_of_le (by omega : _ < 100001) (by decide), putK us (kf kv) z, ?_⟩
    rw [tk']
    exact c5.grow a5
  · have hi : i = kvs.length := by omega
    subst hi
    have ea : ac kvs.length = acc := by
      rw [← hacc]
      show (kvs.take kvs.length).foldl _ _ = _
      rw [List.take_length]
    rw [ea] at c
    refine .inl ⟨⟨hfz, by rw [wl]; exact Nat.le_refl _⟩, hfz, ?_⟩
    have ex : Ex H (upd H' d (.dK ws)) := fun a u ha => by
      by_cases n : a = d
      · rw [n, upd_same]
        rw [n, hd] at ha
        exact ha
      · rw [upd_ne n]
        exact c.ex a u (by rw [h1n a n]; exact ha)
    have lef : Le (fun a => hid2 a ∨ a = DD) H' (un hid fr) (upd H' d (.dK ws)) := fun a u n ha => ⟨fun q => n (.inl (.inl q)), by
      rw [upd_ne fun q => n (.inl (.inr q))]
      exact ha⟩
    have nDD : ¬ un hid fr DD := fun q => by
      refine w.occ DD q ?_
      rw [← h1n DD hDd]
      exact hD
    refine qn _ hid _ b _ (w.ex ex) (w.stp ex) ((e.ex ex).set ig (d := .dk acc) (v := .ref DD) ⟨DD, us, rfl, nDD, by rw [upd_ne hDd]; exact c.dd, c.ks, c.acc.le lef⟩) k
end
end NW
set_option Elab.async false
set_option linter.all false
set_option maxRecDepth 100000
set_option maxHeartbeats 4000000
namespace SL
open PySem PySem.Spec PyProof.Rows L2 DL FM NW

section
variable {β : Type} {M : Mo β} {b : β} {ρ ρ' : DL.Env} {P : Po β}
/-- target = e, a target of names -/
theorem sm_asgG {te : TE} {g : TG} {sl : List Nat} {d : PyData} (h : Ev te ρ (.p d)) (hg : EvG g sl d ρ ρ') (k : P.nx b ρ') : Sm M (tAsg te g) b ρ P := fun hid fr H σ E w e qn _ _ _ =>
  h (un hid fr) H σ w.occ e _ fun v H1 e1 a => hg (un hid fr) H1 σ v (e.ex e1) a _ fun σ' E' _ => qn σ' hid H1 b ρ' (w.ex e1) (w.stp e1) E' k
theorem sq_asgG {te : TE} {g : TG} {sl : List Nat} {d : PyData} {u : TS} (h : Ev te ρ (.p d)) (hg : EvG g sl d ρ ρ') (k : Sm M u b ρ' P) : Sm M (tSeq (tAsg te g) u) b ρ P :=
  sm_seq (Mid := fun b' ρ' => Sm M u b' ρ' P) (sm_asgG h hg k) fun _ _ h => h
end
theorem ea_starT1 {K : PySem.W.Frag} {ρ : DL.Env} {ta : TE} {xs : List PyData} (h : Ev ta ρ (.p (.tuple xs))) : EvA (StX.tStar K ta tNil) ρ (xs.map .p) := by
  have := ea_starT (K := K) h (ea_nil (ρ := ρ))
  rwa [List.append_nil] at this
theorem take_get {α : Type} {l : List α} {i : Nat} {x : α} (h : l[i]? = some x) : l.take (i + 1) = l.take i ++ [x] := by
  rw [List.take_add_one, h]
  rfl
def lotsRev : List Str → List (List Str) := fun l => l.foldl (fun acc t => [] :: acc.map (t :: ·) ++ acc.tail) [[]]
theorem lotsRev_eq : ∀ l : List Str, l.reverse.foldl (fun acc t => [] :: acc.map (t :: ·) ++ acc.tail) [[]] = lots l
  | [] => rfl
  | t :: r => by
    rw [List.reverse_cons, List.foldl_append, lotsRev_eq r]
    rfl

section
variable {P : Program} {w : World} {K : PySem.W.Frag} {mg : Str → Option Value} {base : Heap}
abbrev N_all_lots : List Str := ["things", "found", "thing", "lot"]
theorem sc_all_lots : FnScope N_all_lots ["things"] (defScope s_all_lots) := ⟨rfl, rfl, rfl, by decide +kernel, rfl, by decide +kernel, by decide +kernel⟩
theorem ok_all_lots (h : Has K mg "all_lots" s_all_lots) (T : Txt mg) : Cal P w K mg base "all_lots" 1 ["things"] (spD R_all_lots) := by
  refine cal_of h sc_all_lots (fun _ _ _ _ _ _ us hl => match us, hl with | [_], _ => rfl) (by rintro _ _ ⟨x, rfl, _⟩; rfl) (by decide) fun f cdv A outer s H E hr => ?_
  refine ⟨_, (pss_cons (ps_set (i := 1) sc_all_lots.nd rfl (by first | exact Or.inl rfl | exact Or.inr rfl) (pe_lst (pa_cons (pe_tup pa_nil) pa_nil)))
    (pss_cons (ps_for PassesOwn.never rfl (pi_tupK K (pe_revTK K (pv 0))) (pg_name (i := 2) sc_all_lots.nd rfl (by first | exact Or.inl rfl | exact Or.inr rfl)) (pss_one (ps_set (i := 1) sc_all_lots.nd rfl (by first | exact Or.inl rfl | exact Or.inr rfl) (pe_lst (pa_cons (pe_tup pa_nil) (pa_starK K (pe_lc (own := [("lot", 3)]) (g := (gName 3)) rfl sc_all_lots.nd (pi_listK K (pv 1)) (blkOk_by (own := [("lot", 3)]) (N := N_all_lots) (sc := defScope s_all_lots) (by decide +kernel)) (fun _ _ _ _ _ => (pg_name (i := 3) sc_all_lots.nd rfl (by first | exact Or.inl rfl | exact Or.inr rfl))) (fun _ _ _ _ _ => pts_nil) (fun _ _ _ _ _ => (pe_tup (pa_cons (pv 2) (pa_starK K (pv 3) pa_nil))))) (pa_starK K (pe_slice (sl_listK K) (pv 1) (po_some pe_int) po_none) pa_nil)))))))
    (pss_one (ps_ret (pe_callTy (call_tuple_ofK K) (by rfl) T.b_tuple (by decide +kernel) (pa_cons (pv 1) pa_nil)))))), ?_⟩
  rintro _ _ ⟨l, rfl, hl, rfl⟩
  have hlen : ∀ i, i ≤ l.length → (lots (l.drop (l.length - i))).length ≤ 32 := fun i hi => lots_le (by rw [List.length_drop]; omega)
  refine sq_set (d := .p (.list (lotsD [[]]))) (ev_lst (ds := lotsD [[]]) (ea_cons (ev_tup (ds := []) ea_nil (by simp)) ea_nil) (by simp [lotsD])) ?_
  refine sq_for (sl := [2]) (fun i _ ρ => ∃ x, ρ = [some (.p (lotD l)), some (.p (.list (lotsD (lots (l.drop (l.length - i)))))), x, none]) (ei_tup (ev_revT (ev_var rfl))) ⟨none, by rw [Nat.sub_zero, List.drop_length]; rfl⟩ ?_ ?_
  · rintro i d b' ρ' hd ⟨x, rfl⟩
    have hi : i < l.length := by
      have := (List.getElem?_eq_some_iff.mp hd).1
      rwa [List.length_reverse, List.length_map] at this
    have ht : ∃ t, d = .str t ∧ l.drop (l.length - (i + 1)) = t :: l.drop (l.length - i) := by
      rw [List.getElem?_reverse (by rw [List.length_map]; exact hi), List.length_map, List.getElem?_map] at hd
      have hj : l.length - 1 - i < l.length := by omega
      rw [List.getElem?_eq_getElem hj] at hd
      refine ⟨_, (Option.some.inj hd).symm, ?_⟩
      have e1 : l.length - (i + 1) = l.length - 1 - i := by omega
      have e2 : l.length - i = l.length - 1 - i + 1 := by omega
      rw [e1, e2, List.drop_eq_getElem_cons hj]
    obtain ⟨t, rfl, hdr⟩ := ht
    have h1 := hlen i (by omega)
    have h2 := hlen (i + 1) hi
    generalize hls : lots (l.drop (l.length - i)) = ls at *
    have hnew : lots (l.drop (l.length - (i + 1))) = [] :: (ls.map (t :: ·) ++ ls.tail) := by
      rw [hdr, ← hls]
      rfl
    rw [hnew] at h2 ⊢
    refine ⟨_, eg_name, ?_⟩
    refine sm_set (d := .p (.list (lotsD ([] :: (ls.map (t :: ·) ++ ls.tail))))) (ev_lst ?_ (by rw [lotsD, List.length_map]; omega)) ⟨_, rfl⟩
    have hsplit : (lotsD ([] :: (ls.map (t :: ·) ++ ls.tail))).map D.p = D.p (lotD []) :: ((lotsD (ls.map (t :: ·))).map D.p ++ (lotsD ls.tail).map D.p) := by
      unfold lotsD
      rw [List.map_cons, List.map_cons, List.map_append, List.map_append]
    rw [hsplit]
    refine ea_cons (ev_tup (ds := []) ea_nil (by simp)) (ea_starL ?_ (ea_starL1 ?_))
    · refine ev_is (ev_lcM (cs := ls) (φ := lotD) (fun a => lotD (t :: a)) (ei_list (ev_var rfl)) (sl := [3]) (by decide) (by omega) fun a ha => ⟨_, eg_name, ev_tup (ds := .str t :: a.map .str) (ea_cons (ev_var rfl) (ea_starT1 (ev_var rfl))) ?_⟩) (by
        unfold lotsD
        rw [List.map_map]
        rfl)
      rw [List.length_cons, List.length_map]
      have : a.Sublist (l.drop (l.length - i)) := by
        rw [← hls] at ha
        exact mem_lots.mp ha
      have := this.length_le
      rw [List.length_drop] at this
      omega
    · refine ev_is (ev_sl (ev_var rfl) (eo_some ev_int) eo_none rs_list) ?_
      rw [show (1 : Int) = ((1 : Nat) : Int) from rfl, cut_from, List.drop_one]
      unfold lotsD
      rw [List.map_tail]
  · rintro b' ρ' ⟨x, rfl⟩
    refine sm_ret (ev_cb (ea_cons (ev_var rfl) ea_nil) rc_tupL) ?_
    show D.p _ = D.p _
    rw [List.length_reverse, List.length_map, Nat.sub_self, List.drop_zero]
end
end SL
set_option Elab.async false
set_option linter.all false
set_option maxRecDepth 100000
set_option maxHeartbeats 4000000
namespace SL
open PySem PySem.Spec PyProof.Rows L2 DL FM NW

/-! ### tables of lots -/
def keyL (a : List Str) : List Key := a.map .inr
theorem keyL_data (a : List Str) : (keyL a).map keyD = a.map PyData.str := by
  unfold keyL
  rw [List.map_map]
  rfl
theorem keyL_inj {a b : List Str} (h : keyL a = keyL b) : a = b := (List.map_inj_right (f := Sum.inr) (fun x y e => Sum.inr.inj e)).mp h
/-- the table of c over the lots ls -/
def tabL (ls : List (List Str)) (c : List Str → Int) : List (List Key × PyData) := foldD ((ls.map keyL).zip (ls.map fun a => .int (c a)))
section
variable {κ : Type} [DecidableEq κ]
theorem putD_all {Q : κ × PyData → Prop} {acc : List (κ × PyData)} {k : κ} {v : PyData} (h : ∀ kv ∈ acc, Q kv) (hk : Q (k, v)) : ∀ kv ∈ putD acc k v, Q kv := fun kv m => by
  unfold putD at m
  split at m
  · obtain ⟨q, hq, rfl⟩ := List.mem_map.mp m
    split
    · rename_i e
      rw [e]
      exact hk
    · exact h q hq
  · rcases List.mem_append.mp m with m | m
    · exact h kv m
    · rw [List.mem_singleton.mp m]
      exact hk
theorem putD_keys {acc : List (κ × PyData)} {k x : κ} {v : PyData} : x ∈ (putD acc k v).map (·.1) ↔ x ∈ acc.map (·.1) ∨ x = k := by
  unfold putD
  split
  · rename_i hk
    have e : (acc.map fun kv => if kv.1 = k then (kv.1, v) else kv).map (·.1) = acc.map (·.1) := by
      rw [List.map_map]
      refine List.map_congr_left fun kv _ => ?_
      show (if kv.1 = k then (kv.1, v) else kv).1 = kv.1
      split <;> rfl
    rw [e]
    exact ⟨.inl, fun h => h.elim id fun h => h ▸ hk⟩
  · rw [List.map_append, List.mem_append]
    simp
theorem foldl_all {α : Type} {Q : κ × PyData → Prop} {kf : α → κ} {v : α → PyData} : ∀ {l : List α} {acc : List (κ × PyData)}, (∀ kv ∈ acc, Q kv) → (∀ a ∈ l, Q (kf a, v a)) → ∀ kv ∈ l.foldl (fun acc a => putD acc (kf a) (v a)) acc, Q kv
  | [], _, h, _ => h
  | a :: r, _, h, hl => foldl_all (l := r) (putD_all h (hl a List.mem_cons_self)) fun b hb => hl b (List.mem_cons_of_mem _ hb)
theorem foldl_keys {α : Type} {kf : α → κ} {v : α → PyData} {x : κ} : ∀ {l : List α} {acc : List (κ × PyData)}, x ∈ (l.foldl (fun acc a => putD acc (kf a) (v a)) acc).map (·.1) ↔ x ∈ acc.map (·.1) ∨ x ∈ l.map kf
  | [], _ => by simp
  | a :: r, acc => by
    rw [List.foldl_cons, foldl_keys (l := r), putD_keys, List.map_cons, List.mem_cons]
    constructor
    · rintro ((h | h) | h)
      · exact .inl h
      · exact .inr (.inl h)
      · exact .inr (.inr h)
    · rintro (h | h | h)
      · exact .inl (.inl h)
      · exact .inl (.inr h)
      · exact .inr h
theorem valD_of {kvs : List (κ × PyData)} {k : κ} {d : PyData} (hk : k ∈ kvs.map (·.1)) (h : ∀ kv ∈ kvs, kv.1 = k → kv.2 = d) : valD kvs k = some d := by
  unfold valD
  cases hf : kvs.find? fun kv => decide (kv.1 = k) with
  | none =>
    obtain ⟨kv, hm, e⟩ := List.mem_map.mp hk
    have := List.find?_eq_none.mp hf kv hm
    simp [e] at this
  | some kv =>
    have h1 := List.find?_some hf
    have h2 := List.mem_of_find?_eq_some hf
    show some kv.2 = some d
    rw [h kv h2 (of_decide_eq_true h1)]
end
theorem tab_val {ls : List (List Str)} {c : List Str → Int} {a : List Str} (h : a ∈ ls) : valD (tabL ls c) (keyL a) = some (.int (c a)) := by
  have hz : (ls.map keyL).zip (ls.map fun a => PyData.int (c a)) = ls.map fun a => (keyL a, PyData.int (c a)) := by
    rw [List.zip_map', ]
  unfold tabL foldD
  rw [hz, List.foldl_map]
  refine valD_of (foldl_keys.mpr (.inr (List.mem_map.mpr ⟨a, h, rfl⟩))) fun kv hm hk => ?_
  have := foldl_all (Q := fun kv : List Key × PyData => ∃ b, kv = (keyL b, PyData.int (c b))) (kf := keyL) (v := fun a => PyData.int (c a)) (acc := []) (l := ls) (fun kv h => nomatch h) (fun b _ => ⟨b, rfl⟩) kv hm
  obtain ⟨b, rfl⟩ := this
  rw [keyL_inj hk]

abbrev R_table_of : List D → D → Prop := fun ds d => ∃ (l : List Str) (c : List Str → Int), ds = [.p (lotD l), .p (.list ((lots l).map fun a => .int (c a)))] ∧ l.length ≤ 5 ∧ d = .dt (tabL (lots l) c)
/-- what joined() leaves -/
def joinS (a b : List Str) : List Str := sortS (a ++ b.filter fun x => !decide (x ∈ a))
def keptR (c : List Str → Int) : Rule → Bool
  | .none => decide (c [] = 0)
  | .step a x => decide (c a ≤ c (joinS a [x])) && decide (c (joinS a [x]) ≤ c a + 1)
  | .pair a x y => decide (c a + c (joinS (joinS a [x]) [y]) ≤ c (joinS a [x]) + c (joinS a [y]))
/-- the lots that a rule reads -/
def readR (ls : List (List Str)) : Rule → Prop
  | .none => [] ∈ ls
  | .step a x => a.length < 40 ∧ a ∈ ls ∧ joinS a [x] ∈ ls
  | .pair a x y => a.length < 40 ∧ a ∈ ls ∧ joinS a [x] ∈ ls ∧ joinS a [y] ∈ ls ∧ joinS (joinS a [x]) [y] ∈ ls
abbrev R_is_kept : List D → D → Prop := fun ds d => ∃ (ls : List (List Str)) (c : List Str → Int) (r : Rule), ds = [.dt (tabL ls c), .p (ruleD r)] ∧ readR ls r ∧ d = .p (.bool (keptR c r))
theorem joinS_len (a b : List Str) : (joinS a b).length ≤ a.length + b.length := by
  unfold joinS
  rw [(sortS_perm _).length_eq, List.length_append]
  have := List.length_filter_le (fun x => !decide (x ∈ a)) b
  omega

section
variable {P : Program} {w : World} {K : PySem.W.Frag} {mg : Str → Option Value} {base : Heap}
abbrev N_is_tie : List Str := ["thing"]
theorem sc_is_tie : FnScope N_is_tie ["thing"] (defScope s_is_tie) := ⟨rfl, rfl, rfl, by decide +kernel, rfl, by decide +kernel, by decide +kernel⟩
theorem ok_is_tie (h : Has K mg "is_tie" s_is_tie) (T : Txt mg) (C_is_word : Cal P w K mg base "is_word" 1 ["thing"] (spD R_is_word)) (C_is_number : Cal P w K mg base "is_number" 1 ["thing"] (spD R_is_number)) : Cal P w K mg base "is_tie" 2 ["thing"] (spD R_is_tie) := by
  refine cal_of h sc_is_tie (fun _ _ _ _ _ _ us hl => match us, hl with | [_], _ => rfl) (by rintro _ _ ⟨x, rfl, _⟩; rfl) (by decide) fun f cdv A outer s H E hr => ?_
  refine ⟨_, (pss_cons (ps_if (PW.pt (pw_or (pt_not (pt_val (pe_callB (call_isiK K) (by rfl) T.b_isinstance (by decide +kernel) (pa_cons (pv 0) (pa_cons (pe_bltn (v := .ty "tuple") (by rfl) T.b_tuple (by decide +kernel) rfl) pa_nil))))) (pw_or (pt_cmpR op_ne (pe_callB (call_len_seqK K) (by rfl) T.b_len (by decide +kernel) (pa_cons (pv 0) pa_nil)) pe_int (nomark _)) (pw_or1 (pt_not (pt_val (pe_cal C_is_word (hr.mono (by decide)) (by rfl) (pa_cons (pe_ix (ix_tupK K) (pv 0) pe_int (fun _ _ => rfl)) pa_nil)))))))) (pss_one (ps_ret pe_bl)) pss_nil)
    (pss_one (ps_ret (pe_and (pe_cal C_is_number (hr.mono (by decide)) (by rfl) (pa_cons (pe_ix (ix_tupK K) (pv 0) pe_int (fun _ _ => rfl)) pa_nil)) (pe_one (pe_cal C_is_number (hr.mono (by decide)) (by rfl) (pa_cons (pe_ix (ix_tupK K) (pv 0) pe_int (fun _ _ => rfl)) pa_nil))))))), ?_⟩
  rintro _ _ ⟨x, rfl, hx, rfl⟩
  have nt : isTupD x = false → isTie x = false := fun q => by
    cases x with
    | tuple xs => cases q
    | _ => rfl
  cases ht : isTupD x with
  | false =>
    refine sq_if (a := true) (et_is (et_or (b := true) (et_not (et_test (ev_cb (ea_cons (ev_var rfl) (ea_cons ev_val ea_nil)) (rc_isi (kit_tup _))))) fun q => ?_) ?_) (fun _ => sm_ret ev_bl (by rw [nt ht])) fun q => by cases q
    · rw [ht] at q
      cases q
    · rw [ht]
      rfl
  | true =>
    cases x with
    | tuple xs =>
      by_cases h3 : xs.length = 3
      · match xs, h3 with
        | [a, b, c], _ =>
          have ha : shortS a := hx
          refine sq_if (a := !isWord a) (et_is (et_or (et_not (et_test (ev_cb (ea_cons (ev_var rfl) (ea_cons ev_val ea_nil)) (rc_isi (kit_tup _))))) fun _ => et_or (et_test (ev_op (ev_cb (ea_cons (ev_var rfl) ea_nil) rc_lenT) ev_int rv_neI)) fun _ => et_not (et_B (ev_call (ea_cons (ev_op (ev_var rfl) ev_int (rv_ixT (i := 0) rfl)) ea_nil) ⟨a, rfl, ha, rfl⟩))) ?_) (fun q => sm_ret ev_bl ?_) fun q => sm_next (sm_ret (ev_is (ev_andV (ev_call (ea_cons (ev_op (ev_var rfl) ev_int (rv_ixT (i := 1) rfl)) ea_nil) ⟨b, rfl, rfl⟩) fun _ => ev_call (ea_cons (ev_op (ev_var rfl) ev_int (rv_ixT (i := 2) rfl)) ea_nil) ⟨c, rfl, rfl⟩) ?_) rfl)
          · rfl
          · have : isWord a = false := by simpa using q
            show D.p _ = D.p (PyData.bool (isWord a && _))
            rw [this]
            rfl
          · have : isWord a = true := by simpa using q
            show D.p _ = D.p (PyData.bool (isWord a && _))
            rw [this]
            rfl
      · have hf : isTie (.tuple xs) = false := by
          match xs, h3 with
          | [], _ => rfl
          | [_], _ => rfl
          | [_, _], _ => rfl
          | [_, _, _], h => exact absurd rfl h
          | _ :: _ :: _ :: _ :: _, _ => rfl
        have hn : (!decide ((xs.length : Int) = 3)) = true := by
          have : ¬ ((xs.length : Int) = 3) := by omega
          simp [this]
        refine sq_if (a := true) (et_is (et_or (et_not (et_test (ev_cb (ea_cons (ev_var rfl) (ea_cons ev_val ea_nil)) (rc_isi (kit_tup _))))) fun _ => et_or (b := true) (et_test (ev_op (ev_cb (ea_cons (ev_var rfl) ea_nil) rc_lenT) ev_int rv_neI)) fun q => ?_) ?_) (fun _ => sm_ret ev_bl (by rw [hf])) fun q => by cases q
        · rw [hn] at q
          cases q
        · rw [hn]
          rfl
    | _ => cases ht

abbrev N_table_of : List Str := ["things", "counts"]
theorem sc_table_of : FnScope N_table_of ["things", "counts"] (defScope s_table_of) := ⟨rfl, rfl, rfl, by decide +kernel, rfl, by decide +kernel, by decide +kernel⟩
theorem ok_table_of (h : Has K mg "table_of" s_table_of) (T : Txt mg) (C_all_lots : Cal P w K mg base "all_lots" 1 ["things"] (spD R_all_lots)) : Cal P w K mg base "table_of" 2 ["things", "counts"] (spD R_table_of) := by
  refine cal_of h sc_table_of (fun _ _ _ _ _ _ us hl => match us, hl with | [_, _], _ => rfl) (by rintro _ _ ⟨x, y, rfl, _⟩; rfl) (by decide) fun f cdv A outer s H E hr => ?_
  have hu := hu_of hr
  refine ⟨_, (pss_one (ps_ret (pe_dictZip rfl hr.units (by rfl) T.b_dict (by rfl) T.b_zip (pa_cons (pe_cal C_all_lots (hr.mono (by decide)) (by rfl) (pa_cons (pv 0) pa_nil)) (pa_cons (pv 1) pa_nil))))), ?_⟩
  rintro _ _ ⟨l, c, rfl, hl, rfl⟩
  refine sm_ret (ev_dictZip (kss := (lots l).map keyL) (ys := (lots l).map fun a => .int (c a)) (by rw [List.length_map, List.length_map]) (ea_cons (ev_is (ev_call (ea_cons (ev_var rfl) ea_nil) ⟨l, rfl, hl, rfl⟩) ?_) (ea_cons (ev_var rfl) ea_nil))) rfl
  unfold lotsD
  rw [List.map_map]
  congr 2
  refine List.map_congr_left fun a _ => ?_
  show lotD a = PyData.tuple ((keyL a).map keyD)
  rw [keyL_data]
  rfl

abbrev N_is_kept : List Str := ["table", "name", "lot", "one", "other", "both"]
theorem sc_is_kept : FnScope N_is_kept ["table", "name"] (defScope s_is_kept) := ⟨rfl, rfl, rfl, by decide +kernel, rfl, by decide +kernel, by decide +kernel⟩
theorem ev_lotkey {ρ : DL.Env} {te : TE} {a : List Str} (h : Ev te ρ (.p (lotD a))) : Ev te ρ (.p (.tuple ((keyL a).map keyD))) := by
  rw [keyL_data]
  exact h
theorem ok_is_kept (h : Has K mg "is_kept" s_is_kept) (T : Txt mg) (C_joined : Cal P w K mg base "joined" 1 ["one", "other"] (spD R_joined)) : Cal P w K mg base "is_kept" 2 ["table", "name"] (spD R_is_kept) := by
  refine cal_of h sc_is_kept (fun _ _ _ _ _ _ us hl => match us, hl with | [_, _], _ => rfl) (by rintro _ _ ⟨x, y, z, rfl, _⟩; rfl) (by decide) fun f cdv A outer s H E hr => ?_
  have hu := hu_of hr
  refine ⟨_, (pss_cons (ps_if (pt_cmpR op_eq (pe_ix (ix_tupK K) (pv 1) pe_int (fun _ _ => rfl)) (pe_gstr T.g_NONE (by rfl)) (nomark _)) (pss_one (ps_ret (pe_cmpR op_eq (pe_dget hu (pv 0) (pe_tup pa_nil) (fun _ _ => rfl)) pe_int (nomark _)))) pss_nil)
    (pss_cons (ps_par (i := 2) (j := 3) (by rfl) sc_is_kept.nd rfl rfl (by decide) rfl rfl (pa_cons (pe_ix (ix_tupK K) (pv 1) pe_int (fun _ _ => rfl)) (pa_cons (pe_cal C_joined (hr.mono (by decide)) (by rfl) (pa_cons (pe_ix (ix_tupK K) (pv 1) pe_int (fun _ _ => rfl)) (pa_cons (pe_tup (pa_cons (pe_ix (ix_tupK K) (pv 1) pe_int (fun _ _ => rfl)) pa_nil)) pa_nil))) pa_nil)) (by rfl))
    (pss_cons (ps_if (pt_cmpR op_eq (pe_ix (ix_tupK K) (pv 1) pe_int (fun _ _ => rfl)) (pe_gstr T.g_STEP (by rfl)) (nomark _)) (pss_one (ps_ret (pe_chain op_le op_le (pe_dget hu (pv 0) (pv 2) (fun _ _ => rfl)) (pe_dget hu (pv 0) (pv 3) (fun _ _ => rfl)) (pe_op op_add (pe_dget hu (pv 0) (pv 2) (fun _ _ => rfl)) pe_int)))) pss_nil)
    (pss_cons (ps_par (i := 4) (j := 5) (by rfl) sc_is_kept.nd rfl rfl (by decide) rfl rfl (pa_cons (pe_cal C_joined (hr.mono (by decide)) (by rfl) (pa_cons (pv 2) (pa_cons (pe_tup (pa_cons (pe_ix (ix_tupK K) (pv 1) pe_int (fun _ _ => rfl)) pa_nil)) pa_nil))) (pa_cons (pe_cal C_joined (hr.mono (by decide)) (by rfl) (pa_cons (pv 3) (pa_cons (pe_tup (pa_cons (pe_ix (ix_tupK K) (pv 1) pe_int (fun _ _ => rfl)) pa_nil)) pa_nil))) pa_nil)) (by rfl))
    (pss_one (ps_ret (pe_cmpR op_ge (pe_op op_add (pe_dget hu (pv 0) (pv 3) (fun _ _ => rfl)) (pe_dget hu (pv 0) (pv 4) (fun _ _ => rfl))) (pe_op op_add (pe_dget hu (pv 0) (pv 2) (fun _ _ => rfl)) (pe_dget hu (pv 0) (pv 5) (fun _ _ => rfl))) (nomark _)))))))), ?_⟩
  rintro _ _ ⟨ls, c, r, rfl, hrd, rfl⟩
  have jn : ∀ {ρ : DL.Env} {ta tb : TE} {a b : List Str}, a.length + b.length < 64 → Ev ta ρ (.p (lotD a)) → Ev tb ρ (.p (lotD b)) → Ev (tCall (spD R_joined) [] E0 (tCons ta (tCons tb tNil))) ρ (.p (lotD (joinS a b))) :=
    fun hl h1 h2 => ev_call (ea_cons h1 (ea_cons h2 ea_nil)) ⟨_, _, rfl, hl, rfl⟩
  cases r with
  | none =>
    refine sq_if (a := true) (et_is (et_test (ev_op (ev_op (ev_var rfl) ev_int (rv_ixT (i := 0) rfl)) ev_str rv_eqS)) (by decide)) (fun _ => sm_ret (ev_op (ev_dgetT (k := keyL []) (ev_var rfl) (ev_tup (ds := []) ea_nil (by simp)) (tab_val hrd)) ev_int rv_eqI) rfl) fun q => by cases q
  | step a x =>
    obtain ⟨hl, h1, h2⟩ := hrd
    refine sq_if (a := false) (et_is (et_test (ev_op (ev_op (ev_var rfl) ev_int (rv_ixT (i := 0) rfl)) ev_str rv_eqS)) (by decide)) (fun q => by cases q) fun _ => sm_next ?_
    refine sq_par (x := .p (lotD a)) (y := .p (lotD (joinS a [x]))) (ea_cons (ev_op (ev_var rfl) ev_int (rv_ixT (i := 1) rfl)) (ea_cons (jn (b := [x]) (by simp; omega) (ev_op (ev_var rfl) ev_int (rv_ixT (i := 1) rfl)) (ev_tup (ds := [.str x]) (ea_cons (ev_op (ev_var rfl) ev_int (rv_ixT (i := 2) rfl)) ea_nil) (by simp))) ea_nil)) ?_
    refine sq_if (a := true) (et_is (et_test (ev_op (ev_op (ev_var rfl) ev_int (rv_ixT (i := 0) rfl)) ev_str rv_eqS)) (by decide)) (fun _ => ?_) fun q => by cases q
    exact sm_ret (ev_chain (ev_dgetT (ev_var rfl) (ev_lotkey (ev_var rfl)) (tab_val h1)) (ev_dgetT (ev_var rfl) (ev_lotkey (ev_var rfl)) (tab_val h2)) rv_le (fun _ => ev_op (ev_dgetT (ev_var rfl) (ev_lotkey (ev_var rfl)) (tab_val h1)) ev_int rv_add) fun _ => rv_le) rfl
  | pair a x y =>
    obtain ⟨hl, h1, h2, h3, h4⟩ := hrd
    have hj := joinS_len a [x]
    rw [List.length_singleton] at hj
    refine sq_if (a := false) (et_is (et_test (ev_op (ev_op (ev_var rfl) ev_int (rv_ixT (i := 0) rfl)) ev_str rv_eqS)) (by decide)) (fun q => by cases q) fun _ => sm_next ?_
    refine sq_par (x := .p (lotD a)) (y := .p (lotD (joinS a [x]))) (ea_cons (ev_op (ev_var rfl) ev_int (rv_ixT (i := 1) rfl)) (ea_cons (jn (b := [x]) (by simp; omega) (ev_op (ev_var rfl) ev_int (rv_ixT (i := 1) rfl)) (ev_tup (ds := [.str x]) (ea_cons (ev_op (ev_var rfl) ev_int (rv_ixT (i := 2) rfl)) ea_nil) (by simp))) ea_nil)) ?_
    refine sq_if (a := false) (et_is (et_test (ev_op (ev_op (ev_var rfl) ev_int (rv_ixT (i := 0) rfl)) ev_str rv_eqS)) (by decide)) (fun q => by cases q) fun _ => sm_next ?_
    refine sq_par (x := .p (lotD (joinS a [y]))) (y := .p (lotD (joinS (joinS a [x]) [y]))) (ea_cons (jn (b := [y]) (by simp; omega) (ev_var rfl) (ev_tup (ds := [.str y]) (ea_cons (ev_op (ev_var rfl) ev_int (rv_ixT (i := 3) rfl)) ea_nil) (by simp)))
      (ea_cons (jn (b := [y]) (by simp; omega) (ev_var rfl) (ev_tup (ds := [.str y]) (ea_cons (ev_op (ev_var rfl) ev_int (rv_ixT (i := 3) rfl)) ea_nil) (by simp))) ea_nil)) ?_
    exact sm_ret (ev_op (ev_op (ev_dgetT (ev_var rfl) (ev_lotkey (ev_var rfl)) (tab_val h2)) (ev_dgetT (ev_var rfl) (ev_lotkey (ev_var rfl)) (tab_val h3)) rv_add) (ev_op (ev_dgetT (ev_var rfl) (ev_lotkey (ev_var rfl)) (tab_val h1)) (ev_dgetT (ev_var rfl) (ev_lotkey (ev_var rfl)) (tab_val h4)) rv_add) rv_ge) rfl
end
end SL
set_option Elab.async false
set_option linter.all false
set_option maxRecDepth 100000
set_option maxHeartbeats 4000000
namespace SL
open PySem PySem.Spec PyProof.Rows L2 DL FM NW

def rowD (r : Str × Int × Int) : PyData := .tuple [.str r.1, .int r.2.1, .int r.2.2]
def ties (rows : List (Str × Int × Int)) : List Tie := rows.map (·.2)
def rank0 (rows : List (Str × Int × Int)) : Int := ((rk (fun p => p) (ties rows) : Nat) : Int)
abbrev R_tie_count : List D → D → Prop := fun ds d => ∃ rows : List (Str × Int × Int), ds = [.p (.list (rows.map rowD))] ∧ rows.length ≤ 5 ∧ d = .p (.int (rank0 rows))
theorem after_append (l m : List Tie) : ∀ g, after g (l ++ m) = after (after g l) m := by
  induction l with
  | nil => intro g; rfl
  | cons e r ih => intro g; exact ih _
/-- the groups hold the labels of g -/
structure GA (rows : List (Str × Int × Int)) (gs : List (Key × PyData)) (g : Int → Int) : Prop where
  all : ∀ kv ∈ gs, ∃ p : Int, kv = (.inl p, .int (g p))
  one : ∀ r ∈ rows, (.inl r.2.1 : Key) ∈ gs.map (·.1) ∧ (.inl r.2.2 : Key) ∈ gs.map (·.1)
  len : gs.length ≤ 10
theorem GA.val {rows : List (Str × Int × Int)} {gs : List (Key × PyData)} {g : Int → Int} (G : GA rows gs g) {p : Int} (h : (.inl p : Key) ∈ gs.map (·.1)) : valD gs (.inl p : Key) = some (.int (g p)) :=
  valD_of h fun kv hm hk => by
    obtain ⟨q, rfl⟩ := G.all kv hm
    cases hk
    rfl
theorem GA.start (rows : List (Str × Int × Int)) (h : rows.length ≤ 5) : GA rows ((rows.flatMap fun d => [d.2.1, d.2.2].map fun e => ((.inl e : Key), PyData.int e)).foldl (fun acc p => putD acc p.1 p.2) []) (fun p => p) where
  all := foldl_all (kf := fun p : Key × PyData => p.1) (v := fun p => p.2) (fun kv h => nomatch h) fun a ha => by
    obtain ⟨r, _, ha⟩ := List.mem_flatMap.mp ha
    obtain ⟨e, _, rfl⟩ := List.mem_map.mp ha
    exact ⟨e, rfl⟩
  one := fun r hr => by
    refine ⟨(foldl_keys (kf := fun p : Key × PyData => p.1) (v := fun p => p.2)).mpr (.inr ?_), (foldl_keys (kf := fun p : Key × PyData => p.1) (v := fun p => p.2)).mpr (.inr ?_)⟩
    · exact List.mem_map.mpr ⟨(.inl r.2.1, .int r.2.1), List.mem_flatMap.mpr ⟨r, hr, by simp⟩, rfl⟩
    · exact List.mem_map.mpr ⟨(.inl r.2.2, .int r.2.2), List.mem_flatMap.mpr ⟨r, hr, by simp⟩, rfl⟩
  len := by
    have h1 := foldl_len (fun p : Key × PyData => p.1) (fun p => p.2) (rows.flatMap fun d => [d.2.1, d.2.2].map fun e => ((.inl e : Key), PyData.int e)) []
    have h2 : (rows.flatMap fun d => [d.2.1, d.2.2].map fun e => ((.inl e : Key), PyData.int e)).length ≤ rows.length * 2 := flat_len fun a _ => by simp
    refine Nat.le_trans h1 ?_
    rw [List.length_nil, Nat.zero_add]
    omega
def relab (m t : Int) (kv : Key × PyData) : PyData := match kv.2 with
  | .int v => if v = t then .int m else .int v
  | d => d
theorem GA.step {rows : List (Str × Int × Int)} {gs : List (Key × PyData)} {g : Int → Int} (G : GA rows gs g) (a b : Int) : GA rows (gs.foldl (fun acc kv => putD acc kv.1 (relab (g a) (g b) kv)) []) (merge g a b) where
  all := foldl_all (kf := fun kv : Key × PyData => kv.1) (v := relab (g a) (g b)) (fun kv h => nomatch h) fun kv hm => by
    obtain ⟨p, rfl⟩ := G.all kv hm
    refine ⟨p, ?_⟩
    unfold relab merge
    by_cases e : g p = g b
    · show (Sum.inl p, if g p = g b then PyData.int (g a) else PyData.int (g p)) = _
      rw [if_pos e, if_pos e]
    · show (Sum.inl p, if g p = g b then PyData.int (g a) else PyData.int (g p)) = _
      rw [if_neg e, if_neg e]
  one := fun r hr => by
    obtain ⟨h1, h2⟩ := G.one r hr
    exact ⟨(foldl_keys (kf := fun kv : Key × PyData => kv.1) (v := relab (g a) (g b))).mpr (.inr h1), (foldl_keys (kf := fun kv : Key × PyData => kv.1) (v := relab (g a) (g b))).mpr (.inr h2)⟩
  len := by
    have := foldl_len (fun kv : Key × PyData => kv.1) (relab (g a) (g b)) gs []
    rw [List.length_nil, Nat.zero_add] at this
    exact Nat.le_trans this G.len

section
variable {P : Program} {w : World} {K : PySem.W.Frag} {mg : Str → Option Value} {base : Heap}
abbrev N_tie_count : List Str := ["ties", "word", "one", "other", "groups", "found", "mine", "theirs", "point", "group"]
theorem sc_tie_count : FnScope N_tie_count ["ties"] (defScope s_tie_count) := ⟨rfl, rfl, rfl, by decide +kernel, rfl, by decide +kernel, by decide +kernel⟩
theorem ok_tie_count (h : Has K mg "tie_count" s_tie_count) (T : Txt mg) : Cal P w K mg base "tie_count" 1 ["ties"] (spD R_tie_count) := by
  refine cal_of h sc_tie_count (fun _ _ _ _ _ _ us hl => match us, hl with | [_], _ => rfl) (by rintro _ _ ⟨x, rfl, _⟩; rfl) (by decide) fun f cdv A outer s H E hr => ?_
  have hu := hu_of hr
  refine ⟨_, (pss_cons (ps_par (i := 4) (j := 5) (by rfl) sc_tie_count.nd rfl rfl (by decide) rfl rfl (pa_cons (pe_dc2 (own := [("word", 1), ("one", 2), ("other", 3), ("point", 8)]) (g := (gTup K 3 (gCons (gName 1) (gCons (gName 2) (gCons (gName 3) gNil))))) (g1 := (gName 8)) (vs1 := [8]) rfl sc_tie_count.nd (pi_listK K (pv 0)) (blkOk_by (own := [("word", 1), ("one", 2), ("other", 3), ("point", 8)]) (N := N_tie_count) (sc := defScope s_tie_count) (by decide +kernel)) (by decide) (fun _ _ _ _ _ => (pg_tupK K rfl (pgs_cons (pg_name (i := 1) sc_tie_count.nd rfl (by first | exact Or.inl rfl | exact Or.inr rfl)) (pgs_cons (pg_name (i := 2) sc_tie_count.nd rfl (by first | exact Or.inl rfl | exact Or.inr rfl)) (pgs_cons (pg_name (i := 3) sc_tie_count.nd rfl (by first | exact Or.inl rfl | exact Or.inr rfl)) pgs_nil))))) (fun _ _ _ _ _ => pts_nil) (fun _ _ _ _ _ => (pi_tupK K (pe_tup (pa_cons (pv 2) (pa_cons (pv 3) pa_nil))))) (fun _ _ _ _ _ => (pg_name (i := 8) sc_tie_count.nd rfl (by first | exact Or.inl rfl | exact Or.inr rfl))) (fun _ _ _ _ _ => pts_nil) (fun _ _ _ _ _ => (pv 8)) (fun _ _ _ _ _ => (pv 8))) (pa_cons pe_int pa_nil)) (by rfl))
    (pss_cons (ps_for PassesOwn.never rfl (pi_listK K (pv 0)) (pg_tupK K rfl (pgs_cons (pg_name (i := 1) sc_tie_count.nd rfl (by first | exact Or.inl rfl | exact Or.inr rfl)) (pgs_cons (pg_name (i := 2) sc_tie_count.nd rfl (by first | exact Or.inl rfl | exact Or.inr rfl)) (pgs_cons (pg_name (i := 3) sc_tie_count.nd rfl (by first | exact Or.inl rfl | exact Or.inr rfl)) pgs_nil)))) (pss_cons (ps_asg (pe_tup (pa_cons (pe_dget hu (pv 4) (pv 2) (fun _ _ => rfl)) (pa_cons (pe_dget hu (pv 4) (pv 3) (fun _ _ => rfl)) pa_nil))) (pg_tupK K rfl (pgs_cons (pg_name (i := 6) sc_tie_count.nd rfl (by first | exact Or.inl rfl | exact Or.inr rfl)) (pgs_cons (pg_name (i := 7) sc_tie_count.nd rfl (by first | exact Or.inl rfl | exact Or.inr rfl)) pgs_nil))))
    (pss_one (ps_if (pt_cmpR op_ne (pv 6) (pv 7) (nomark _)) (pss_cons (ps_set (i := 5) sc_tie_count.nd rfl (by first | exact Or.inl rfl | exact Or.inr rfl) (pe_op op_add (pv 5) pe_int))
    (pss_one (ps_lock (ps_setDc (i := 4) (own := [("point", 8), ("group", 9)]) (g := (gTup K 2 (gCons (gName 8) (gCons (gName 9) gNil)))) rfl sc_tie_count.nd rfl rfl (sw_trueD rfl rfl rfl (by decide +kernel)) (pi_items (pv 4)) (blkOk_by (own := [("point", 8), ("group", 9)]) (N := N_tie_count) (sc := defScope s_tie_count) (by decide +kernel)) (fun _ _ _ _ _ => (pg_tupK K rfl (pgs_cons (pg_name (i := 8) sc_tie_count.nd rfl (by first | exact Or.inl rfl | exact Or.inr rfl)) (pgs_cons (pg_name (i := 9) sc_tie_count.nd rfl (by first | exact Or.inl rfl | exact Or.inr rfl)) pgs_nil)))) (fun _ _ _ _ _ => pts_nil) (fun _ _ _ _ _ => (pv 8)) (fun _ _ _ _ _ => (pe_ifExp (pt_cmpR op_eq (pv 9) (pv 7) (nomark _)) (pv 6) (pv 9))))))) pss_nil))))
    (pss_one (ps_ret (pv 5))))), ?_⟩
  rintro _ _ ⟨rows, rfl, hl, rfl⟩
  refine sq_par (x := .dk _) (y := .p (.int 0)) (ea_cons (ev_dc2 (xs := rows) (φ := rowD) (fun d => [d.2.1, d.2.2]) (fun _ e => .int e) (fun _ e => .inl e) (fun _ e => .int e) (ei_list (ev_var rfl)) (sl := [1, 2, 3]) (sl1 := [8]) (by decide) (by decide) ?_ ?_) (ea_cons ev_int ea_nil)) ?_
  · have : (rows.flatMap fun d => [d.2.1, d.2.2].map fun e => ((.inl e : Key), PyData.int e)).length ≤ rows.length * 2 := flat_len fun a _ => by simp
    omega
  · rintro ⟨x, a, b⟩ hd
    refine ⟨_, eg_tup rfl (egs_cons eg_name (egs_cons eg_name (egs_cons eg_name egs_nil))), ei_tup (ev_tup (ds := [.int a, .int b]) (ea_cons (ev_var rfl) (ea_cons (ev_var rfl) ea_nil)) (by simp)), fun e he => ⟨_, eg_name, ev_var rfl, ev_var rfl⟩⟩
  refine sq_for (sl := [1, 2, 3]) (fun i _ ρ => ∃ gs x1 x2 x3 x6 x7, GA rows gs (after (fun p => p) (ties (rows.take i))) ∧
    ρ = [some (.p (.list (rows.map rowD))), x1, x2, x3, some (.dk gs), some (.p (.int ((rk (fun p => p) (ties (rows.take i)) : Nat) : Int))), x6, x7, none, none]) (ei_list (ev_var rfl)) ⟨_, _, _, _, _, _, GA.start rows hl, rfl⟩ ?_ ?_
  · rintro i d b' ρ' hd ⟨gs, x1, x2, x3, x6, x7, G, rfl⟩
    rw [List.getElem?_map] at hd
    obtain ⟨r, hr', rfl⟩ : ∃ r, rows[i]? = some r ∧ d = rowD r := by
      cases hq : rows[i]? with
      | none => rw [hq] at hd; cases hd
      | some r =>
        rw [hq] at hd
        cases hd
        exact ⟨r, rfl, rfl⟩
    obtain ⟨x, a, b⟩ := r
    have hmem : (x, a, b) ∈ rows := List.mem_of_getElem? hr'
    have htk : ties (rows.take (i + 1)) = ties (rows.take i) ++ [(a, b)] := by
      unfold ties
      rw [take_get hr', List.map_append]
      rfl
    have haf : after (fun p => p) (ties (rows.take (i + 1))) = merge (after (fun p => p) (ties (rows.take i))) a b := by
      rw [htk, after_append]
      rfl
    have hrk : rk (fun p => p) (ties (rows.take (i + 1))) = rk (fun p => p) (ties (rows.take i)) + (if after (fun p => p) (ties (rows.take i)) a = after (fun p => p) (ties (rows.take i)) b then 0 else 1) := by
      rw [htk, rk_append, rk_one]
    rw [haf, hrk]
    generalize after (fun p => p) (ties (rows.take i)) = g at *
    generalize rk (fun p => p) (ties (rows.take i)) = n at *
    have hv1 := G.val (G.one _ hmem).1
    have hv2 := G.val (G.one _ hmem).2
    refine ⟨_, eg_tup rfl (egs_cons eg_name (egs_cons eg_name (egs_cons eg_name egs_nil))), ?_⟩
    refine sq_asgG (sl := [6, 7]) (ev_tup (ds := [.int (g a), .int (g b)]) (ea_cons (ev_dgetK (k := .inl a) (ev_var rfl) (ev_var rfl) hv1) (ea_cons (ev_dgetK (k := .inl b) (ev_var rfl) (ev_var rfl) hv2) ea_nil)) (by simp)) (eg_tup rfl (egs_cons eg_name (egs_cons eg_name egs_nil))) ?_
    refine sm_if (et_test (ev_op (ev_var rfl) (ev_var rfl) rv_neI)) (fun q => ?_) fun q => ?_
    · have hne : ¬ g a = g b := by simpa using q
      rw [if_neg hne]
      refine sq_set (ev_op (ev_var rfl) ev_int rv_add) ?_
      refine sm_relabel (ρ0 := [none, none, none, none, none, none, some (.p (.int (g a))), some (.p (.int (g b))), none, none]) (sl := [8, 9]) rfl ?_ ?_ ?_ (fun kv => kv.1) (relab (g a) (g b)) (by decide) (Nat.le_trans G.len (by decide)) ?_ rfl ?_
      · intro kv hm
        obtain ⟨p, rfl⟩ := G.all kv hm
        rfl
      · refine ⟨rfl, fun j d hj => ?_⟩
        match j, hj with
        | 6, hj => exact hj
        | 7, hj => exact hj
        | 0, hj => cases hj
        | 1, hj => cases hj
        | 2, hj => cases hj
        | 3, hj => cases hj
        | 4, hj => cases hj
        | 5, hj => cases hj
        | 8, hj => cases hj
        | 9, hj => cases hj
        | j + 10, hj => cases hj
      · intro j d hj
        match j, hj with
        | 6, hj => cases hj; exact ⟨_, rfl, rfl⟩
        | 7, hj => cases hj; exact ⟨_, rfl, rfl⟩
        | 0, hj => cases hj
        | 1, hj => cases hj
        | 2, hj => cases hj
        | 3, hj => cases hj
        | 4, hj => cases hj
        | 5, hj => cases hj
        | 8, hj => cases hj
        | 9, hj => cases hj
        | j + 10, hj => cases hj
      · intro kv hm
        obtain ⟨p, rfl⟩ := G.all kv hm
        refine ⟨_, eg_tup rfl (egs_cons eg_name (egs_cons eg_name egs_nil)), ev_var rfl, ?_⟩
        show Ev _ _ (.p (if g p = g b then PyData.int (g a) else PyData.int (g p)))
        refine ev_if (et_test (ev_op (ev_var rfl) (ev_var rfl) rv_eqI)) (fun q => ?_) fun q => ?_
        · have e : g p = g b := by simpa using q
          rw [if_pos e]
          exact ev_var rfl
        · have e : ¬ g p = g b := by simpa using q
          rw [if_neg e]
          exact ev_var rfl
      · exact ⟨_, _, _, _, _, _, G.step a b, rfl⟩
    · have he : g a = g b := by simpa using q
      rw [if_pos he]
      exact sm_next ⟨_, _, _, _, _, _, by rw [merge_same he]; exact G, rfl⟩
  · rintro b' ρ' ⟨gs, x1, x2, x3, x6, x7, G, rfl⟩
    refine sm_ret (ev_var rfl) ?_
    show D.p _ = D.p _
    rw [List.length_map, List.take_length]
    rfl
end
end SL
set_option Elab.async false
set_option linter.all false
set_option maxRecDepth 100000
set_option maxHeartbeats 4000000
/-! C(e), C an own exception below ValueError whose __init__ says super().__init__(text) and self.f = its argument. -/
namespace NW
open PySem PySem.Spec PyProof.Rows L2

/-- what the written part says of the class and of its __init__ -/
structure SupC (K : PySem.W.Frag) (main : PySem.Str) (C fI cda cc : Addr) (nm q f : PySem.Str) (st : Stmt) : Prop where
  T : OexC K C
  iC : PySem.W.findIn K (.ref C) "__init__" = some (some (.ref fI))
  tI : PySem.W.typeIn K (.ref fI) = some (.type "function")
  fn : ∃ (oc : Value) (od : Option Addr) (kV doc pm : Value) (an : Option Addr) (ct : Value) (osl : Array (Option Value)), K.lookup fI = some ⟨oc, od, .func (PySem.W.ksFn nm q (defArgs st) (defBody st) (defScope st) .none kV doc pm an (.ref cda) ct cc), osl⟩
  code : PySem.W.codeIn K (.ref cda) q = true
  file : ∃ (ccl : Value) (cdd : Option Addr) (vs : Array Value) (ccs : Array (Option Value)) (t : Tok), K.lookup cda = some ⟨ccl, cdd, .fields vs, ccs⟩ ∧ vs[2]? = some (.str main t)
  cell : ∃ (cl : Value) (cld : Option Addr) (csl : Array (Option Value)), K.lookup cc = some ⟨cl, cld, .cell (some (.ref C)), csl⟩
  cls : ∃ cd, PySem.W.clsIn K C = some cd
  self : PySem.W.mroIn K C (.ref C) = some true
  sup : PySem.W.ks_superIn K C C "__init__" = some (some (.builtin "ValueError.__init__"))
  exc : ∃ bmB, PySem.W.excInitIn K C bmB "ValueError.__new__" = true ∧ PySem.ExcBaseFacts "ValueError" "ValueError.__new__" "ValueError.__init__" bmB
  below : PySem.W.subIn K (.ref C) (.type "ValueError") = some true
  any : PySem.W.nsIn K cStatics "thirdparty.any" = some none
  no : PySem.W.findIn K (.ref C) f = some none
/-- C(e) -/
def tMkB (C : Addr) (f : PySem.Str) (ta : TA) : L2.St → Hp → XK → Prop := fun σ H Q => ta σ H fun vs H1 => ∃ y, vs = [y] ∧ ∀ d, H1 d = none → Q (.ref C) (some d) (upd H1 d (.xd [(f, y)]))
theorem bad_nocell : ∀ x ∈ (defScope SL.s_BadMaker___init__).names, x.2 ≠ .cell := by decide +kernel
theorem bad_self : (defScope SL.s_BadMaker___init__).names.lookup ("self" : PySem.Str) = some NameKind.local := by decide +kernel
theorem bad_place : (defScope SL.s_BadMaker___init__).names.lookup ("place" : PySem.Str) = some NameKind.local := by decide +kernel
theorem bad_super : (defScope SL.s_BadMaker___init__).names.lookup ("super" : PySem.Str) = some NameKind.globalImplicit := by decide +kernel
theorem bad_class : (defScope SL.s_BadMaker___init__).names.lookup ("__class__" : PySem.Str) = some NameKind.free := by decide +kernel
section
variable {X : Cx} {C fI cda cc : Addr}
theorem pmk_bad {e : Expr} {ta : TA} {k : Nat} {p pos : Pos} (B : SupC X.K X.prog.main.file C fI cda cc "__init__" "BadMaker.__init__" "place" SL.s_BadMaker___init__) (hsup : X.mg "super" = none) (htop : (X.prog.main.scope.names.lookup ("super" : PySem.Str)).isSome = false) (hr : Room (k + 1) X.A)
    (hg : Gl X "BadMaker") (hm : X.mg "BadMaker" = some (.ref C)) (ha : PA X [e] ta) (hdb : (("BadMaker" : PySem.Str) == ("__debug__" : PySem.Str)) = false := by decide)
    (he : starEach [e] X.env = (false, eval e X.env) :: starEach [] X.env := by rfl) (hpl : (backTo pos (starEach [] X.env)).any (·.1) = false := by rfl) :
    PMk X (.Call (.Name "BadMaker" p) [e] [] pos) (tMkB C "place" ta) := by
  intro pins s σ H Q I h
  obtain ⟨nm0, q0, N, bs, bm, sn, sub, ab, col, dd, k0, k1, k2, k3, k5, hC, hbm⟩ := B.T.cls
  have hcl : PySem.W.clsIn X.K C = some { name := nm0, bases := bs, mro := .ref C :: bm, ns := N, qualname := q0, hasDict := true, slotNames := sn, subclasses := sub, abstract := ab, collection := col, hasDel := false } := by unfold PySem.W.clsIn; rw [hC] <;> rfl
  obtain ⟨oc, od, kV, doc, pm, an, ct, osl, hfn⟩ := B.fn
  obtain ⟨ccl, cdd, cvs, ccs, ctk, hcode, hfile⟩ := B.file
  obtain ⟨cl, cld, csl, hcell⟩ := B.cell
  obtain ⟨bmB, hexc, FB⟩ := B.exc
  refine wpAny_Call_Name_kw (ld_glob I hg hm ?_ hdb)
  refine PySem.W.callWith_K (h₀ := X.base) I.ok.mod.kin B.T.kC (thn (ha.run pos pins s σ H _ I h) fun us s1 ⟨vs, H1, I1, r1, y, ev, q1⟩ => ⟨I1.kIn, ?_⟩) he hpl
  subst ev
  obtain ⟨u0, rfl, ry⟩ := vals1 r1
  obtain ⟨mb, hb1, hb2⟩ := I1.mod.blt
  have hglob := I1.mod.glob.keeps I1.bk
  have hbl := hb1.keeps I1.bk
  have hlim := I1.mod.nolimit.keeps I1.bk
  have XK := I1.kIn
  have hroom := (hr.make C [u0] []).depth
  show wpAny _ _ (call (.ref C) [u0]) _ _ _
  obtain ⟨hp, g, dr, tk, os⟩ := s1
  refine wpAny_call (PySem.HandSPX.call_own F.excBase_ValueError (fun Y => PySem.HandSPX.refsVE_contains Y bm hbm) (XK _ _ hC) (PySem.W.looks_findIn XK B.iC) (fun self => PySem.W.bind_fn XK self B.tI) (by show 1 ≤ sizeLine; decide) ?_)
  have kk : ∀ b o, hp.get? b = some o → ((hp.push (PySem.W.kdv_tup [u0])).push (PySem.HandSPX.excO C hp.objs.size)).get? b = some o := fun b o e => Heap.get?_push_of_some _ (Heap.get?_push_of_some _ e)
  have he0 : ((hp.push (PySem.W.kdv_tup [u0])).push (PySem.HandSPX.excO C hp.objs.size)).get? (hp.objs.size + 1) = some (PySem.HandSPX.excO C hp.objs.size) := by heap_get
  have ht0 : ((hp.push (PySem.W.kdv_tup [u0])).push (PySem.HandSPX.excO C hp.objs.size)).get? hp.objs.size = some (PySem.W.kdv_tup [u0]) := by heap_get
  have hz0 : ((hp.push (PySem.W.kdv_tup [u0])).push (PySem.HandSPX.excO C hp.objs.size)).objs.size = hp.objs.size + 2 := by rw [Heap.size_push, Heap.size_push]
  generalize (hp.push (PySem.W.kdv_tup [u0])).push (PySem.HandSPX.excO C hp.objs.size) = g0 at *
  have X0 : X.K.In g0 := XK.keeps kk
  refine PySem.ks_codeAny_call_defAt (body := defBody SL.s_BadMaker___init__) (binds := [("self", .ref (hp.objs.size + 1)), ("place", u0)]) hroom (X0 _ _ hfn) rfl (hlim.keeps kk) (PySem.W.codeRec_of X0 B.code) rfl (BindsTo.of_eq rfl)
    bad_nocell (fun x hx => ?_) (fun h₀ hns hk₁ => ?_) (by rfl) (by rfl) (by rfl)
  · rcases List.mem_cons.mp hx with rfl | hx
    · exact bad_self
    · rw [List.mem_singleton.mp hx]
      exact bad_place
  have kk1 : ∀ b o, hp.get? b = some o → h₀.get? b = some o := fun b o e => hk₁ b o (kk b o e)
  have X1 : X.K.In h₀ := XK.keeps kk1
  have N1 : PyProof.Rows.News hp g0.objs.size h₀ [(hp.objs.size + 1, PySem.W.excObj C hp.objs.size none .none), (hp.objs.size, PySem.W.excTup [u0])] := fun p hp' => by
    rcases List.mem_cons.mp hp' with rfl | hp'
    · exact ⟨hk₁ _ _ he0, by show hp.objs.size + 1 ≠ g0.objs.size; omega, Heap.get?_none_of_le (Nat.le_succ _)⟩
    · rw [List.mem_singleton.mp hp']
      exact ⟨hk₁ _ _ ht0, by show hp.objs.size ≠ g0.objs.size; omega, Heap.get?_none_of_le (Nat.le_refl _)⟩
  have F1 : PyProof.Rows.Fr hp g0.objs.size h₀ (fun x => ([("self", .ref (hp.objs.size + 1)), ("place", u0)] : List (PySem.Str × Value)).reverse.lookup x) := ⟨hns, kk1, by omega⟩
  have I1' : PySem.W.InstAt h₀ (hp.objs.size + 1) (PySem.W.excObj C hp.objs.size none .none) C none := ⟨hk₁ _ _ he0, rfl, rfl, trivial⟩
  refine PySem.ks_wpAt_execs_cons (PySem.ks_wpAt_Expr_any (PySem.ks_wpAt_MethodCall (PySem.ks_wpAt_super_base bad_super bad_class (by decide) rfl (X1 _ _ hfn) rfl rfl rfl (X1 _ _ hcode) rfl hfile (beq_self_eq_true _) htop ?_)))
  refine PySem.W.ks_loadName_global rfl bad_super (Calls.loadGlobal_builtin (hglob.keeps kk1) hsup (hbl.keeps kk1) ((hb2 _ (by decide)).trans (by decide +kernel : bootBuiltins "super" = some (.type "super"))) ⟨rfl, ?_⟩)
  refine wpAny_loadName_free rfl bad_class rfl ⟨_, X1 _ _ hcell, rfl⟩ ?_
  refine wpAny_loadName_local rfl bad_self hns rfl ?_
  refine PySem.ks_wpAny_isType_cls (X1 _ _ hC) rfl ⟨rfl, ?_⟩
  refine PySem.ks_wpAny_call_super (X1 _ _ hC) rfl (hk₁ _ _ he0) rfl (fun c z => nomatch z) (PySem.W.looks_mroIn X1 B.self) (fun h2 hso k2 => ?_)
  obtain ⟨F2, N2, l2⟩ := PySem.W.ks_newsPush (s := ⟨h₀, g, dr, tk + 2, os⟩) F1 N1 rfl hso k2
  refine PySem.W.kxs_method PySem.W.kxs_ValueError F2 XK N2 List.mem_cons_self (ox := PySem.W.excObj C hp.objs.size none .none) (odx := none) ⟨k2 _ _ (hk₁ _ _ he0), rfl, rfl, trivial⟩ B.any B.sup B.below (by decide) fun qq h3 F3 N3 l3 => ?_
  have hqe : qq ≠ hp.objs.size + 1 := Nat.ne_of_gt (l3 _ (List.mem_cons_of_mem _ List.mem_cons_self))
  have hse : h₀.objs.size ≠ hp.objs.size + 1 := Nat.ne_of_gt (l2 _ List.mem_cons_self)
  refine PySem.W.kxs_callWith1 N3 List.mem_cons_self (Calls.spliced_cons (Calls.Constant_str (k := 0) (pos := ⟨0, 0, 0, 0⟩) (Calls.spliced_nil ⟨PySem.W.kxs_at N3 List.mem_cons_self, ?_⟩)))
  have U : PySem.W.UpdF (hp.objs.size + 1) (PySem.W.excObj C hp.objs.size none .none)
      [(qq, PySem.W.kxs_mw "ValueError.__init__" (hp.objs.size + 1)), (h₀.objs.size, PySem.W.ks_superObj C (hp.objs.size + 1) C), (hp.objs.size + 1, PySem.W.excObj C hp.objs.size none .none), (hp.objs.size, PySem.W.excTup [u0])]
      (fun o' => [(qq, PySem.W.kxs_mw "ValueError.__init__" (hp.objs.size + 1)), (h₀.objs.size, PySem.W.ks_superObj C (hp.objs.size + 1) C), (hp.objs.size + 1, o'), (hp.objs.size, PySem.W.excTup [u0])]) := .tail hqe (.tail hse (.head fun p hp' => by
    rw [List.mem_singleton.mp hp']
    exact Nat.ne_of_lt (Nat.lt_succ_self _)))
  refine PySem.W.kxs_call F3 XK N3 FB hexc List.mem_cons_self U (by show 1 ≤ sizeLine; decide) fun t4 h4 F4 N4 l4 => ?_
  have he4 : h4.get? (hp.objs.size + 1) = some (PySem.W.excObj C t4 none .none) := (N4 _ (List.mem_cons_of_mem _ (List.mem_cons_of_mem _ (List.mem_cons_of_mem _ List.mem_cons_self)))).1
  have X4 : X.K.In h4 := XK.keeps F4.keep
  refine PySem.ks_wpAt_execs_cons (wpAt_of_wpAny (plainObj_wpAny_Assign_Attribute ?_))
  refine ESX.ldL F4.ns rfl ?_ rfl bad_place
  refine ESX.ldL F4.ns rfl ?_ rfl bad_self
  refine PySem.W.set_plain X4 (ox := { cls := .ref C, dict := none, data := .fields #[.ref t4, .none, .none, .none, .bool false, .none] }) (od := none) ⟨he4, rfl, rfl, trivial⟩ B.T.sa ?_
  refine PySem.HandSPX.exc_osa X4 he4 hcl (show PySem.HandSPX.refsVE (.ref C :: bm) = true from hbm) rfl B.no (fun h5 tk5 dx k5 dn dne hx hn => ?_)
  refine wpAt_of_wpAny (wpAny_execs_nil ?_)
  show PySem.W.InitBack _ _ _ _
  refine ⟨rfl, ?_⟩
  have ltp : ∀ {b : Addr} {o : Obj}, hp.get? b = some o → b < hp.objs.size := fun z => Heap.lt_size z
  have hz4 : hp.objs.size ≤ h4.objs.size := Nat.le_trans (Nat.le_succ _) (Nat.le_of_lt (Heap.lt_size he4))
  have hdx : hp.objs.size ≤ dx := Nat.le_trans hz4 dn
  obtain ⟨G, g1', g2'⟩ := restrict h5 fun b => decide (b ≠ hp.objs.size + 1)
  have gk : ∀ b, b ≠ hp.objs.size + 1 → G.get? b = h5.get? b := fun b hb => g1' b (decide_eq_true hb)
  have ge : G.get? (hp.objs.size + 1) = none := g2' _ (by simp)
  have J : L2.Inv X pins σ (upd H1 dx (.xd [("place", y)])) ⟨G, g, dr, tk5, os⟩ := I1.laid (t' := tk5) (a := dx) (o := .xd [("place", y)]) (h' := G) (fun b o z => by
      have hb : b ≠ hp.objs.size + 1 := Nat.ne_of_lt (Nat.lt_succ_of_lt (ltp z))
      rw [gk b hb]
      exact k5 b o hb (F4.keep b o z)) hdx
    ⟨_, hn.at fun o z => (gk dx dne).trans z, relO_put (fs := []) ry fun g => True.intro⟩
  refine ⟨hp.objs.size + 1, _, _, ⟨G, g, dr, tk5, os⟩, _, .ref C, some dx, rfl, J, fun b o z => ?_, ge, hx, ⟨rfl, rfl⟩, rfl, rfl, ?_, rfl, I1.bare, raises_own B.T.exC B.T.tyC, q1 dx (I1.hok.fresh hdx)⟩
  · by_cases hb : b = hp.objs.size + 1
    · rw [hb, ge] at z
      cases z
    · exact (gk b hb).symm.trans z
  · rw [upd_ne (Ne.symm dne)]
    exact I1.hok.fresh (Nat.le_succ _)
end
end NW
set_option Elab.async false
set_option linter.all false
set_option maxRecDepth 100000
set_option maxHeartbeats 4000000
/-! Statements by what is wanted behind them (E) from a heap H0 on: defs that raise, objects that are being made. -/
namespace NW
open PySem PySem.Spec PyProof.Rows L2 DL

def Rn (u : TS) (E : Ends) (hid : Hid) (H0 : Hp) (ρ : DL.Env) : Prop := ∀ (H : Hp) (σ : L2.St), Ex H0 H → Occ hid H → EnvAt hid H σ ρ → u E σ H
/-- what a way on asks -/
def On (q : L2.St → Hp → Prop) (hid : Hid) (H0 : Hp) (ρ : DL.Env) : Prop := ∀ (H : Hp) (σ : L2.St), Ex H0 H → Occ hid H → EnvAt hid H σ ρ → q σ H
section
variable {E : Ends} {hid : Hid} {H0 : Hp} {ρ ρ' : DL.Env} {t u : TS} {tt : TT} {a : Bool}
theorem rn_of (h : Sm Mo.emp t () ρ { nx := fun _ ρ' => On E.nx hid H0 ρ', rt := fun _ d => ∀ v H, Ex H0 H → Occ hid H → ValAt hid H d v → E.rt v H, bk := fun _ ρ' => On E.bk hid H0 ρ', ct := fun _ ρ' => On E.ct hid H0 ρ' }) : Rn t E hid H0 ρ := fun H σ ex o e => by
  have exs : ∀ {hid' : Hid} {H' : Hp}, Stp (fun _ => False) hid H hid' H' → Ex H H' := fun {hid' H'} s y u hy => by
    by_cases hh : hid y
    · rw [s.kfr y hh]; exact hy
    · exact (s.le y u (fun q => q.elim False.elim hh) hy).2
  exact h (fun _ => False) hid H σ E ⟨fun _ q => q, o, fun _ _ q => q⟩ (e.le (.less fun a q => q.elim False.elim id))
    (fun σ' hid' H' b' ρ' w s e' p => p H' σ' (ex.trans (exs s)) w.ofr (e'.le (.less fun a q => .inr q)))
    (fun σ' hid' H' b' ρ' w s e' p => p H' σ' (ex.trans (exs s)) w.ofr (e'.le (.less fun a q => .inr q)))
    (fun σ' hid' H' b' ρ' w s e' p => p H' σ' (ex.trans (exs s)) w.ofr (e'.le (.less fun a q => .inr q)))
    (fun v hid' H' b' d w s av p => p v H' (ex.trans (exs s)) w.ofr (av.le (.less fun a q => .inr q)))
theorem rn_seq (h : Rn t { E with nx := u E } hid H0 ρ) : Rn (tSeq t u) E hid H0 ρ := fun H σ ex o e => h H σ ex o e
theorem rn_next (h : On E.nx hid H0 ρ) : Rn tNext E hid H0 ρ := fun H σ ex o e => h H σ ex o e
theorem rn_if (h : EvT tt ρ a) (h1 : a = true → Rn t E hid H0 ρ) (h2 : a = false → Rn u E hid H0 ρ) : Rn (tIfS tt t u) E hid H0 ρ := fun H σ ex o e =>
  h hid H σ o e _ fun H1 e1 => by
    cases a with
    | true => exact iteT (h1 rfl H1 σ (ex.trans e1) (o.ex e1) (e.ex e1))
    | false => exact iteF (h2 rfl H1 σ (ex.trans e1) (o.ex e1) (e.ex e1))
theorem rn_set {te : TE} {i : Nat} {d : D} (h : Ev te ρ d) (k : On E.nx hid H0 (ρ.set i (some d))) : Rn (tAsg te (gName i)) E hid H0 ρ := fun H σ ex o e =>
  h hid H σ o e _ fun v H1 e1 av => k H1 _ (ex.trans e1) (o.ex e1) ((e.ex e1).set i av)
theorem rn_ret {te : TE} {d : D} (h : Ev te ρ d) (k : ∀ v H, Ex H0 H → Occ hid H → ValAt hid H d v → E.rt v H) : Rn (tRet te) E hid H0 ρ := fun H σ ex o e =>
  h hid H σ o e _ fun v H1 e1 av => k v H1 (ex.trans e1) (o.ex e1) av
theorem rn_drop {te : TE} {d : D} (h : Ev te ρ d) (k : On E.nx hid H0 ρ) : Rn (tDrop te) E hid H0 ρ := fun H σ ex o e =>
  h hid H σ o e _ fun v H1 e1 av => k H1 _ (ex.trans e1) (o.ex e1) (e.ex e1)
/-- raise BadMaker(e) -/
theorem rn_raise {te : TE} {C : Addr} {f : PySem.Str} {W : WX} {p : PyData} (h : Ev te ρ (.p p)) (k : ∀ v H d σ, Ex H0 H → Occ hid H → At hid H p v → H d = none → W (.ref C) (some d) σ (upd H d (.xd [(f, v)]))) :
    Rn (fun _ σ H => tMkB C f (tCons te tNil) σ H fun cls d H' => W cls d σ H') E hid H0 ρ := fun H σ ex o e =>
  h hid H σ o e _ fun v H1 e1 av => ⟨v, rfl, fun d hd => k v H1 d σ (ex.trans e1) (o.ex e1) av hd⟩
theorem rn_for {w : TI} {g : TG} {sl : List Nat} {tb : TS} {xs : List PyData} (Pv : Nat → DL.Env → Prop) (hi : EvI w ρ xs) (h0 : Pv 0 ρ)
    (hs : ∀ i d ρ', xs[i]? = some d → Pv i ρ' → ∃ ρ'', EvG g sl d ρ' ρ'' ∧ ∀ (H1 : Hp) (N : L2.St → Hp → Prop), Ex H0 H1 → (∀ ρ3, Pv (i + 1) ρ3 → On N hid H1 ρ3) → Rn tb { E with nx := N, ct := N, bk := E.nx } hid H1 ρ'')
    (hd : ∀ ρ', Pv xs.length ρ' → On E.nx hid H0 ρ') : Rn (tFor w g tb) E hid H0 ρ := fun H σ ex o e =>
  hi hid H σ o e _ fun J H1 e1 wk => by
    refine ⟨fun i m σ' H' => m = xs.length - i ∧ i ≤ xs.length ∧ Ex H1 H' ∧ ∃ ρ', Occ hid H' ∧ EnvAt hid H' σ' ρ' ∧ Pv i ρ', ⟨_, rfl, Nat.zero_le _, Same.refl _, ρ, o.ex e1, e.ex e1, h0⟩, ?_⟩
    rintro i m σ' H' ⟨rfl, hle, ex', ρ', o', e', p⟩
    obtain ⟨go, stop, yld⟩ := wk hid H' (.of_ex ex') o'
    by_cases hlt : i < xs.length
    · refine .inr ⟨go i hlt, fun σ2 H2 => Ex H1 H2 ∧ ∃ ρ2, Occ hid H2 ∧ EnvAt hid H2 σ2 ρ2 ∧ Pv (i + 1) ρ2, fun σ2 H2 h2 => ⟨xs.length - (i + 1), by omega, rfl, hlt, h2⟩, fun x H2 y => ?_⟩
      obtain ⟨d, ed, e2, ad⟩ := yld i x H2 hlt y
      obtain ⟨ρ'', hg, hb⟩ := hs i d ρ' ed p
      refine hg hid H2 σ' x (e'.ex e2) ad _ fun σ2 E2 _ => ?_
      exact hb H1 _ (ex.trans e1) (fun ρ3 p3 H3 σ3 ex3 o3 e3 => ⟨ex3, ρ3, o3, e3, p3⟩) H2 σ2 (ex'.trans e2) (o'.ex e2) E2
    · have hi : i = xs.length := by omega
      subst hi
      exact .inl ⟨stop _ (Nat.le_refl _), hd ρ' p H' σ' (ex.trans (e1.trans ex')) o' e'⟩
/-! one by one -/
theorem rq_drop {te : TE} {d : D} (h : Ev te ρ d) (k : Rn u E hid H0 ρ) : Rn (tSeq (tDrop te) u) E hid H0 ρ := rn_seq (rn_drop h k)
theorem rq_set {te : TE} {i : Nat} {d : D} (h : Ev te ρ d) (k : Rn u E hid H0 (ρ.set i (some d))) : Rn (tSeq (tAsg te (gName i)) u) E hid H0 ρ := rn_seq (rn_set h k)
theorem rq_not (h : EvT tt ρ false) (k : Rn u E hid H0 ρ) : Rn (tSeq (tIfS tt t tNext) u) E hid H0 ρ := rn_seq (rn_if (a := false) h (fun q => nomatch q) fun _ => k)
theorem rq_of (h : Sm Mo.emp t () ρ { nx := fun _ ρ' => Rn u E hid H0 ρ' }) : Rn (tSeq t u) E hid H0 ρ := rn_seq (rn_of (by
  intro hid1 fr H σ D w e qn qb qc qr
  exact h hid1 fr H σ D w e qn (fun _ _ _ _ _ _ _ _ p => p.elim) (fun _ _ _ _ _ _ _ _ p => p.elim) (fun _ _ _ _ _ _ _ _ p => p.elim)))
end
/-! ### objects that are being made, and told of -/
theorem ev_fld {K : PySem.W.Frag} {ρ : DL.Env} {ta : TE} {C : Addr} {fs : List (PySem.Str × PyData)} {f : PySem.Str} {d : PyData} (hc : Cls K C) (hn : NoAttr K C f) (h : Ev ta ρ (.ins C fs)) (hl : fs.lookup f = some d) : Ev (tFld K ta f) ρ (.p d) := fun hid H σ o E Q q => h hid H σ o E _ fun v H1 e1 a => by
  obtain ⟨x, dx, ws, rfl, n, hx, hk, hv⟩ := a
  have key : ∀ {fs : List (PySem.Str × PyData)} {ws : List (PySem.Str × V)}, ws.map (·.1) = fs.map (·.1) → AtL hid H1 (fs.map (·.2)) (ws.map (·.2)) → fs.lookup f = some d → ∃ v, ws.lookup f = some v ∧ At hid H1 d v := by
    intro fs
    induction fs with
    | nil =>
      intro ws _ _ h
      cases h
    | cons p r ih =>
      intro ws hk hv h
      cases ws with
      | nil => cases hk
      | cons q s =>
        rw [List.map_cons, List.map_cons] at hk
        injection hk with h1 h2
        rw [List.map_cons, List.map_cons] at hv
        cases hv with
        | cons a rest =>
          obtain ⟨g, x⟩ := p
          obtain ⟨g', x'⟩ := q
          cases h1
          by_cases hg : f = g
          · subst hg
            rw [List.lookup_cons_self] at h
            cases h
            exact ⟨x', List.lookup_cons_self, a⟩
          · have e : (f == g) = false := by simpa using hg
            simp only [List.lookup, e] at h ⊢
            exact ih h2 rest h
  obtain ⟨v, hv1, hv2⟩ := key hk hv hl
  exact ⟨x, C, dx, ws, v, rfl, hx, hc, hn, hv1, q v H1 e1 hv2⟩
/-- C(..), whose own __init__ keeps a promise of the form below: two fields are laid -/
def spInit2 (C : Addr) (g : List D → PyData → PyData → Prop) (f1 f2 : PySem.Str) : Sp := fun vs H Q _ => ∃ (hid : Hid) (ds : List D) (p1 p2 : PyData) (a dx : Addr) (us : List V), vs = .ref a :: us ∧ Occ hid H ∧ hid a ∧ H a = some (.ins C dx []) ∧ ValsAt hid H ds us ∧ g ds p1 p2 ∧
  ∀ H1 v1 v2, Ex H H1 → At hid H1 p1 v1 → At hid H1 p2 v2 → Q .non (upd H1 a (.ins C dx [(f1, v1), (f2, v2)]))
theorem ev_make2 {ρ : DL.Env} {g : List D → PyData → PyData → Prop} {f1 f2 : PySem.Str} {C : Addr} {E : XK} {ta : TA} {ds : List D} {p1 p2 : PyData} (h : EvA ta ρ ds) (e : g ds p1 p2) :
    Ev (tMake C (spInit2 C g f1 f2) [] E ta) ρ (.ins C [(f1, p1), (f2, p2)]) := fun hid H σ o En Q q =>
  h hid H σ o En _ fun vs H1 e1 av x dx hx hdx hne => by
    have o1 := o.ex e1
    have nx : ¬ hid x := o1.new hx
    have nd : ¬ hid dx := o1.new hdx
    have ex2 : Ex H1 (upd (upd H1 dx (.own x)) x (.ins C dx [])) := fun b u hb => by
      rw [upd_ne (ne_of_none hb hx), upd_ne (ne_of_none hb hdx)]
      exact hb
    have le2 : Le hid H1 (fun b => hid b ∨ b = x) (upd (upd H1 dx (.own x)) x (.ins C dx [])) := fun b u n hb => ⟨fun z => z.elim n fun z => ne_of_none hb hx z, ex2 b u hb⟩
    show spInit2 C g f1 f2 (.ref x :: (vs ++ [])) _ _ _
    rw [List.append_nil]
    refine ⟨fun b => hid b ∨ b = x, ds, p1, p2, x, dx, vs, rfl, fun b hb => ?_, .inr rfl, upd_same, av.le le2, e, fun H3 v1 v2 e3 a1 a2 => ⟨rfl, ?_⟩⟩
    · rcases hb with hb | hb
      · exact o1.ex ex2 b hb
      · rw [hb, upd_same]
        exact fun z => nomatch z
    · have le3 : Le (fun b => hid b ∨ b = x) H3 hid (upd H3 x (.ins C dx [(f1, v1), (f2, v2)])) := fun b u n hb => ⟨fun z => n (.inl z), by
        rw [upd_ne fun z => n (.inr z)]
        exact hb⟩
      refine q (.ref x) _ (e1.trans ?_) ⟨x, dx, _, rfl, nx, upd_same, rfl, .cons (a1.le le3) (.cons (a2.le le3) .nil)⟩
      intro b u hb
      rw [upd_ne (ne_of_none hb hx)]
      exact e3 b u (ex2 b u hb)
/-- self.f1 = e1; self.f2 = e2 at the end of __init__ -/
theorem rn_two {K : PySem.W.Frag} {hid : Hid} {H0 : Hp} {ρ : DL.Env} {E : Ends} {i : Nat} {t1 t2 : TE} {f1 f2 : PySem.Str} {p1 p2 : PyData} {a C dx : Addr} (hc : Cls K C) (n1 : NoAttr K C f1) (n2 : NoAttr K C f2) (hne : f1 ≠ f2) (ha : hid a) (h0 : H0 a = some (.ins C dx []))
    (hi : ρ[i]? = some (some (.v (.ref a)))) (h1 : Ev t1 ρ (.p p1)) (h2 : Ev t2 ρ (.p p2)) (q : ∀ H1 v1 v2 σ, Ex H0 H1 → At hid H1 p1 v1 → At hid H1 p2 v2 → E.nx σ (upd H1 a (.ins C dx [(f1, v1), (f2, v2)]))) :
    Rn (tSeq (sFld K (tVar i) t1 f1) (sFld K (tVar i) t2 f2)) E hid H0 ρ := fun H σ ex o e => by
  have self : ∀ {H : Hp}, EnvAt hid H σ ρ → σ[i]? = some (some (.ref a)) := fun {H} e => by
    obtain ⟨v, ev, hv⟩ := e.at_ i _ hi
    obtain rfl := hv
    exact ev
  refine h1 hid H σ o e _ fun v1 H1 e1 a1 => ⟨_, self e, a, C, dx, [], rfl, e1 a _ (ex a _ h0), hc, n1, by decide, ?_⟩
  show sFld K (tVar i) t2 f2 E σ (upd H1 a (.ins C dx [(f1, v1)]))
  have le1 : Le hid H1 hid (upd H1 a (.ins C dx [(f1, v1)])) := fun b u n hb => ⟨n, by
    rw [upd_ne fun z => n (by rw [z]; exact ha)]
    exact hb⟩
  have o1 : Occ hid (upd H1 a (.ins C dx [(f1, v1)])) := fun b hb => by
    by_cases z : b = a
    · rw [z, upd_same]
      exact fun q => nomatch q
    · rw [upd_ne z]
      exact o.ex e1 b hb
  refine h2 hid _ σ o1 ((e.ex e1).le le1) _ fun v2 H2 e2 a2 => ⟨_, self e, a, C, dx, _, rfl, e2 a _ upd_same, hc, n2, by show 1 < 1000; decide, ?_⟩
  have hput : putF f2 v2 [(f1, v1)] = [(f1, v1), (f2, v2)] := by
    show (if f1 = f2 then _ else _) = _
    rw [if_neg hne]
    rfl
  rw [hput]
  -- as if the object had been written once, upon a heap where it is still bare
  have key : upd H2 a (.ins C dx [(f1, v1), (f2, v2)]) = upd (upd H2 a (.ins C dx [])) a (.ins C dx [(f1, v1), (f2, v2)]) := by
    funext b
    by_cases z : b = a
    · rw [z, upd_same, upd_same]
    · rw [upd_ne z, upd_ne z, upd_ne z]
  rw [key]
  have lb : ∀ {H' : Hp}, Le hid H' hid (upd H2 a (.ins C dx [])) → True := fun _ => trivial
  have le2 : Le hid H2 hid (upd H2 a (.ins C dx [])) := fun b u n hb => ⟨n, by
    rw [upd_ne fun z => n (by rw [z]; exact ha)]
    exact hb⟩
  refine q _ v1 v2 σ (fun b u hb => ?_) ((((a1.le le1).ex e2).le le2)) (a2.le le2)
  by_cases z : b = a
  · rw [z, upd_same]
    rw [z, h0] at hb
    exact hb
  · rw [upd_ne z]
    refine e2 b u ?_
    rw [upd_ne z]
    exact e1 b u (ex b u hb)
end NW
set_option Elab.async false
set_option linter.all false
set_option maxRecDepth 100000
set_option maxHeartbeats 4000000
namespace SL
open PySem PySem.Spec PyProof.Rows L2 DL FM NW

abbrev G_Family : List D → PyData → PyData → Prop := fun ds p1 p2 => ∃ (l : List Str) (c : List Str → Int), ds = [.p (lotD l), .p (.list ((lots l).map fun a => .int (c a)))] ∧ (∀ z ∈ l, isWordS z = true) ∧ l.Pairwise ltS ∧ 1 ≤ l.length ∧ l.length ≤ 5 ∧
  (∀ r ∈ rulesL l, readR (lots l) r ∧ keptR c r = true) ∧ p1 = lotD l ∧ p2 = .tuple ((lots l).map fun a => .int (c a))
/-- what the written part says of the class Family -/
structure FamC (K : PySem.W.Frag) (mg : Str → Option Value) (C : Addr) : Prop where
  ex : ∃ (f : Addr) (fd : FuncData), mg "Family" = some (.ref C) ∧ Mk K C f ∧ Fun K "__init__" "Family.__init__" s_Family___init__ f fd
  cls : Cls K C
  n1 : NoAttr K C "things"
  n2 : NoAttr K C "counts"
structure CalF (P : Program) (w : World) (K : PySem.W.Frag) (mg : Str → Option Value) (base : Heap) (C : Addr) (k : Nat) : Prop where
  ex : ∃ (f : Addr) (fd : FuncData), mg "Family" = some (.ref C) ∧ Mk K C f ∧ Binds K fd ["self", "things", "counts"] [] ∧ FnOk P w K mg base CX0 k f fd ["self", "things", "counts"] (spInit2 C G_Family "things" "counts")
theorem pe_fam {X : Cx} {k : Nat} {C : Addr} {e : Expr} {es : List Expr} {t : TA} {p pos : Pos} (F : CalF X.prog X.w X.K X.mg X.base C k) (hr : Room (k + 1) X.A) (hg : Gl X "Family") (ha : PA X (e :: es) t)
    (he : starEach (e :: es) X.env = (false, eval e X.env) :: starEach es X.env := by rfl) (hpl : (backTo pos (starEach es X.env)).any (·.1) = false := by rfl) : PE X (.Call (.Name "Family" p) (e :: es) [] pos) (tMake C (spInit2 C G_Family "things" "counts") [] E0 t) := by
  obtain ⟨f, fd, hm, M, hb, G⟩ := F.ex
  exact pe_make M G hr hg hm hb .nil pass0 ha (by decide) he hpl

section
variable {P : Program} {w : World} {K : PySem.W.Frag} {mg : Str → Option Value} {base : Heap} {C : Addr}
abbrev N_Family___init__ : List Str := ["self", "things", "counts", "table", "name", "count"]
theorem sc_Family___init__ : FnScope N_Family___init__ ["self", "things", "counts"] (defScope s_Family___init__) := ⟨rfl, rfl, rfl, by decide +kernel, rfl, by decide +kernel, by decide +kernel⟩
theorem ok_Family (F : FamC K mg C) (T : Txt mg) (C_need_things : Cal P w K mg base "need_things" 3 ["thing"] (spD R_need_things)) (C_all_lots : Cal P w K mg base "all_lots" 1 ["things"] (spD R_all_lots)) (C_is_number : Cal P w K mg base "is_number" 1 ["thing"] (spD R_is_number))
    (C_table_of : Cal P w K mg base "table_of" 2 ["things", "counts"] (spD R_table_of)) (C_rules : Cal P w K mg base "rules" 4 ["things"] (spD R_rules)) (C_is_kept : Cal P w K mg base "is_kept" 2 ["table", "name"] (spD R_is_kept)) : CalF P w K mg base C 5 := by
  obtain ⟨f, fd, hm, M, Fn⟩ := F.ex
  refine ⟨f, fd, hm, M, Fn.binds (fun _ _ _ _ _ _ us hl => match us, hl with | [_, _, _], _ => rfl), Fn.ok sc_Family___init__ ?_ fun cdv A outer s H vs Q E hr h => ⟨_, (pss_cons (ps_expr (pe_cal C_need_things (hr.mono (by decide)) (by rfl) (pa_cons (pv 1) pa_nil)))
    (pss_cons (ps_if (PW.pt (pw_or (pt_not (pt_val (pe_callB (call_isiTK K) (by rfl) T.b_isinstance (by decide +kernel) (pa_cons (pv 2) (pa_cons (pe_tup (pa_cons (pe_bltn (v := .ty "list") (by rfl) T.b_list (by decide +kernel) rfl) (pa_cons (pe_bltn (v := .ty "tuple") (by rfl) T.b_tuple (by decide +kernel) rfl) pa_nil))) pa_nil))))) (pw_or1 (pt_cmpR op_ne (pe_callB (call_len_seqK K) (by rfl) T.b_len (by decide +kernel) (pa_cons (pv 2) pa_nil)) (pe_callB (call_len_seqK K) (by rfl) T.b_len (by decide +kernel) (pa_cons (pe_cal C_all_lots (hr.mono (by decide)) (by rfl) (pa_cons (pv 1) pa_nil)) pa_nil)) (nomark _))))) pss_never pss_nil)
    (pss_cons (ps_if (pt_not (pt_val (pe_callB (cr_allK K rfl) (by rfl) T.b_all (by decide +kernel) (pa_cons (pe_lc (own := [("count", 5)]) (g := (gName 5)) rfl sc_Family___init__.nd (pi_listK K (pv 2)) (blkOk_by (own := [("count", 5)]) (N := N_Family___init__) (sc := defScope s_Family___init__) (by decide +kernel)) (fun _ _ _ _ _ => (pg_name (i := 5) sc_Family___init__.nd rfl (by first | exact Or.inl rfl | exact Or.inr rfl))) (fun _ _ _ _ _ => pts_nil) (fun _ _ _ _ _ => (pe_cal C_is_number (hr.mono (by decide)) (by rfl) (pa_cons (pv 5) pa_nil)))) pa_nil)))) pss_never pss_nil)
    (pss_cons (ps_set (i := 3) sc_Family___init__.nd rfl (by first | exact Or.inl rfl | exact Or.inr rfl) (pe_cal C_table_of (hr.mono (by decide)) (by rfl) (pa_cons (pv 1) (pa_cons (pv 2) pa_nil))))
    (pss_cons (ps_for PassesOwn.never rfl (pi_tupK K (pe_cal C_rules (hr.mono (by decide)) (by rfl) (pa_cons (pv 1) pa_nil))) (pg_name (i := 4) sc_Family___init__.nd rfl (by first | exact Or.inl rfl | exact Or.inr rfl)) (pss_one (ps_if (pt_not (pt_val (pe_cal C_is_kept (hr.mono (by decide)) (by rfl) (pa_cons (pv 3) (pa_cons (pv 4) pa_nil))))) pss_never pss_nil)))
    (pss_cons (ps_fld (pv 0) (pv 1) rfl)
    (pss_one (ps_fld (pv 0) (pe_callTy (call_tuple_ofK K) (by rfl) T.b_tuple (by decide +kernel) (pa_cons (pv 2) pa_nil)) rfl)))))))), ?_⟩⟩
  · rintro vs H Q E ⟨hid, ds, p1, p2, a, dx, us, rfl, _, _, _, av, ⟨l, c, rfl, _⟩, _⟩
    have := av.length
    rw [List.length_cons, this]
    rfl
  · obtain ⟨hid, ds, p1, p2, a, dx, us, rfl, ho, ha, h0, av, ⟨l, c, rfl, hw, hp, h1, h5, hk, rfl, rfl⟩, q⟩ := h
    match us, av with
    | [vt, vc], .cons at_ (.cons ac .nil) =>
    have hll := lots_le h5
    have av' : EnvAt hid H (start N_Family___init__ [.ref a, vt, vc]) [some (.v (.ref a)), some (.p (lotD l)), some (.p (.list ((lots l).map fun a => .int (c a)))), none, none, none] :=
      start_at (N := N_Family___init__) (ds := [.v (.ref a), .p (lotD l), .p (.list ((lots l).map fun a => .int (c a)))]) (.cons rfl (.cons at_ (.cons ac .nil))) (by show 3 ≤ 6; decide)
    refine (?_ : Rn _ _ hid H [some (.v (.ref a)), some (.p (lotD l)), some (.p (.list ((lots l).map fun a => .int (c a)))), none, none, none]) H _ (Same.refl H) ho av'
    refine rq_drop (ev_call (ea_cons (ev_var rfl) ea_nil) ⟨l, rfl, hw, hp, h1, h5, rfl⟩) ?_
    refine rq_not (et_is (et_or (et_not (et_test (ev_cb (ea_cons (ev_var rfl) (ea_cons ev_tys ea_nil)) (rc_isiT2 (kit_list _) (kit_tup _))))) fun _ => et_test (ev_op (ev_cb (ea_cons (ev_var rfl) ea_nil) rc_lenL) (ev_cb (ea_cons (ev_call (ea_cons (ev_var rfl) ea_nil) ⟨l, rfl, h5, rfl⟩) ea_nil) rc_lenT) rv_neI)) ?_) ?_
    · rw [List.length_map, lotsD, List.length_map]
      simp [isListD]
    refine rq_not (et_is (et_not (et_test (ev_cb (ea_cons (ev_is (ev_lcM (cs := lots l) (φ := fun a => .int (c a)) (fun _ => .bool true) (ei_list (ev_var rfl)) (sl := [5]) (by decide) (by omega) fun b hb => ⟨_, eg_name, ev_call (ea_cons (ev_var rfl) ea_nil) ⟨_, rfl, rfl⟩⟩) ?_) ea_nil) (rc_all (bs := (lots l).map fun _ => true))))) ?_) ?_
    · rw [List.map_map]
      rfl
    · rw [List.all_map]
      have : ((lots l).all (id ∘ fun _ => true)) = true := List.all_eq_true.mpr fun _ _ => rfl
      rw [this]
      rfl
    refine rq_set (ev_call (ea_cons (ev_var rfl) (ea_cons (ev_var rfl) ea_nil)) ⟨l, c, rfl, h5, rfl⟩) ?_
    refine rq_of ?_
    refine sm_for (sl := [4]) (fun _ _ ρ => ∃ x, ρ = [some (.v (.ref a)), some (.p (lotD l)), some (.p (.list ((lots l).map fun a => .int (c a)))), some (.dt (tabL (lots l) c)), x, none]) (ei_tup (ev_call (ea_cons (ev_var rfl) ea_nil) ⟨l, rfl, h5, rfl⟩)) ⟨_, rfl⟩ ?_ ?_
    · rintro i d b' ρ' hd ⟨x, rfl⟩
      obtain ⟨r, hr', rfl⟩ := map_get hd
      obtain ⟨k1, k2⟩ := hk r (List.mem_of_getElem? hr')
      refine ⟨_, eg_name, ?_⟩
      refine sm_if (a := false) (et_is (et_not (et_test (a := keptR c r) (ev_call (ea_cons (ev_var rfl) (ea_cons (ev_var rfl) ea_nil)) ⟨lots l, c, r, rfl, k1, rfl⟩))) (by rw [k2]; rfl)) (fun q => by cases q) fun _ => sm_next ⟨_, rfl⟩
    · rintro b' ρ' ⟨x, rfl⟩
      refine rn_two F.cls F.n1 F.n2 (by decide) ha h0 rfl (ev_var rfl) (ev_cb (ea_cons (ev_var rfl) ea_nil) rc_tupL) fun H1 v1 v2 σ ex a1 a2 => q H1 v1 v2 ex a1 a2
end
end SL
set_option Elab.async false
set_option linter.all false
set_option maxRecDepth 100000
set_option maxHeartbeats 4000000
/-! What may be a list or a tuple. -/
namespace NW
open PySem PySem.Spec PyProof.Rows L2 DL SL

def iSeq (K : PySem.W.Frag) (tl : TE) : TI := fun σ H R => iList K tl σ H R ∨ iTup K tl σ H R
theorem pi_seqK (K : PySem.W.Frag) {X : Cx} {tg l : Expr} {tl : TE} (hl : PE X l tl) (h : X.K = K := by rfl) : PI X tg l (iSeq K tl) :=
  ⟨fun pins s σ H R I q => q.elim ((pi_listK K hl h).run pins s σ H R I) ((pi_tupK K hl h).run pins s σ H R I)⟩
def Seq (d : PyData) (xs : List PyData) : Prop := d = .list xs ∨ d = .tuple xs
theorem ei_seq {K : PySem.W.Frag} {ρ : DL.Env} {tl : TE} {xs : List PyData} {d : PyData} (hd : Seq d xs) (h : Ev tl ρ (.p d)) : EvI (iSeq K tl) ρ xs := fun hid H σ o E R q => by
  rcases hd with rfl | rfl
  · exact .inl (ei_list h hid H σ o E R q)
  · exact .inr (ei_tup h hid H σ o E R q)
def rSlQ (K : PySem.W.Frag) : V → Option Int → Option Int → Hp → VK → Prop := fun x lo hi H Q => rSlL K x lo hi H Q ∨ rSlA K x lo hi H Q
theorem sl_seqK (K : PySem.W.Frag) {X : Cx} (h : X.K = K := by rfl) : SlR X (rSlQ K) := SlR.or (sl_listK K h) (sl_tupAK K h)
theorem rs_seqL {K : PySem.W.Frag} {xs : List PyData} {lo hi : Option Int} : Rs (rSlQ K) (.p (.list xs)) lo hi (.p (.list (cutD xs lo hi))) := fun hid H u o a Q q => .inl (rs_list hid H u o a Q q)
theorem rs_seqT {K : PySem.W.Frag} {xs : List PyData} {lo hi : Option Int} : Rs (rSlQ K) (.p (.tuple xs)) lo hi (.p (.tuple (cutD xs lo hi))) := fun hid H u o a Q q => .inr (rs_tup hid H u o a Q q)
theorem rc_lenQ {K : PySem.W.Frag} {xs : List PyData} {d : PyData} (hd : Seq d xs) : Rc (fun xs H Q => ∃ p ys, xs = [.ref p] ∧ (SqL K H p ys ∨ SqT K H p ys) ∧ Q (.int ys.length) H) [.p d] (.p (.int (xs.length : Int))) := by
  rcases hd with rfl | rfl
  · exact rc_lenL
  · exact rc_lenT
end NW
set_option Elab.async false
set_option linter.all false
set_option maxRecDepth 100000
set_option maxHeartbeats 4000000
/-! The rank of a frame keeps the rules of a family. -/
namespace SL
open PySem PySem.Spec FM DL

def rkT (T : Str → Tie) (a : List Str) : Int := ((rk (fun p => p) (a.map T) : Nat) : Int)
theorem rkT_perm {T : Str → Tie} {a b : List Str} (p : a.Perm b) : rkT T a = rkT T b := by
  unfold rkT
  rw [rk_perm (p.map T)]
theorem rkT_snoc (T : Str → Tie) (a : List Str) (x : Str) : rkT T (a ++ [x]) = rkT T a + (if after (fun p => p) (a.map T) (T x).1 = after (fun p => p) (a.map T) (T x).2 then 0 else 1) := by
  unfold rkT
  rw [List.map_append, rk_append]
  show ((_ + rk _ [T x] : Nat) : Int) = _
  rw [rk_one]
  split <;> simp
theorem rkT_pair (T : Str → Tie) (a : List Str) (x y : Str) : rkT T a + rkT T ((a ++ [x]) ++ [y]) ≤ rkT T (a ++ [x]) + rkT T (a ++ [y]) := by
  have e : after (fun p => p) ((a ++ [x]).map T) = merge (after (fun p => p) (a.map T)) (T x).1 (T x).2 := by
    rw [List.map_append, after_append]
    rfl
  rw [rkT_snoc T (a ++ [x]) y, rkT_snoc T a y, e]
  generalize after (fun p => p) (a.map T) = g
  by_cases h : g (T y).1 = g (T y).2
  · have : merge g (T x).1 (T x).2 (T y).1 = merge g (T x).1 (T x).2 (T y).2 := (merge_iff _ _ _ _ _).mpr (.inl h)
    rw [if_pos this, if_pos h]
    omega
  · rw [if_neg h]
    split <;> omega
section
variable {l : List Str}
theorem lot_sorted (hl : l.Pairwise ltS) {a : List Str} (h : a ∈ lots l) : a.Pairwise ltS := hl.sublist (mem_lots.mp h)
theorem sorted_lot (hl : l.Pairwise ltS) {a : List Str} (h1 : a.Pairwise ltS) (h2 : ∀ x ∈ a, x ∈ l) : a ∈ lots l := mem_lots.mpr (sub_of_sorted ltS_sto hl h1 h2)
theorem join_perm {a : List Str} {x : Str} (hx : x ∉ a) : (joinS a [x]).Perm (a ++ [x]) := by
  unfold joinS
  have : [x].filter (fun y => !decide (y ∈ a)) = [x] := by simp [hx]
  rw [this]
  exact sortS_perm _
theorem join_lot (hl : l.Pairwise ltS) {a : List Str} {x : Str} (ha : a ∈ lots l) (hx : x ∈ l) (hn : x ∉ a) : joinS a [x] ∈ lots l := by
  refine sorted_lot hl ?_ fun y hy => ?_
  · unfold joinS
    have : [x].filter (fun y => !decide (y ∈ a)) = [x] := by simp [hn]
    rw [this]
    refine sortS_strict ?_
    have := nodup_of_sorted ltS_sto (lot_sorted hl ha)
    rw [List.nodup_append]
    refine ⟨this, by simp, fun y hy z hz e => ?_⟩
    rw [List.mem_singleton] at hz
    subst hz
    subst e
    exact hn hy
  · rcases List.mem_append.mp ((join_perm hn).mem_iff.mp hy) with h | h
    · exact (mem_lots.mp ha).subset h
    · rw [List.mem_singleton.mp h]
      exact hx
theorem step_mem {a : List Str} {x : Str} (h : (a, x) ∈ stepsL l) : a ∈ lots l ∧ x ∈ l ∧ x ∉ a := by
  unfold stepsL at h
  obtain ⟨b, hb, h⟩ := List.mem_flatMap.mp h
  obtain ⟨y, hy, e⟩ := List.mem_map.mp h
  cases e
  obtain ⟨h1, h2⟩ := List.mem_filter.mp hy
  exact ⟨hb, h1, by simpa using h2⟩
theorem fam_rules (T : Str → Tie) (hl : l.Pairwise ltS) (h5 : l.length ≤ 5) : ∀ r ∈ rulesL l, readR (lots l) r ∧ keptR (rkT T) r = true := fun r hr => by
  have short : ∀ {a : List Str}, a ∈ lots l → a.length < 40 := fun ha => by
    have := (mem_lots.mp ha).length_le
    omega
  have st : ∀ {a : List Str} {x : Str}, x ∉ a → rkT T a ≤ rkT T (joinS a [x]) ∧ rkT T (joinS a [x]) ≤ rkT T a + 1 := fun {a x} hn => by
    rw [rkT_perm (join_perm hn), rkT_snoc]
    split <;> omega
  rcases List.mem_append.mp (show r ∈ (Rule.none :: (stepsL l).map fun p => Rule.step p.1 p.2) ++ (cornersL l).map fun p => Rule.pair p.1 p.2.1 p.2.2 from hr) with h | h
  · rcases List.mem_cons.mp h with rfl | h
    · exact ⟨mem_lots.mpr (List.nil_sublist l), rfl⟩
    · obtain ⟨⟨a, x⟩, hp, rfl⟩ := List.mem_map.mp h
      obtain ⟨h1, h2, h3⟩ := step_mem hp
      obtain ⟨k1, k2⟩ := st h3
      refine ⟨⟨short h1, h1, join_lot hl h1 h2 h3⟩, ?_⟩
      show (decide _ && decide _) = true
      rw [decide_eq_true k1, decide_eq_true k2]
      rfl
  · obtain ⟨⟨a1, x1, y1⟩, hp, rfl⟩ := List.mem_map.mp h
    unfold cornersL at hp
    obtain ⟨⟨a, x⟩, hs, hp⟩ := List.mem_flatMap.mp hp
    obtain ⟨y, hy, e⟩ := List.mem_map.mp hp
    obtain ⟨rfl, rfl, rfl⟩ : a = a1 ∧ x = x1 ∧ y = y1 := by
      cases e
      exact ⟨rfl, rfl, rfl⟩
    obtain ⟨h1, h2, h3⟩ := step_mem hs
    obtain ⟨hy, hlt⟩ := List.mem_filter.mp hy
    obtain ⟨hy1, hy2⟩ := List.mem_filter.mp hy
    have hya : y ∉ a := by simpa using hy2
    have hlt' : ltS x y := of_decide_eq_true hlt
    have hxy : y ≠ x := fun e => by
      subst e
      exact ltS_sto.irr _ hlt'
    have hyj : y ∉ joinS a [x] := fun m => by
      rcases List.mem_append.mp ((join_perm h3).mem_iff.mp m) with m | m
      · exact hya m
      · exact hxy (List.mem_singleton.mp m)
    have j1 := join_lot hl h1 h2 h3
    refine ⟨⟨short h1, h1, j1, join_lot hl h1 hy1 hya, join_lot hl j1 hy1 hyj⟩, ?_⟩
    show decide _ = true
    refine decide_eq_true ?_
    have e1 : rkT T (joinS (joinS a [x]) [y]) = rkT T ((a ++ [x]) ++ [y]) := rkT_perm ((join_perm hyj).trans ((join_perm h3).append_right [y]))
    have e2 := rkT_perm (T := T) (join_perm h3)
    have e3 := rkT_perm (T := T) (join_perm hya)
    have := rkT_pair T a x y
    show rkT T a + rkT T (joinS (joinS a [x]) [y]) ≤ rkT T (joinS a [x]) + rkT T (joinS a [y])
    rw [e1, e2, e3]
    exact this
end
end SL
set_option Elab.async false
set_option linter.all false
set_option maxRecDepth 100000
set_option maxHeartbeats 4000000
namespace SL
open PySem PySem.Spec PyProof.Rows L2 DL FM NW

def rowOf (rows : List (Str × Int × Int)) (x : Str) : Str × Int × Int := (rows.find? fun r => decide (r.1 = x)).getD (x, 0, 0)
def tieOf (rows : List (Str × Int × Int)) (x : Str) : Tie := (rowOf rows x).2
def namesL (rows : List (Str × Int × Int)) : List Str := sortS (rows.map (·.1))
def famD (rows : List (Str × Int × Int)) : List (Str × PyData) := [("things", lotD (namesL rows)), ("counts", .tuple ((lots (namesL rows)).map fun a => .int (rkT (tieOf rows) a)))]
/-- a frame that is taken -/
structure Frame (x : PyData) (rows : List (Str × Int × Int)) : Prop where
  sq : Seq x (rows.map rowD)
  nd : (rows.map (·.1)).Nodup
  wd : ∀ r ∈ rows, isWordS r.1 = true
  l1 : 1 ≤ rows.length
  l5 : rows.length ≤ 5
abbrev R_counted (C ftc : Addr) : List D → D → Prop := fun ds d => ∃ (x : PyData) (rows : List (Str × Int × Int)), ds = [.p x, .v (.ref ftc)] ∧ Frame x rows ∧ d = .ins C (famD rows)
theorem rowOf_mem {rows : List (Str × Int × Int)} {x : Str} (h : x ∈ rows.map (·.1)) : rowOf rows x ∈ rows ∧ (rowOf rows x).1 = x := by
  unfold rowOf
  cases hf : rows.find? fun r => decide (r.1 = x) with
  | none =>
    obtain ⟨r, hr, e⟩ := List.mem_map.mp h
    have := List.find?_eq_none.mp hf r hr
    simp [e] at this
  | some r =>
    have h2 := List.find?_some hf
    exact ⟨List.mem_of_find?_eq_some hf, of_decide_eq_true h2⟩
theorem eq_of_name {rows : List (Str × Int × Int)} (nd : (rows.map (·.1)).Nodup) {r s : Str × Int × Int} (hr : r ∈ rows) (hs : s ∈ rows) (h : r.1 = s.1) : r = s := by
  induction rows with
  | nil => cases hr
  | cons a t ih =>
    rw [List.map_cons, List.nodup_cons] at nd
    rcases List.mem_cons.mp hr with e1 | h1
    · rcases List.mem_cons.mp hs with e2 | h2
      · rw [e1, e2]
      · exact absurd (List.mem_map.mpr ⟨s, h2, by rw [← h, e1]⟩) nd.1
    · rcases List.mem_cons.mp hs with e2 | h2
      · exact absurd (List.mem_map.mpr ⟨r, h1, by rw [h, e2]⟩) nd.1
      · exact ih nd.2 h1 h2
theorem names_mem {rows : List (Str × Int × Int)} {x : Str} : x ∈ namesL rows ↔ x ∈ rows.map (·.1) := (sortS_perm _).mem_iff
theorem names_len (rows : List (Str × Int × Int)) : (namesL rows).length = rows.length := by
  unfold namesL
  rw [(sortS_perm _).length_eq, List.length_map]
def rowTab (rows : List (Str × Int × Int)) : List (Key × PyData) := rows.foldl (fun acc r => putD acc (.inr r.1 : Key) (rowD r)) []
theorem rowTab_val {rows : List (Str × Int × Int)} (nd : (rows.map (·.1)).Nodup) {x : Str} (h : x ∈ rows.map (·.1)) : valD (rowTab rows) (.inr x : Key) = some (rowD (rowOf rows x)) := by
  obtain ⟨h1, h2⟩ := rowOf_mem h
  refine valD_of (foldl_keys.mpr (.inr ?_)) fun kv hm hk => ?_
  · obtain ⟨r, hr, rfl⟩ := List.mem_map.mp h
    exact List.mem_map.mpr ⟨r, hr, rfl⟩
  · obtain ⟨r, hr, rfl⟩ := foldl_all (Q := fun kv : Key × PyData => ∃ r ∈ rows, kv = ((.inr r.1 : Key), rowD r)) (kf := fun r : Str × Int × Int => (.inr r.1 : Key)) (v := rowD) (acc := []) (l := rows) (fun kv h => nomatch h) (fun r hr => ⟨r, hr, rfl⟩) kv hm
    have e : r.1 = x := Sum.inr.inj hk
    rw [eq_of_name nd hr h1 (e.trans h2.symm)]

section
variable {P : Program} {w : World} {K : PySem.W.Frag} {mg : Str → Option Value} {base : Heap} {C : Addr}
abbrev N_counted : List Str := ["rows", "count", "things", "table", "row", "lot", "word"]
theorem sc_counted : FnScope N_counted ["rows", "count"] (defScope s_counted) := ⟨rfl, rfl, rfl, by decide +kernel, rfl, by decide +kernel, by decide +kernel⟩
theorem ok_counted (h : Has K mg "counted" s_counted) (T : Txt mg) (C_all_lots : Cal P w K mg base "all_lots" 1 ["things"] (spD R_all_lots)) (C_Family : CalF P w K mg base C 5) {ftc : Addr} {fdtc : FuncData} (k_count : PySem.W.keepIn K (.ref ftc) = true) (b_count : Binds K fdtc ["ties"] [])
    (F_count : FnOk P w K mg base CX0 1 ftc fdtc ["ties"] (spD R_tie_count)) : Cal P w K mg base "counted" 7 ["rows", "count"] (spD (R_counted C ftc)) := by
  refine cal_of h sc_counted (fun _ _ _ _ _ _ us hl => match us, hl with | [_, _], _ => rfl) (by rintro _ _ ⟨x, y, rfl, _⟩; rfl) (by decide) fun f cdv A outer s H E hr => ?_
  have hu := hu_of hr
  refine ⟨_, (pss_cons (ps_set (i := 2) sc_counted.nd rfl (by first | exact Or.inl rfl | exact Or.inr rfl) (pe_callTy (call_tuple_ofK K) (by rfl) T.b_tuple (by decide +kernel) (pa_cons (pe_callB (cr_sortedSK K) (by rfl) T.b_sorted (by decide +kernel) (pa_cons (pe_lc (own := [("row", 4)]) (g := (gName 4)) rfl sc_counted.nd (pi_seqK K (pv 0)) (blkOk_by (own := [("row", 4)]) (N := N_counted) (sc := defScope s_counted) (by decide +kernel)) (fun _ _ _ _ _ => (pg_name (i := 4) sc_counted.nd rfl (by first | exact Or.inl rfl | exact Or.inr rfl))) (fun _ _ _ _ _ => pts_nil) (fun _ _ _ _ _ => (pe_ix (ix_tupK K) (pv 4) pe_int (fun _ _ => rfl)))) pa_nil)) pa_nil)))
    (pss_cons (ps_set (i := 3) sc_counted.nd rfl (by first | exact Or.inl rfl | exact Or.inr rfl) (pe_dc (own := [("row", 4)]) (g := (gName 4)) rfl sc_counted.nd (pi_seqK K (pv 0)) (blkOk_by (own := [("row", 4)]) (N := N_counted) (sc := defScope s_counted) (by decide +kernel)) (fun _ _ _ _ _ => (pg_name (i := 4) sc_counted.nd rfl (by first | exact Or.inl rfl | exact Or.inr rfl))) (fun _ _ _ _ _ => pts_nil) (fun _ _ _ _ _ => (pe_ix (ix_tupK K) (pv 4) pe_int (fun _ _ => rfl))) (fun _ _ _ _ _ => (pv 4))))
    (pss_one (ps_ret (pe_fam C_Family (hr.mono (by decide)) (by rfl) (pa_cons (pv 2) (pa_cons (pe_lc (own := [("lot", 5)]) (g := (gName 5)) rfl sc_counted.nd (pi_tupK K (pe_cal C_all_lots (hr.mono (by decide)) (by rfl) (pa_cons (pv 2) pa_nil))) (blkOk_by (own := [("lot", 5)]) (N := N_counted) (sc := defScope s_counted) (by decide +kernel)) (fun _ _ _ _ _ => (pg_name (i := 5) sc_counted.nd rfl (by first | exact Or.inl rfl | exact Or.inr rfl))) (fun _ _ _ _ _ => pts_nil) (fun _ _ _ _ _ => (pe_callL (i := 1) F_count (hr.mono (by decide)) rfl (by first | exact Or.inl rfl | exact Or.inr (Or.inl rfl) | exact Or.inr (Or.inr rfl)) k_count b_count .nil pass0 (pa_cons (pe_lc (own := [("word", 6)]) (g := (gName 6)) rfl sc_counted.nd (pi_tupK K (pv 5)) (blkOk_by (own := [("word", 6)]) (N := N_counted) (sc := relS _ (defScope s_counted)) (by decide +kernel)) (fun _ _ _ _ _ => (pg_name (i := 6) sc_counted.nd rfl (by first | exact Or.inl rfl | exact Or.inr rfl))) (fun _ _ _ _ _ => pts_nil) (fun _ _ _ _ _ => (pe_dget hu (pv 3) (pv 6) (fun _ _ => rfl)))) pa_nil)))) pa_nil))))))), ?_⟩
  rintro _ _ ⟨x, rows, rfl, F, rfl⟩
  have hl := F.l5
  have hnl := names_len rows
  have hll := lots_le (l := namesL rows) (by omega)
  have hst : (namesL rows).Pairwise ltS := sortS_strict F.nd
  refine sq_set (d := .p (lotD (namesL rows))) (ev_cb (ea_cons (ev_cb (ea_cons (ev_is (ev_lcM (cs := rows) (φ := rowD) (fun r => .str r.1) (ei_seq F.sq (ev_var rfl)) (sl := [4]) (by decide) (by omega) fun r hr => ⟨_, eg_name, ev_op (ev_var rfl) ev_int (rv_ixT (i := 0) rfl)⟩) ?_) ea_nil) (rc_sortedS (xs := rows.map (·.1)) (by rw [List.length_map]; omega))) ea_nil) rc_tupL) ?_
  · rw [List.map_map]
    rfl
  refine sq_set (d := .dk (rowTab rows)) (ev_dc (xs := rows) (φ := rowD) (fun r => .inr r.1) rowD (ei_seq F.sq (ev_var rfl)) (sl := [4]) (by decide) (by omega) fun r hr => ⟨_, eg_name, ev_op (ev_var rfl) ev_int (rv_ixT (i := 0) rfl), ev_var rfl⟩) ?_
  refine sm_ret (ev_make2 (p1 := lotD (namesL rows)) (p2 := .tuple ((lots (namesL rows)).map fun a => .int (rkT (tieOf rows) a))) (ds := [.p (lotD (namesL rows)), .p (.list ((lots (namesL rows)).map fun a => .int (rkT (tieOf rows) a)))])
    (ea_cons (ev_var rfl) (ea_cons ?_ ea_nil)) ⟨namesL rows, rkT (tieOf rows), rfl, fun z hz => ?_, hst, by rw [hnl]; exact F.l1, by omega, fam_rules _ hst (by omega), rfl, rfl⟩) rfl
  · refine ev_lcM (cs := lots (namesL rows)) (φ := lotD) (fun a => .int (rkT (tieOf rows) a)) (ei_tup (ev_call (ea_cons (ev_var rfl) ea_nil) ⟨namesL rows, rfl, by omega, rfl⟩)) (sl := [5]) (by decide) (by omega) fun a ha => ⟨_, eg_name, ?_⟩
    have hal : a.length ≤ 5 := Nat.le_trans (mem_lots.mp ha).length_le (by omega)
    refine ev_callL (ds := [.p (.list ((a.map (rowOf rows)).map rowD))]) rfl (ea_cons ?_ ea_nil) ⟨a.map (rowOf rows), rfl, by rw [List.length_map]; omega, ?_⟩
    · refine ev_is (ev_lcM (cs := a) (φ := .str) (fun z => rowD (rowOf rows z)) (ei_tup (ev_var rfl)) (sl := [6]) (by decide) (by omega) fun z hz => ⟨_, eg_name, ev_dgetK (k := .inr z) (ev_var rfl) (ev_var rfl) (rowTab_val F.nd (names_mem.mp ((mem_lots.mp ha).subset hz)))⟩) ?_
      rw [List.map_map]
      rfl
    · show D.p (PyData.int (((rk _ (a.map (tieOf rows)) : Nat) : Int))) = D.p (PyData.int (((rk _ ((a.map (rowOf rows)).map (·.2)) : Nat) : Int)))
      rw [List.map_map]
      rfl
  · obtain ⟨r, hr, rfl⟩ := List.mem_map.mp (names_mem.mp hz)
    exact F.wd r hr
end
end SL
set_option Elab.async false
set_option linter.all false
set_option maxRecDepth 100000
set_option maxHeartbeats 4000000
/-! Promises of defs that may raise C(p), p told as the field «place»; try .. except. -/
namespace NW
open PySem PySem.Spec PyProof.Rows L2 DL SL

def spE (C : Addr) (g : List D → D ⊕ PyData → Prop) : Sp := fun vs H Q E => ∃ (hid : Hid) (ds : List D) (r : D ⊕ PyData), Occ hid H ∧ ValsAt hid H ds vs ∧ g ds r ∧ (∀ d, r = .inl d → ∀ v H', Ex H H' → Occ hid H' → ValAt hid H' d v → Q v H') ∧
  ∀ p, r = .inr p → ∀ v H' d, Ex H H' → Occ hid H' → At hid H' p v → H' d = none → E (.ref C) (some d) (upd H' d (.xd [("place", v)]))
section
variable {E : Ends} {hid : Hid} {H0 : Hp} {ρ ρ' : DL.Env} {C : Addr} {g : List D → D ⊕ PyData → Prop} {X : XK} {ta : TA} {ds : List D}
/-- f(..) as a statement -/
theorem rn_callE {r : D ⊕ PyData} (h : EvA ta ρ ds) (hg : g ds r) (k1 : ∀ d, r = .inl d → On E.nx hid H0 ρ) (k2 : ∀ p, r = .inr p → ∀ v H' d, Ex H0 H' → Occ hid H' → At hid H' p v → H' d = none → X (.ref C) (some d) (upd H' d (.xd [("place", v)]))) :
    Rn (tDrop (tCall (spE C g) [] X ta)) E hid H0 ρ := fun H σ ex o e =>
  h hid H σ o e _ fun vs H1 e1 av => by
    show spE C g (vs ++ []) H1 _ X
    rw [List.append_nil]
    exact ⟨hid, ds, r, o.ex e1, av, hg, fun d hd v H2 e2 o2 _ => k1 d hd H2 σ (ex.trans (e1.trans e2)) o2 (e.ex (e1.trans e2)), fun p hp v H2 d e2 o2 a2 hd => k2 p hp v H2 d (ex.trans (e1.trans e2)) o2 a2 hd⟩
theorem rn_ret1 {te : TE} {d : D} (h : Ev te ρ d) (k : ∀ v H, Ex H0 H → Occ hid H → ValAt hid H d v → E.rt v H) : Rn (tRet te) E hid H0 ρ := rn_ret h k
end
section
variable {β : Type} {M : Mo β} {b : β} {ρ : DL.Env} {P : Po β} {K : PySem.W.Frag} {C : Addr} {g : List D → D ⊕ PyData → Prop} {ta : TA} {ds : List D}
/-- try: x = f(..) except C as e: return [e.place] -/
theorem sm_told {i j : Nat} {W0 : WX} (te : PySem.W.exmOne K (.ref C) (.ref C) = some true) {r : D ⊕ PyData} (hj : j < ρ.length) (h : EvA ta ρ ds) (hg : g ds r) (k1 : ∀ d, r = .inl d → P.nx b (ρ.set i (some d))) (k2 : ∀ p, r = .inr p → P.rt b (.p (.list [p]))) :
    Sm M (fun D σ H => tAsg (tCallS (spE C g) (WE (wAs K (.ref C) j (fun a cls d => tRet (tLst (tCons (tXf a cls d C "place" (tVar j)) tNil))) W0 D)) ta) (gName i) D σ H) b ρ P := fun hid fr H σ E w e qn qb qc qr =>
  h (un hid fr) H σ w.occ e _ fun vs H1 e1 av => by
    refine ⟨un hid fr, ds, r, w.occ.ex e1, av, hg, fun d hd v H2 e2 o2 a2 => ?_, fun p hp v H2 d e2 o2 a2 hd => ?_⟩
    · exact qn _ hid H2 b _ (w.ex (e1.trans e2)) (w.stp (e1.trans e2)) ((e.ex (e1.trans e2)).set i a2) (k1 d hd)
    · refine ⟨true, te, fun _ a ha => ?_, fun q => nomatch q⟩
      have hj' : j < σ.length := by rw [e.len]; exact hj
      refine ⟨.ref a, List.getElem?_set_self hj', rfl, rfl, d, _, v, rfl, upd_same, List.lookup_cons_self, by show 1 ≤ sizeLine; decide, fun q hq => ?_⟩
      have ex3 := ex_new hd (o := .xd [("place", v)])
      have ex4 := ex_new hq (o := .lst [v])
      have exa := (e1.trans e2).trans (ex3.trans ex4)
      exact qr _ hid _ b (.p (.list [p])) (w.ex exa) (w.stp exa) (At.list (((w.occ.ex (e1.trans e2)).ex ex3).new hq) upd_same (.cons (a2.ex (ex3.trans ex4)) .nil)) (k2 p hp)
end
end NW
set_option Elab.async false
set_option linter.all false
set_option maxRecDepth 100000
set_option maxHeartbeats 4000000
namespace SL
open PySem PySem.Spec PyProof.Rows L2 DL FM NW

/-! ### what is taken for a frame -/
def itemsOf : PyData → Option (List PyData)
  | .list xs => some xs
  | .tuple xs => some xs
  | _ => none
def okItems (x : PyData) : Bool := match itemsOf x with
  | some xs => decide ((1 : Int) ≤ (xs.length : Int)) && decide ((xs.length : Int) ≤ 5)
  | none => false
abbrev R_need_items : List D → D ⊕ PyData → Prop := fun ds r => ∃ x, ds = [.p x] ∧ r = if okItems x = true then .inl (.p .none) else .inr .none
def nameOf : PyData → Str
  | .tuple (.str s :: _) => s
  | _ => ""
def goodAt (xs : List PyData) (i : Nat) : Bool := match xs[i]? with
  | some d => isTie d && !decide (nameOf d ∈ (xs.take i).map nameOf)
  | none => true
def firstBad (xs : List PyData) : Option Nat := (List.range xs.length).find? fun i => !goodAt xs i
def rowFrom : PyData → Str × Int × Int
  | .tuple [.str s, .int a, .int b] => (s, a, b)
  | _ => ("", 0, 0)
def rowsFrom (x : PyData) : List (Str × Int × Int) := ((itemsOf x).getD []).map rowFrom
/-- the place of the first thing that is wrong, or what a family is made of -/
def frameR (x : PyData) : PyData ⊕ List (Str × Int × Int) := if okItems x = true then
    (match firstBad ((itemsOf x).getD []) with
      | some i => .inl (.int (i : Int))
      | none => .inr (rowsFrom x))
  else .inl .none
def shorts (x : PyData) : Prop := ∀ xs, itemsOf x = some xs → ∀ d ∈ xs, shortT d
theorem tie_row {d : PyData} (h : isTie d = true) : d = rowD (rowFrom d) ∧ nameOf d = (rowFrom d).1 ∧ isWordS (rowFrom d).1 = true := by
  unfold isTie at h
  split at h
  · rename_i a b c
    rw [Bool.and_eq_true, Bool.and_eq_true] at h
    obtain ⟨h1, h2, h3⟩ := h
    cases a with
    | str s =>
      cases b with
      | int i =>
        cases c with
        | int j => exact ⟨rfl, rfl, h1⟩
        | bool k => cases h3
        | none => cases h3
        | str k => cases h3
        | list k => cases h3
        | tuple k => cases h3
        | dict k => cases h3
      | bool k => cases h2
      | none => cases h2
      | str k => cases h2
      | list k => cases h2
      | tuple k => cases h2
      | dict k => cases h2
    | int k => cases h1
    | bool k => cases h1
    | none => cases h1
    | list k => cases h1
    | tuple k => cases h1
    | dict k => cases h1
  · cases h
theorem good_frame {x : PyData} {xs : List PyData} (hx : itemsOf x = some xs) (hok : okItems x = true) (h : ∀ i, i < xs.length → goodAt xs i = true) : Frame x (rowsFrom x) := by
  have hall : ∀ d ∈ xs, isTie d = true := fun d hd => by
    obtain ⟨i, hi, e⟩ := List.getElem_of_mem hd
    have := h i hi
    unfold goodAt at this
    rw [List.getElem?_eq_getElem hi, e] at this
    exact (Bool.and_eq_true_iff.mp this).1
  have hrows : rowsFrom x = xs.map rowFrom := by
    unfold rowsFrom
    rw [hx]
    rfl
  have hmap : (rowsFrom x).map rowD = xs := by
    rw [hrows, List.map_map]
    conv => rhs; rw [← List.map_id' xs]
    exact List.map_congr_left fun d hd => (tie_row (hall d hd)).1.symm
  unfold okItems at hok
  rw [hx] at hok
  simp only [Bool.and_eq_true, decide_eq_true_eq] at hok
  refine ⟨?_, ?_, ?_, ?_, ?_⟩
  · rw [hmap]
    cases x with
    | list ys => cases hx; exact .inl rfl
    | tuple ys => cases hx; exact .inr rfl
    | _ => cases hx
  · have hn : (rowsFrom x).map (·.1) = xs.map nameOf := by
      rw [hrows, List.map_map]
      exact List.map_congr_left fun d hd => (tie_row (hall d hd)).2.1.symm
    rw [hn]
    refine List.nodup_iff_pairwise_ne.mpr (List.pairwise_iff_getElem.mpr fun i j hi hj hij e => ?_)
    rw [List.length_map] at hi hj
    have := h j hj
    unfold goodAt at this
    rw [List.getElem?_eq_getElem hj] at this
    have h2 := (Bool.and_eq_true_iff.mp this).2
    simp only [Bool.not_eq_true', decide_eq_false_iff_not] at h2
    refine h2 (List.mem_map.mpr ⟨xs[i], List.mem_take_iff_getElem.mpr ⟨i, by omega, rfl⟩, ?_⟩)
    simpa using e
  · intro r hr
    rw [hrows] at hr
    obtain ⟨d, hd, rfl⟩ := List.mem_map.mp hr
    exact (tie_row (hall d hd)).2.2
  · rw [hrows, List.length_map]; omega
  · rw [hrows, List.length_map]; omega
theorem items_seq {x : PyData} {xs : List PyData} (h : itemsOf x = some xs) : Seq x xs := by
  cases x with
  | list ys => cases h; exact .inl rfl
  | tuple ys => cases h; exact .inr rfl
  | _ => cases h
theorem items_isi (x : PyData) : (isListD x || isTupD x) = (itemsOf x).isSome := by cases x <;> rfl
theorem bad_at {xs : List PyData} {i : Nat} (hi : i < xs.length) (h : ∀ j, j < i → goodAt xs j = true) (hb : goodAt xs i = false) : firstBad xs = some i := by
  unfold firstBad
  rw [List.find?_range_eq_some]
  exact ⟨by rw [hb]; rfl, List.mem_range.mpr hi, fun j hj => by rw [h j hj]; rfl⟩
theorem bad_none {xs : List PyData} (h : ∀ j, j < xs.length → goodAt xs j = true) : firstBad xs = none := by
  unfold firstBad
  rw [List.find?_eq_none]
  intro j hj
  rw [h j (List.mem_range.mp hj)]
  decide
theorem ev_takeQ {K : PySem.W.Frag} {ρ : DL.Env} {te tn : TE} {x : PyData} {xs : List PyData} {i : Nat} (hsq : Seq x xs) (h : Ev te ρ (.p x)) (hn : Ev tn ρ (.p (.int (i : Int)))) : ∃ y, Seq y (xs.take i) ∧ Ev (tSl (rSlQ K) te tNoPart (tPart tn)) ρ (.p y) := by
  rcases hsq with rfl | rfl
  · exact ⟨_, .inl rfl, by rw [← cut_to]; exact ev_sl h eo_none (eo_some hn) rs_seqL⟩
  · exact ⟨_, .inr rfl, by rw [← cut_to]; exact ev_sl h eo_none (eo_some hn) rs_seqT⟩
theorem ev_tie0 {K : PySem.W.Frag} {ρ : DL.Env} {te : TE} {d : PyData} (ht : isTie d = true) (h : Ev te ρ (.p d)) : Ev (tOp (rIxT K) te (tC (.int 0))) ρ (.p (.str (nameOf d))) := by
  obtain ⟨e1, e2, _⟩ := tie_row ht
  rw [e2]
  rw [e1] at h
  exact ev_op h ev_int (rv_ixT (i := 0) rfl)
theorem pe_gref {X : Cx} {x : Str} {a : Addr} {pos : Pos} (h : X.mg x = some (.ref a)) (hg : Gl X x) (hd : (x == ("__debug__" : Str)) = false := by decide) : PE X (.Name x pos) (tC (.ref a)) := pe_glob hg h rfl hd
abbrev R_of_frame (C : Addr) : List D → D ⊕ PyData → Prop := fun ds r => ∃ x, ds = [.p x] ∧ shorts x ∧ r = match frameR x with
  | .inl p => .inr p
  | .inr rows => .inl (.ins C (famD rows))

section
variable {P : Program} {w : World} {K : PySem.W.Frag} {mg : Str → Option Value} {base : Heap} {C CB fI cda cc : Addr}
abbrev N_need_items : List Str := ["thing"]
theorem sc_need_items : FnScope N_need_items ["thing"] (defScope s_need_items) := ⟨rfl, rfl, rfl, by decide +kernel, rfl, by decide +kernel, by decide +kernel⟩
theorem ok_need_items {f : Addr} {fd : FuncData} (Fn : Fun K "need_items" "need_items" s_need_items f fd) (T : Txt mg) (B : SupC K P.main.file CB fI cda cc "__init__" "BadMaker.__init__" "place" s_BadMaker___init__) (h_super : mg "super" = none)
    (h_top : (P.main.scope.names.lookup ("super" : Str)).isSome = false) (h_bad : mg "BadMaker" = some (.ref CB)) : FnOk P w K mg base (L2.CX P w) 3 f fd ["thing"] (spE CB R_need_items) := by
  refine Fn.okX sc_need_items ?_ fun cdv A outer s H vs Q E hr h => ⟨_, (pss_one (ps_if (PW.pt (pw_or (pt_not (pt_val (pe_callB (call_isiTK K) (by rfl) T.b_isinstance (by decide +kernel) (pa_cons (pv 0) (pa_cons (pe_tup (pa_cons (pe_bltn (v := .ty "list") (by rfl) T.b_list (by decide +kernel) rfl) (pa_cons (pe_bltn (v := .ty "tuple") (by rfl) T.b_tuple (by decide +kernel) rfl) pa_nil))) pa_nil))))) (pw_or1 (pt_not (pt_chain op_le op_le pe_int (pe_callB (call_len_seqK K) (by rfl) T.b_len (by decide +kernel) (pa_cons (pv 0) pa_nil)) (pe_gint T.g_MOST_THINGS (by rfl))))))) (pss_one (ps_raise rfl (takes_of rfl rfl rfl rfl) (pmk_bad B h_super h_top (hr.mono (by decide) : Room 1 _) (by rfl) h_bad (pa_cons pe_non pa_nil)))) pss_nil)), ?_⟩
  · rintro vs H Q E ⟨hid, ds, r, _, av, ⟨x, rfl, _⟩, _⟩
    exact av.length
  · obtain ⟨hid, ds, r, ho, av, ⟨x, rfl, rfl⟩, q1, q2⟩ := h
    match vs, av with
    | [vx], .cons ax .nil =>
    have av' : EnvAt hid H (start N_need_items [vx]) [some (.p x)] := start_at (N := N_need_items) (ds := [.p x]) (.cons ax .nil) (by show 1 ≤ 1; decide)
    refine (?_ : Rn _ _ hid H [some (.p x)]) H _ (Same.refl H) ho av'
    refine rn_if (a := !okItems x) ?_ (fun q => ?_) fun q => ?_
    · cases hi : itemsOf x with
      | none =>
        have h1 : (isListD x || isTupD x) = false := by rw [items_isi, hi]; rfl
        have h2 : okItems x = false := by unfold okItems; rw [hi]
        rw [h2]
        exact et_is (et_or (b := true) (et_not (et_test (ev_cb (ea_cons (ev_var rfl) (ea_cons ev_tys ea_nil)) (rc_isiT2 (kit_list _) (kit_tup _))))) fun q => by rw [h1] at q; cases q) (by rw [h1]; rfl)
      | some xs =>
        have h1 : (isListD x || isTupD x) = true := by rw [items_isi, hi]; rfl
        refine et_is (et_or (et_not (et_test (ev_cb (ea_cons (ev_var rfl) (ea_cons ev_tys ea_nil)) (rc_isiT2 (kit_list _) (kit_tup _))))) fun _ => et_not (et_test (ev_chain ev_int (ev_cb (ea_cons (ev_var rfl) ea_nil) (rc_lenQ (items_seq hi))) rv_le (fun _ => ev_int) fun _ => rv_le))) ?_
        rw [h1]
        unfold okItems
        rw [hi]
        rfl
    · have hok : okItems x = false := by simpa using q
      exact rn_raise ev_non fun v H' d σ ex o a hd => q2 .none (by rw [hok]; rfl) v H' d ex o a hd
    · have hok : okItems x = true := by simpa using q
      exact rn_next fun H' σ ex o e => q1 (.p .none) (by rw [hok]; rfl) .non H' ex o .non
abbrev N_of_frame : List Str := ["ties", "number", "tie", "one"]
theorem sc_of_frame : FnScope N_of_frame ["ties"] (defScope s_of_frame) := ⟨rfl, rfl, rfl, by decide +kernel, rfl, by decide +kernel, by decide +kernel⟩
theorem ok_of_frame {f : Addr} {fd : FuncData} (Fn : Fun K "of_frame" "of_frame" s_of_frame f fd) (T : Txt mg) (B : SupC K P.main.file CB fI cda cc "__init__" "BadMaker.__init__" "place" s_BadMaker___init__) (h_super : mg "super" = none)
    (h_top : (P.main.scope.names.lookup ("super" : Str)).isSome = false) (h_bad : mg "BadMaker" = some (.ref CB)) {fn ftc : Addr} {fdn : FuncData} (F_need_items : FnOk P w K mg base (L2.CX P w) 3 fn fdn ["thing"] (spE CB R_need_items)) (m_need_items : mg "need_items" = some (.ref fn))
    (k_need_items : PySem.W.keepIn K (.ref fn) = true) (b_need_items : Binds K fdn ["thing"] []) (g_tie_count : mg "tie_count" = some (.ref ftc)) (C_is_tie : Cal P w K mg base "is_tie" 2 ["thing"] (spD R_is_tie)) (C_counted : Cal P w K mg base "counted" 7 ["rows", "count"] (spD (R_counted C ftc))) :
    FnOk P w K mg base (L2.CX P w) 8 f fd ["ties"] (spE CB (R_of_frame C)) := by
  refine Fn.okX sc_of_frame ?_ fun cdv A outer s H vs Q E hr h => ⟨_, (pss_cons (ps_expr (pe_call F_need_items (hr.mono (by decide)) (by rfl) m_need_items k_need_items b_need_items .nil (passes_call (takes_of rfl rfl rfl rfl) fun _ _ _ _ h => h) (pa_cons (pv 0) pa_nil)))
    (pss_cons (ps_for (passes_of rfl) rfl (pi_enumAK K (by rfl) T.b_enumerate (pa_cons (pv 0) pa_nil)) (pg_tupK K rfl (pgs_cons (pg_name (i := 1) sc_of_frame.nd rfl (by first | exact Or.inl rfl | exact Or.inr rfl)) (pgs_cons (pg_name (i := 2) sc_of_frame.nd rfl (by first | exact Or.inl rfl | exact Or.inr rfl)) pgs_nil))) (pss_one (ps_if (PW.pt (pw_or (pt_not (pt_val (pe_cal C_is_tie (hr.mono (by decide)) (by rfl) (pa_cons (pv 2) pa_nil)))) (pw_or1 (pt_cmpR (op_in_seqK K) (pe_ix (ix_tupK K) (pv 2) pe_int (fun _ _ => rfl)) (pe_lc (own := [("one", 3)]) (g := (gName 3)) rfl sc_of_frame.nd (pi_seqK K (pe_slice (sl_seqK K) (pv 0) po_none (po_some (pv 1)))) (blkOk_by (own := [("one", 3)]) (N := N_of_frame) (sc := defScope s_of_frame) (by decide +kernel)) (fun _ _ _ _ _ => (pg_name (i := 3) sc_of_frame.nd rfl (by first | exact Or.inl rfl | exact Or.inr rfl))) (fun _ _ _ _ _ => pts_nil) (fun _ _ _ _ _ => (pe_ix (ix_tupK K) (pv 3) pe_int (fun _ _ => rfl)))) (by rfl))))) (pss_one (ps_raise rfl (takes_of rfl rfl rfl rfl) (pmk_bad B h_super h_top (hr.mono (by decide) : Room 1 _) (by rfl) h_bad (pa_cons (pv 1) pa_nil)))) pss_nil)))
    (pss_one (ps_ret (pe_cal C_counted (hr.mono (by decide)) (by rfl) (pa_cons (pv 0) (pa_cons (pe_gref g_tie_count (by rfl)) pa_nil))))))), ?_⟩
  · rintro vs H Q E ⟨hid, ds, r, _, av, ⟨x, rfl, _⟩, _⟩
    exact av.length
  · obtain ⟨hid, ds, r, ho, av, ⟨x, rfl, hsh, rfl⟩, q1, q2⟩ := h
    match vs, av with
    | [vx], .cons ax .nil =>
    have av' : EnvAt hid H (start N_of_frame [vx]) [some (.p x), none, none, none] := start_at (N := N_of_frame) (ds := [.p x]) (.cons ax .nil) (by show 1 ≤ 4; decide)
    refine (?_ : Rn _ _ hid H [some (.p x), none, none, none]) H _ (Same.refl H) ho av'
    refine rn_seq (rn_callE (ea_cons (ev_var rfl) ea_nil) ⟨x, rfl, rfl⟩ (fun d hd => ?_) fun p hp => ?_)
    · have hok : okItems x = true := by
        cases hq : okItems x with
        | true => rfl
        | false => rw [hq] at hd; cases hd
      obtain ⟨xs, hi⟩ : ∃ xs, itemsOf x = some xs := by
        unfold okItems at hok
        cases hi : itemsOf x with
        | none => rw [hi] at hok; cases hok
        | some xs => exact ⟨xs, rfl⟩
      have hsq := items_seq hi
      have hl5 : xs.length ≤ 5 := by
        unfold okItems at hok
        rw [hi] at hok
        simp only [Bool.and_eq_true, decide_eq_true_eq] at hok
        omega
      have fr : frameR x = match firstBad xs with
          | some i => .inl (.int (i : Int))
          | none => .inr (rowsFrom x) := by
        unfold frameR
        rw [if_pos hok, hi]
        rfl
      rw [fr] at q1 q2
      show Rn _ _ _ _ _
      refine rn_seq ?_
      refine rn_for (sl := [1, 2]) (fun i ρ => (∀ j, j < i → goodAt xs j = true) ∧ ∃ x1 x2, ρ = [some (.p x), x1, x2, none]) (ei_enumA hsq (ea_cons (ev_var rfl) ea_nil)) ⟨fun j hj => absurd hj (Nat.not_lt_zero j), _, _, rfl⟩ ?_ ?_
      · rintro i d ρ' hd ⟨hj, x1, x2, rfl⟩
        obtain ⟨t, ht, rfl⟩ : ∃ t, xs[i]? = some t ∧ d = .tuple [.int (i : Int), t] := by
          rw [List.getElem?_map, List.getElem?_zipIdx] at hd
          cases ht : xs[i]? with
          | none => rw [ht] at hd; cases hd
          | some t =>
            rw [ht] at hd
            refine ⟨t, rfl, ?_⟩
            simpa using hd.symm
        have hil : i < xs.length := (List.getElem?_eq_some_iff.mp ht).1
        have hst : shortT t := hsh xs hi t (List.mem_of_getElem? ht)
        have hga : goodAt xs i = (isTie t && !decide (nameOf t ∈ (xs.take i).map nameOf)) := by
          unfold goodAt
          rw [ht]
        have hties : ∀ d ∈ xs.take i, isTie d = true := fun d hd => by
          obtain ⟨j, hj', e⟩ := List.mem_take_iff_getElem.mp hd
          have := hj j (by omega)
          unfold goodAt at this
          rw [List.getElem?_eq_getElem (by omega), e] at this
          exact (Bool.and_eq_true_iff.mp this).1
        refine ⟨_, eg_tup rfl (egs_cons eg_name (egs_cons eg_name egs_nil)), fun H1 N ex1 hN => ?_⟩
        refine rn_if (a := !goodAt xs i) ?_ (fun q => ?_) fun q => ?_
        · have hor : (!goodAt xs i) = (!isTie t || decide (nameOf t ∈ (xs.take i).map nameOf)) := by
            rw [hga]
            cases isTie t <;> simp
          rw [hor]
          refine et_or (et_not (et_test (ev_call (ea_cons (ev_var rfl) ea_nil) ⟨t, rfl, hst, rfl⟩))) fun q => ?_
          have htt : isTie t = true := by simpa using q
          obtain ⟨y, hy, hev⟩ := ev_takeQ (K := K) (te := tVar 0) (tn := tVar 1) (ρ := [some (.p x), some (.p (.int (i : Int))), some (.p t), none]) (i := i) hsq (ev_var rfl) (ev_var rfl)
          refine et_test (ev_op (x := .p (.str (nameOf t))) (y := .p (.list (((xs.take i).map nameOf).map .str))) (ev_tie0 htt (ev_var rfl)) ?_ rv_inL)
          refine ev_is (ev_lcA (fun d => .str (nameOf d)) (ei_seq hy hev) (sl := [3]) (by decide) (by rw [List.length_take]; omega) fun d hd => ⟨_, eg_name, ev_tie0 (hties d hd) (ev_var rfl)⟩) ?_
          rw [List.map_map]
          rfl
        · have hb : goodAt xs i = false := by simpa using q
          have := bad_at hil hj hb
          rw [this] at q2
          exact rn_raise (ev_var rfl) fun v H' d σ ex o a hd => q2 _ rfl v H' d (ex1.trans ex) o a hd
        · have hb : goodAt xs i = true := by simpa using q
          refine rn_next (hN _ ⟨fun j hj' => ?_, _, _, rfl⟩)
          by_cases e : j = i
          · rw [e]; exact hb
          · exact hj j (by omega)
      · rintro ρ' ⟨hj, x1, x2, rfl⟩
        rw [List.length_map, List.length_zipIdx] at hj
        rw [bad_none hj] at q1
        refine (?_ : Rn _ _ _ _ _)
        exact rn_ret (ev_call (ea_cons (ev_var rfl) (ea_cons ev_val ea_nil)) ⟨x, rowsFrom x, rfl, good_frame hi hok hj, rfl⟩) fun v H' ex o a => q1 _ rfl v H' ex o a
    · have hok : okItems x = false := by
        cases hq : okItems x with
        | true => rw [hq] at hp; cases hp
        | false => rfl
      rw [hok] at hp
      cases hp
      have fr : frameR x = .inl .none := by
        unfold frameR
        rw [if_neg (by rw [hok]; decide)]
      rw [fr] at q2
      exact fun v H' d ex o a hd => q2 .none rfl v H' d ex o a hd
end
end SL
set_option Elab.async false
set_option linter.all false
set_option maxRecDepth 100000
set_option maxHeartbeats 4000000
namespace SL
open PySem PySem.Spec PyProof.Rows L2 DL FM NW

/-- what is told of a frame -/
def toldD (x : PyData) : PyData := match frameR x with
  | .inl p => .list [p]
  | .inr rows => .tuple [lotD (namesL rows), .tuple ((lots (namesL rows)).map fun a => .int (rkT (tieOf rows) a))]
abbrev R_told : List D → D → Prop := fun ds d => ∃ x, ds = [.p x] ∧ shorts x ∧ d = .p (toldD x)
section
variable {P : Program} {w : World} {K : PySem.W.Frag} {mg : Str → Option Value} {base : Heap} {C CB : Addr}
abbrev N__law_told : List Str := ["_law_ties", "_law_one", "e"]
theorem sc__law_told : FnScope N__law_told ["_law_ties"] (defScope s__law_told) := ⟨rfl, rfl, rfl, by decide +kernel, rfl, by decide +kernel, by decide +kernel⟩
theorem ok_told (h : Has K mg "_law_told" s__law_told) {fo : Addr} {fdo : FuncData} (F_of_frame : FnOk P w K mg base (L2.CX P w) 8 fo fdo ["ties"] (spE CB (R_of_frame C))) (m_of_frame : mg "of_frame" = some (.ref fo)) (k_of_frame : PySem.W.keepIn K (.ref fo) = true) (b_of_frame : Binds K fdo ["ties"] [])
    (h_bad : mg "BadMaker" = some (.ref CB)) (te : PySem.W.exmOne K (.ref CB) (.ref CB) = some true) (xf : XfC K CB) (hno : PySem.W.findIn K (.ref CB) "place" = some none) (cls : Cls K C) (n1 : NoAttr K C "things") (n2 : NoAttr K C "counts") : Cal P w K mg base "_law_told" 9 ["_law_ties"] (spD R_told) := by
  refine cal_of h sc__law_told (fun _ _ _ _ _ _ us hl => match us, hl with | [_], _ => rfl) (by rintro _ _ ⟨x, rfl, _⟩; rfl) (by decide) fun f cdv A outer s H E hr => ?_
  have hr8 : Room 8 (A.deeper (envOfC "_law_told" (defScope s__law_told) s.heap.objs.size f cdv)) := hr
  refine ⟨_, pss_cons (ps_try_as (i := 2) (tb := fun W => tAsg (tCallS (spE CB (R_of_frame C)) (WE W) (tCons (tVar 0) tNil)) (gName 1)) (ts := fun a cls d => tRet (tLst (tCons (tXf a cls d CB "place" (tVar 2)) tNil))) (Wout := fun _ _ _ _ => False) rfl rfl sc__law_told.nd rfl rfl ⟨rfl, by decide, Or.inl h_bad⟩ takes0
      (fun W pn xe tk _ => pss_one (ps_set (i := 1) sc__law_told.nd rfl (Or.inl rfl) (by exact (pe_callS F_of_frame hr8 rfl m_of_frame k_of_frame b_of_frame (fun σ => passAt tk σ) (by exact (pa_cons (pv 0) pa_nil))))))
      (fun a oe cls d pn hz hf => pss_one (ps_ret (pe_lst (pa_cons (pe_xf xf hno hz hf (pv 2)) pa_nil)))))
    (pss_one (ps_ret (pe_tup (pa_cons (pe_fldK K (pv 1) rfl) (pa_cons (pe_fldK K (pv 1) rfl) pa_nil))))), ?_⟩
  rintro _ _ ⟨x, rfl, hsh, rfl⟩
  refine sm_seq (Mid := fun _ ρ => ∃ rows, frameR x = .inr rows ∧ ρ = [some (.p x), some (.ins C (famD rows)), none]) (sm_told te (by show 2 < 3; decide) (ea_cons (ev_var rfl) ea_nil) ⟨x, rfl, hsh, rfl⟩ (fun d hd => ?_) fun p hp => ?_) ?_
  · cases hfr : frameR x with
    | inl p => rw [hfr] at hd; cases hd
    | inr rows =>
      rw [hfr] at hd
      cases hd
      exact ⟨rows, rfl, rfl⟩
  · cases hfr : frameR x with
    | inl q =>
      rw [hfr] at hp
      cases hp
      show D.p _ = D.p _
      unfold toldD
      rw [hfr]
    | inr rows => rw [hfr] at hp; cases hp
  · rintro b' ρ' ⟨rows, hfr, rfl⟩
    refine sm_ret (ev_tup (ds := [lotD (namesL rows), .tuple ((lots (namesL rows)).map fun a => .int (rkT (tieOf rows) a))]) (ea_cons (ev_fld cls n1 (ev_var rfl) rfl) (ea_cons (ev_fld cls n2 (ev_var rfl) rfl) ea_nil)) (by simp)) ?_
    show D.p _ = D.p _
    unfold toldD
    rw [hfr]
end
end SL
set_option Elab.async false
set_option linter.all false
set_option maxRecDepth 100000
set_option maxHeartbeats 4000000
/-! x == y of data without dicts. -/
namespace NW
open PySem PySem.Spec PyProof.Rows L2 DL SL
section
variable {K : PySem.W.Frag} {hid : Hid} {H : Hp}
mutual
theorem At.dp : ∀ (d : PyData) (v : V), d.canLay0 = true → At hid H d v → Dp K H v d
  | .none, _, _, h => by cases h; exact .non
  | .bool _, _, _, h => by cases h; exact .bl _
  | .int _, _, _, h => by cases h; exact .int _
  | .str _, _, _, h => by cases h; exact .str _
  | .list ds, _, c, h => by
    cases h with
    | list n e l => exact .lst (.of e) (AtL.dp ds _ (by simpa [PyData.canLay0] using c) l)
  | .tuple ds, _, c, h => by
    cases h with
    | tuple n e l => exact .tup (.of e) (AtL.dp ds _ (by simpa [PyData.canLay0] using c) l)
  | .dict _, _, c, h => by simp [PyData.canLay0] at c
theorem AtL.dp : ∀ (ds : List PyData) (vs : List V), PyData.canLayAll0 ds = true → AtL hid H ds vs → DpAll K H vs ds
  | [], _, _, h => by cases h; exact .nil
  | d :: ds, _, c, h => by
    cases h with
    | cons a r =>
      have c' : d.canLay0 = true ∧ PyData.canLayAll0 ds = true := by simpa [PyData.canLayAll0] using c
      exact .cons (At.dp d _ c'.1 a) (AtL.dp ds _ c'.2 r)
end
end
theorem rv_eqD {K : PySem.W.Frag} {x y : PyData} (hx : SeqAt.shaped x = true) (hy : SeqAt.shaped y = true) : Rv (rEqD K) (.p x) (.p y) (.p (.bool (PyData.eqv x y))) := fun hid H u v o a b Q q =>
  ⟨x, y, At.dp x u (SeqAt.canLay_of_shaped hx) a, At.dp y v (SeqAt.canLay_of_shaped hy) b, hx, hy, q _ _ (Same.refl H) (.bool _)⟩
theorem rv_neD {K : PySem.W.Frag} {x y : PyData} (hx : SeqAt.shaped x = true) (hy : SeqAt.shaped y = true) : Rv (rNeD K) (.p x) (.p y) (.p (.bool (!PyData.eqv x y))) := fun hid H u v o a b Q q =>
  ⟨x, y, At.dp x u (SeqAt.canLay_of_shaped hx) a, At.dp y v (SeqAt.canLay_of_shaped hy) b, hx, hy, q _ _ (Same.refl H) (.bool _)⟩
end NW
set_option Elab.async false
set_option linter.all false
set_option maxRecDepth 100000
set_option maxHeartbeats 4000000
namespace SL
open PySem PySem.Spec PyProof.Rows L2 DL FM NW

def okS (z : Str) : Prop := z.length ≤ 40 ∧ z.cps.all (· < 0x110000) = true
theorem eqv_nilL (xs : List PyData) : PyData.eqv (.list xs) (.list []) = xs.isEmpty := by
  cases xs <;> simp [PyData.eqv, PyData.eqvAll]
theorem eqv_nilT (xs : List PyData) : PyData.eqv (.tuple xs) (.tuple []) = xs.isEmpty := by
  cases xs <;> simp [PyData.eqv, PyData.eqvAll]
def okLeaf : PyData → Prop
  | .none | .bool _ | .int _ => True
  | .str z => z.cps.all (· < 0x110000) = true
  | _ => False
theorem lay_leaves : ∀ {xs : List PyData}, (∀ x ∈ xs, okLeaf x) → PyData.canLayAll0 xs = true ∧ PyData.depthAll xs ≤ 1
  | [], _ => ⟨rfl, Nat.zero_le _⟩
  | x :: r, h => by
    obtain ⟨h1, h2⟩ := lay_leaves (xs := r) fun y hy => h y (List.mem_cons_of_mem _ hy)
    have hx := h x List.mem_cons_self
    cases x with
    | none => exact ⟨by simp [PyData.canLayAll0, PyData.canLay0, h1], by simp [PyData.depthAll, PyData.depth]; omega⟩
    | bool b => exact ⟨by simp [PyData.canLayAll0, PyData.canLay0, h1], by simp [PyData.depthAll, PyData.depth]; omega⟩
    | int b => exact ⟨by simp [PyData.canLayAll0, PyData.canLay0, h1], by simp [PyData.depthAll, PyData.depth]; omega⟩
    | str b =>
      have hb : PyData.strOk b = true := hx
      exact ⟨by simp [PyData.canLayAll0, PyData.canLay0, h1, hb], by simp [PyData.depthAll, PyData.depth]; omega⟩
    | list b => exact hx.elim
    | tuple b => exact hx.elim
    | dict b => exact hx.elim
theorem shaped_list {xs : List PyData} (h : ∀ x ∈ xs, okLeaf x) : SeqAt.shaped (.list xs) = true := by
  obtain ⟨h1, h2⟩ := lay_leaves h
  unfold SeqAt.shaped
  rw [Bool.and_eq_true, decide_eq_true_eq]
  exact ⟨by simpa [PyData.canLay0] using h1, by simp only [PyData.depth]; omega⟩
theorem shaped_tuple {xs : List PyData} (h : ∀ x ∈ xs, okLeaf x) : SeqAt.shaped (.tuple xs) = true := by
  obtain ⟨h1, h2⟩ := lay_leaves h
  unfold SeqAt.shaped
  rw [Bool.and_eq_true, decide_eq_true_eq]
  exact ⟨by simpa [PyData.canLay0] using h1, by simp only [PyData.depth]; omega⟩
end SL
set_option Elab.async false
set_option linter.all false
set_option maxRecDepth 100000
set_option maxHeartbeats 4000000
/-! Expressions that change a state. -/
namespace NW
open PySem PySem.Spec PyProof.Rows L2 DL SL

section
variable {β : Type}
def EmA (M : Mo β) (t : TA) (b : β) (ρ : DL.Env) (Post : β → List D → Prop) : Prop := ∀ (hid fr : Hid) (H : Hp) (σ : L2.St), WOk M b hid fr H → EnvAt (un hid fr) H σ ρ → ∀ Q : List V → Hp → Prop,
  (∀ vs hid' H' b' ds, WOk M b' hid' fr H' → Stp hid fr H hid' H' → ValsAt (un hid' fr) H' ds vs → Post b' ds → Q vs H') → t σ H Q
def EtM (M : Mo β) (t : TT) (b : β) (ρ : DL.Env) (Post : β → Bool → Prop) : Prop := ∀ (hid fr : Hid) (H : Hp) (σ : L2.St), WOk M b hid fr H → EnvAt (un hid fr) H σ ρ → ∀ Q : Bool → Hp → Prop,
  (∀ hid' H' b' k, WOk M b' hid' fr H' → Stp hid fr H hid' H' → Post b' k → Q k H') → t σ H Q
def EiM (M : Mo β) (w : TI) (b : β) (ρ : DL.Env) (Post : β → List PyData → Prop) : Prop := ∀ (hid fr : Hid) (H : Hp) (σ : L2.St), WOk M b hid fr H → EnvAt (un hid fr) H σ ρ → ∀ R : It → Hp → Prop,
  (∀ J hid' H' b' xs, WOk M b' hid' fr H' → Stp hid fr H hid' H' → Wk J (un hid' fr) H' xs → Post b' xs → R J H') → w σ H R
variable {M : Mo β} {b b' : β} {ρ : DL.Env} {te ta tb : TE} {tr : TA} {t u : TT} {d x y : D} {Post P1 : β → D → Prop} {PA1 : β → List D → Prop} {PT : β → Bool → Prop} {P : Po β}
theorem EmA.imp {PA2 : β → List D → Prop} (h : EmA M tr b ρ PA1) (i : ∀ b' d, PA1 b' d → PA2 b' d) : EmA M tr b ρ PA2 := fun hid fr H σ w E Q q => h hid fr H σ w E Q fun v hid' H' b' d w' s a p => q v hid' H' b' d w' s a (i b' d p)
theorem EtM.imp {PT2 : β → Bool → Prop} (h : EtM M t b ρ PT) (i : ∀ b' d, PT b' d → PT2 b' d) : EtM M t b ρ PT2 := fun hid fr H σ w E Q q => h hid fr H σ w E Q fun hid' H' b' d w' s p => q hid' H' b' d w' s (i b' d p)
theorem ema_of {ds : List D} (h : EvA tr ρ ds) : EmA M tr b ρ fun b' es => b' = b ∧ es = ds := fun hid fr H σ w E Q q => h (un hid fr) H σ w.occ E Q fun vs H' e a => q vs hid H' b ds (w.ex e) (w.stp e) a ⟨rfl, rfl⟩
theorem etm_of {k : Bool} (h : EvT t ρ k) : EtM M t b ρ fun b' k' => b' = b ∧ k' = k := fun hid fr H σ w E Q q => h (un hid fr) H σ w.occ E Q fun H' e => q hid H' b k (w.ex e) (w.stp e) ⟨rfl, rfl⟩
theorem ema_nil {PA2 : β → List D → Prop} (h : PA2 b []) : EmA M tNil b ρ PA2 := fun hid fr H σ w E Q q => q [] hid H b [] w .refl .nil h
theorem ema_cons (h : Em M ta b ρ P1) (hr : ∀ b' x, P1 b' x → EmA M tr b' ρ fun b2 ds => PA1 b2 (x :: ds)) : EmA M (tCons ta tr) b ρ PA1 := fun hid fr H σ w E Q q =>
  h hid fr H σ w E _ fun v hid1 H1 b1 x w1 s1 a1 p1 => hr b1 x p1 hid1 fr H1 σ w1 (E.le s1.le) _ fun vs hid2 H2 b2 ds w2 s2 a2 p2 => q _ hid2 H2 b2 _ w2 (s1.trans s2) (.cons (a1.le s2.le) a2) p2
theorem ema_evcons (h : Ev ta ρ x) (hr : EmA M tr b ρ fun b2 ds => PA1 b2 (x :: ds)) : EmA M (tCons ta tr) b ρ PA1 := ema_cons h.em fun b' y hy => by
  obtain ⟨rfl, rfl⟩ := hy
  exact hr
theorem ema_one (h : Em M ta b ρ fun b' x => PA1 b' [x]) : EmA M (tCons ta tNil) b ρ PA1 := ema_cons h fun b' x p => ema_nil p
/-- an operator -/
theorem em_op {r : R2} (h1 : Em M ta b ρ P1) (h2 : ∀ b1 x, P1 b1 x → Em M tb b1 ρ fun b2 y => ∃ z, Rv r x y z ∧ Post b2 z) : Em M (tOp r ta tb) b ρ Post := fun hid fr H σ w E Q q =>
  h1 hid fr H σ w E _ fun v hid1 H1 b1 x w1 s1 a1 p1 => h2 b1 x p1 hid1 fr H1 σ w1 (E.le s1.le) _ fun v2 hid2 H2 b2 y w2 s2 a2 ⟨z, hz, p2⟩ =>
    hz (un hid2 fr) H2 v v2 w2.occ (a1.le s2.le) a2 Q fun w3 H3 e3 a3 => q w3 hid2 H3 b2 z (w2.ex e3) ((s1.trans s2).trans (w2.stp e3)) a3 p2
/-- the left side changes nothing -/
theorem em_opR {r : R2} (h1 : Ev ta ρ x) (h2 : Em M tb b ρ fun b2 y => ∃ z, Rv r x y z ∧ Post b2 z) : Em M (tOp r ta tb) b ρ Post := em_op h1.em fun b1 y hy => by
  obtain ⟨rfl, rfl⟩ := hy
  exact h2
/-- the right side changes nothing -/
theorem em_opL {r : R2} (h1 : Em M ta b ρ fun b2 x => ∃ y z, Ev tb ρ y ∧ Rv r x y z ∧ Post b2 z) : Em M (tOp r ta tb) b ρ Post := em_op h1 fun b1 x ⟨y, z, hy, hz, p⟩ => hy.em.imp fun b2 e q => by
  obtain ⟨rfl, rfl⟩ := q
  exact ⟨z, hz, p⟩
theorem em_cb {rc : List V → Hp → VK → Prop} (h : EmA M tr b ρ fun b' ds => ∃ z, Rc rc ds z ∧ Post b' z) : Em M (tCB rc tr) b ρ Post := fun hid fr H σ w E Q q =>
  h hid fr H σ w E _ fun vs hid1 H1 b1 ds w1 s1 a1 ⟨z, hz, p⟩ => hz (un hid1 fr) H1 vs w1.occ a1 Q fun v H2 e2 a2 => q v hid1 H2 b1 z (w1.ex e2) (s1.trans (w1.stp e2)) a2 p
theorem em_tup (h : EmA M tr b ρ fun b' es => ∃ ds : List PyData, es = ds.map .p ∧ ds.length ≤ 100000 ∧ Post b' (.p (.tuple ds))) : Em M (tTup tr) b ρ Post := fun hid fr H σ w E Q q =>
  h hid fr H σ w E _ fun vs hid1 H1 b1 es w1 s1 a1 ⟨ds, e, hl, p⟩ => by
    subst e
    refine ⟨by rw [ValsAt.length a1, List.length_map]; exact Nat.le_trans hl (by decide), fun q' hp => ?_⟩
    have ex := ex_new hp (o := .tup vs)
    exact q _ hid1 _ b1 (.p (.tuple ds)) (w1.ex ex) (s1.trans (w1.stp ex)) (.tuple (w1.occ.new hp) upd_same (a1.data.ex ex)) p
theorem em_lst (h : EmA M tr b ρ fun b' es => ∃ ds : List PyData, es = ds.map .p ∧ ds.length ≤ 100000 ∧ Post b' (.p (.list ds))) : Em M (tLst tr) b ρ Post := fun hid fr H σ w E Q q =>
  h hid fr H σ w E _ fun vs hid1 H1 b1 es w1 s1 a1 ⟨ds, e, hl, p⟩ => by
    subst e
    refine ⟨by rw [ValsAt.length a1, List.length_map]; exact Nat.le_trans hl (by decide), fun q' hp => ?_⟩
    have ex := ex_new hp (o := .lst vs)
    exact q _ hid1 _ b1 (.p (.list ds)) (w1.ex ex) (s1.trans (w1.stp ex)) (.list (w1.occ.new hp) upd_same (a1.data.ex ex)) p
theorem em_if {k : Bool} (h : EvT t ρ k) (h1 : k = true → Em M ta b ρ Post) (h2 : k = false → Em M tb b ρ Post) : Em M (tIf t ta tb) b ρ Post := fun hid fr H σ w E Q q =>
  h (un hid fr) H σ w.occ E _ fun H1 e1 => by
    cases k with
    | true => exact iteT (h1 rfl hid fr H1 σ (w.ex e1) (E.ex e1) Q fun v hid2 H2 b2 d w2 s2 => q v hid2 H2 b2 d w2 ((w.stp e1).trans s2))
    | false => exact iteF (h2 rfl hid fr H1 σ (w.ex e1) (E.ex e1) Q fun v hid2 H2 b2 d w2 s2 => q v hid2 H2 b2 d w2 ((w.stp e1).trans s2))
/-! tests -/
theorem etm_test (h : Em M te b ρ fun b' d => ∃ k, d = .p (.bool k) ∧ PT b' k) : EtM M (tTest te) b ρ PT := fun hid fr H σ w E Q q => h hid fr H σ w E _ fun v hid1 H1 b1 d w1 s1 a1 ⟨k, e, p⟩ => by
  subst e
  cases a1
  exact ⟨_, rfl, q hid1 H1 b1 k w1 s1 p⟩
theorem etm_and {PT1 : β → Bool → Prop} (h1 : EtM M t b ρ PT1) (h2 : ∀ b1, PT1 b1 true → EtM M u b1 ρ PT) (h3 : ∀ b1, PT1 b1 false → PT b1 false) : EtM M (tAnd t u) b ρ PT := fun hid fr H σ w E Q q => h1 hid fr H σ w E _ fun hid1 H1 b1 k w1 s1 p1 => by
  cases k with
  | true => exact iteT (h2 b1 p1 hid1 fr H1 σ w1 (E.le s1.le) Q fun hid2 H2 b2 k2 w2 s2 => q hid2 H2 b2 k2 w2 (s1.trans s2))
  | false => exact iteF (q hid1 H1 b1 false w1 s1 (h3 b1 p1))
theorem etm_or {PT1 : β → Bool → Prop} (h1 : EtM M t b ρ PT1) (h2 : ∀ b1, PT1 b1 false → EtM M u b1 ρ PT) (h3 : ∀ b1, PT1 b1 true → PT b1 true) : EtM M (tOr t u) b ρ PT := fun hid fr H σ w E Q q => h1 hid fr H σ w E _ fun hid1 H1 b1 k w1 s1 p1 => by
  cases k with
  | true => exact iteT (q hid1 H1 b1 true w1 s1 (h3 b1 p1))
  | false => exact iteF (h2 b1 p1 hid1 fr H1 σ w1 (E.le s1.le) Q fun hid2 H2 b2 k2 w2 s2 => q hid2 H2 b2 k2 w2 (s1.trans s2))
theorem etm_not (h1 : EtM M t b ρ fun b' k => PT b' (!k)) : EtM M (tNot t) b ρ PT := fun hid fr H σ w E Q q => h1 hid fr H σ w E _ fun hid1 H1 b1 k w1 s1 p1 => q hid1 H1 b1 _ w1 s1 p1
/-! statements -/
theorem sm_ifM {s1 s2 : TS} (h : EtM M t b ρ PT) (h1 : ∀ b', PT b' true → Sm M s1 b' ρ P) (h2 : ∀ b', PT b' false → Sm M s2 b' ρ P) : Sm M (tIfS t s1 s2) b ρ P := fun hid fr H σ E w e qn qb qc qr =>
  h hid fr H σ w e _ fun hid1 H1 b1 k w1 st p1 => by
    cases k with
    | true => exact iteT (h1 b1 p1 hid1 fr H1 σ E w1 (e.le st.le) (fun σ2 h2 H2 b2 ρ2 w2 s2 => qn σ2 h2 H2 b2 ρ2 w2 (st.trans s2)) (fun σ2 h2 H2 b2 ρ2 w2 s2 => qb σ2 h2 H2 b2 ρ2 w2 (st.trans s2))
      (fun σ2 h2 H2 b2 ρ2 w2 s2 => qc σ2 h2 H2 b2 ρ2 w2 (st.trans s2)) (fun v h2 H2 b2 d w2 s2 => qr v h2 H2 b2 d w2 (st.trans s2)))
    | false => exact iteF (h2 b1 p1 hid1 fr H1 σ E w1 (e.le st.le) (fun σ2 h2 H2 b2 ρ2 w2 s2 => qn σ2 h2 H2 b2 ρ2 w2 (st.trans s2)) (fun σ2 h2 H2 b2 ρ2 w2 s2 => qb σ2 h2 H2 b2 ρ2 w2 (st.trans s2))
      (fun σ2 h2 H2 b2 ρ2 w2 s2 => qc σ2 h2 H2 b2 ρ2 w2 (st.trans s2)) (fun v h2 H2 b2 d w2 s2 => qr v h2 H2 b2 d w2 (st.trans s2)))
theorem sq_ifM {s1 s2 s3 : TS} (h : EtM M t b ρ PT) (h1 : ∀ b', PT b' true → Sm M s1 b' ρ { P with nx := fun b' ρ' => Sm M s3 b' ρ' P }) (h2 : ∀ b', PT b' false → Sm M s2 b' ρ { P with nx := fun b' ρ' => Sm M s3 b' ρ' P }) : Sm M (tSeq (tIfS t s1 s2) s3) b ρ P :=
  sm_seq (Mid := fun b' ρ' => Sm M s3 b' ρ' P) (sm_ifM h h1 h2) fun _ _ h => h
theorem eim_of {w : TI} {xs : List PyData} (h : EvI w ρ xs) : EiM M w b ρ fun b' ys => b' = b ∧ ys = xs := fun hid fr H σ wo E R q => h (un hid fr) H σ wo.occ E R fun J H' e wk => q J hid H' b xs (wo.ex e) (wo.stp e) wk ⟨rfl, rfl⟩
theorem eim_range {Pn : β → Nat → Prop} (h : EmA M tr b ρ fun b' ds => ∃ n : Nat, ds = [.p (.int (n : Int))] ∧ n ≤ 100000 ∧ Pn b' n) : EiM M (iRng1 tr) b ρ fun b' ys => ∃ n : Nat, Pn b' n ∧ ys = (List.range n).map fun i : Nat => PyData.int (i : Int) := fun hid fr H σ wo E R q =>
  h hid fr H σ wo E _ fun vs hid1 H1 b1 ds w1 s1 a1 ⟨n, e, hn, p⟩ => by
    subst e
    cases a1 with
    | cons a r =>
      cases r
      cases a
      refine ⟨_, rfl, by omega, by omega, q _ hid1 H1 b1 _ w1 s1 (fun hid' H' le o' => ?_) ⟨n, p, rfl⟩⟩
      have hl : ((List.range n).map fun i : Nat => PyData.int (i : Int)).length = n := by simp
      have ht : ((n : Int)).toNat = n := Int.toNat_natCast n
      rw [hl]
      refine ⟨fun i hi => (by show i < ((n : Int)).toNat; omega), fun i hi => (by show ((n : Int)).toNat ≤ i; omega), fun i x H'' hi y => ?_⟩
      obtain ⟨rfl, rfl⟩ := y
      refine ⟨.int (i : Int), by simp [hi], Same.refl _, ?_⟩
      rw [Int.zero_add]
      exact .int _
theorem sm_forM {w : TI} {g : TG} {sl : List Nat} {tb : TS} {Px : β → List PyData → Prop} (Pv : List PyData → Nat → β → DL.Env → Prop) (hi : EiM M w b ρ Px) (h0 : ∀ b' xs, Px b' xs → Pv xs 0 b' ρ)
    (hs : ∀ xs i d b' ρ', xs[i]? = some d → Pv xs i b' ρ' → ∃ ρ'', EvG g sl d ρ' ρ'' ∧ Sm M tb b' ρ'' { nx := Pv xs (i + 1), ct := Pv xs (i + 1), bk := P.nx, rt := P.rt })
    (hd : ∀ xs b' ρ', Pv xs xs.length b' ρ' → P.nx b' ρ') : Sm M (tFor w g tb) b ρ P := fun hid fr H σ E wo e qn qb qc qr =>
  hi hid fr H σ wo e _ fun J hid1 H1 b1 xs w1 s1 wk px => by
    refine ⟨fun i m σ' H' => m = xs.length - i ∧ i ≤ xs.length ∧ ∃ hid' b' ρ', WOk M b' hid' fr H' ∧ Stp hid1 fr H1 hid' H' ∧ EnvAt (un hid' fr) H' σ' ρ' ∧ Pv xs i b' ρ', ⟨_, rfl, Nat.zero_le _, hid1, b1, ρ, w1, .refl, e.le s1.le, h0 b1 xs px⟩, ?_⟩
    rintro i m σ' H' ⟨rfl, hle, hid', b', ρ', w', s', e', p⟩
    obtain ⟨go, stop, yld⟩ := wk (un hid' fr) H' s'.le w'.occ
    by_cases hlt : i < xs.length
    · refine .inr ⟨go i hlt, fun σ2 H2 => ∃ hid2 b2 ρ2, WOk M b2 hid2 fr H2 ∧ Stp hid1 fr H1 hid2 H2 ∧ EnvAt (un hid2 fr) H2 σ2 ρ2 ∧ Pv xs (i + 1) b2 ρ2, fun σ2 H2 h2 => ⟨xs.length - (i + 1), by omega, rfl, hlt, h2⟩, fun x H2 y => ?_⟩
      obtain ⟨d, ed, e2, ad⟩ := yld i x H2 hlt y
      obtain ⟨ρ'', hg, hb⟩ := hs xs i d b' ρ' ed p
      refine hg (un hid' fr) H2 σ' x (e'.ex e2) ad _ fun σ2 E2 _ => ?_
      have w2 := w'.ex e2
      have s2 := s'.trans (w'.stp e2)
      exact hb hid' fr H2 σ2 _ w2 E2 (fun σ3 h3 H3 b3 ρ3 w3 s3 e3 p3 => ⟨h3, b3, ρ3, w3, s2.trans s3, e3, p3⟩) (fun σ3 h3 H3 b3 ρ3 w3 s3 e3 p3 => qn σ3 h3 H3 b3 ρ3 w3 (s1.trans (s2.trans s3)) e3 p3)
        (fun σ3 h3 H3 b3 ρ3 w3 s3 e3 p3 => ⟨h3, b3, ρ3, w3, s2.trans s3, e3, p3⟩) (fun v h3 H3 b3 d3 w3 s3 a3 p3 => qr v h3 H3 b3 d3 w3 (s1.trans (s2.trans s3)) a3 p3)
    · have hi : i = xs.length := by omega
      subst hi
      exact .inl ⟨stop _ (Nat.le_refl _), qn σ' hid' H' b' ρ' w' (s1.trans s') e' (hd xs b' ρ' p)⟩
theorem sq_forM {w : TI} {g : TG} {sl : List Nat} {tb s3 : TS} {Px : β → List PyData → Prop} (Pv : List PyData → Nat → β → DL.Env → Prop) (hi : EiM M w b ρ Px) (h0 : ∀ b' xs, Px b' xs → Pv xs 0 b' ρ)
    (hs : ∀ xs i d b' ρ', xs[i]? = some d → Pv xs i b' ρ' → ∃ ρ'', EvG g sl d ρ' ρ'' ∧ Sm M tb b' ρ'' { nx := Pv xs (i + 1), ct := Pv xs (i + 1), bk := fun b' ρ' => Sm M s3 b' ρ' P, rt := P.rt })
    (hd : ∀ xs b' ρ', Pv xs xs.length b' ρ' → Sm M s3 b' ρ' P) : Sm M (tSeq (tFor w g tb) s3) b ρ P :=
  sm_seq (Mid := fun b' ρ' => Sm M s3 b' ρ' P) (sm_forM Pv hi h0 hs hd) fun _ _ h => h
/-- target = e, a target of names -/
theorem sq_asgM {g : TG} {sl : List Nat} {s3 : TS} (h : Em M te b ρ Post) (k : ∀ b' d, Post b' d → ∃ p ρ', d = .p p ∧ EvG g sl p ρ ρ' ∧ Sm M s3 b' ρ' P) : Sm M (tSeq (tAsg te g) s3) b ρ P := fun hid fr H σ E w e qn qb qc qr =>
  h hid fr H σ w e _ fun v hid1 H1 b1 d w1 s1 a1 p1 => by
    obtain ⟨p, ρ', rfl, hg, hs⟩ := k b1 d p1
    refine hg (un hid1 fr) H1 σ v (e.le s1.le) a1 _ fun σ' E' _ => hs hid1 fr H1 σ' E w1 E' (fun σ2 h2 H2 b2 ρ2 w2 s2 => qn σ2 h2 H2 b2 ρ2 w2 (s1.trans s2)) (fun σ2 h2 H2 b2 ρ2 w2 s2 => qb σ2 h2 H2 b2 ρ2 w2 (s1.trans s2))
      (fun σ2 h2 H2 b2 ρ2 w2 s2 => qc σ2 h2 H2 b2 ρ2 w2 (s1.trans s2)) (fun v h2 H2 b2 d w2 s2 => qr v h2 H2 b2 d w2 (s1.trans s2))
end
end NW
set_option Elab.async false
set_option linter.all false
set_option maxRecDepth 100000
set_option maxHeartbeats 4000000
/-! The maker of draws: a dict of two lists and a number, hidden. -/
namespace NW
open PySem PySem.Spec PyProof.Rows L2 DL SL

structure M5 where
  cl : Addr
  lf : Addr
  cells : List Int
  left : List Int
  k : Int
structure M5At (am : Addr) (b : M5) (hid : Hid) (H : Hp) : Prop where
  hd : ∀ x, hid x ↔ (x = am ∨ x = b.cl ∨ x = b.lf)
  n1 : am ≠ b.cl
  n2 : am ≠ b.lf
  n3 : b.cl ≠ b.lf
  m : H am = some (.dK [(.inr "cells", .ref b.cl), (.inr "left", .ref b.lf), (.inr "at", .int b.k)])
  c : H b.cl = some (.lst (b.cells.map .int))
  l : H b.lf = some (.lst (b.left.map .int))
def MS5 (am : Addr) : Mo M5 where
  at_ := M5At am
  loc h e := ⟨h.hd, h.n1, h.n2, h.n3, (e _ ((h.hd _).mpr (.inl rfl))).trans h.m, (e _ ((h.hd _).mpr (.inr (.inl rfl)))).trans h.c, (e _ ((h.hd _).mpr (.inr (.inr rfl)))).trans h.l⟩
  occ h a q z := by
    rcases (h.hd a).mp q with e | e | e
    · rw [e, h.m] at z; cases z
    · rw [e, h.c] at z; cases z
    · rw [e, h.l] at z; cases z
/-- at most n draws so far -/
def MS (am : Addr) : Mo Nat where
  at_ n hid H := ∃ b : M5, M5At am b hid H ∧ 0 ≤ b.k ∧ b.k ≤ (n : Int) ∧ b.cells.length ≤ 1000 ∧ b.left.length ≤ 1000
  loc := fun ⟨b, h, r⟩ e => ⟨b, (MS5 am).loc h e, r⟩
  occ := fun ⟨b, h, _⟩ => (MS5 am).occ (b := b) h
theorem MS.up {am : Addr} {n n' : Nat} {hid fr : Hid} {H : Hp} (w : WOk (MS am) n hid fr H) (h : n ≤ n') : WOk (MS am) n' hid fr H := by
  obtain ⟨b, hb, h1, h2, r⟩ := w.st
  exact ⟨⟨b, hb, h1, by omega, r⟩, w.ofr, w.dj⟩
section
variable {am : Addr} {b : M5} {ρ : DL.Env} {i : Nat} {K : PySem.W.Frag} {P : Po M5}
theorem slot_v {hid : Hid} {H : Hp} {σ : L2.St} (E : EnvAt hid H σ ρ) {x : V} (hi : ρ[i]? = some (some (.v x))) : σ[i]? = some (some x) := by
  obtain ⟨v, ev, hv⟩ := E.at_ i _ hi
  obtain rfl := hv
  exact ev
theorem em5_left (hi : ρ[i]? = some (some (.v (.ref am)))) : Em (MS5 am) (tDGet (tVar i) (tC (.str "left"))) b ρ fun b' d => b' = b ∧ d = .v (.ref b.lf) := fun hid fr H σ w E Q q =>
  ⟨_, slot_v E hi, am, .ref b.lf, rfl, .inl ⟨_, .inr "left", .inl w.st.m, rfl, rfl⟩, q _ hid H b (.v (.ref b.lf)) w .refl rfl ⟨rfl, rfl⟩⟩
theorem em5_cells (hi : ρ[i]? = some (some (.v (.ref am)))) : Em (MS5 am) (tDGet (tVar i) (tC (.str "cells"))) b ρ fun b' d => b' = b ∧ d = .v (.ref b.cl) := fun hid fr H σ w E Q q =>
  ⟨_, slot_v E hi, am, .ref b.cl, rfl, .inl ⟨_, .inr "cells", .inl w.st.m, rfl, rfl⟩, q _ hid H b (.v (.ref b.cl)) w .refl rfl ⟨rfl, rfl⟩⟩
theorem em5_at (hi : ρ[i]? = some (some (.v (.ref am)))) : Em (MS5 am) (tDGet (tVar i) (tC (.str "at"))) b ρ fun b' d => b' = b ∧ d = .p (.int b.k) := fun hid fr H σ w E Q q =>
  ⟨_, slot_v E hi, am, .int b.k, rfl, .inl ⟨_, .inr "at", .inl w.st.m, rfl, rfl⟩, q _ hid H b (.p (.int b.k)) w .refl (At.int _) ⟨rfl, rfl⟩⟩
/-- a hidden list of ints -/
def Lst5 (am : Addr) (b : M5) (x : Addr) (xs : List Int) : Prop := ∀ hid H, M5At am b hid H → H x = some (.lst (xs.map .int))
theorem lst_left : Lst5 am b b.lf b.left := fun hid H h => h.l
theorem lst_cells : Lst5 am b b.cl b.cells := fun hid H h => h.c
theorem dpAll_ints {H : Hp} : ∀ xs : List Int, DpAll K H (xs.map V.int) (xs.map .int)
  | [] => .nil
  | x :: r => .cons (.int x) (dpAll_ints r)
theorem etm5_ne {te : TE} {x : Addr} {xs : List Int} (h : Em (MS5 am) te b ρ fun b' d => b' = b ∧ d = .v (.ref x)) (hl : Lst5 am b x xs) : EtM (MS5 am) (tTest (tOp (rNeD K) te (tLst tNil))) b ρ fun b' k => b' = b ∧ k = !xs.isEmpty := fun hid fr H σ w E Q q =>
  h hid fr H σ w E _ fun v hid1 H1 b1 d w1 s1 a1 ⟨e1, e2⟩ => by
    subst e1
    subst e2
    obtain rfl := a1
    refine ⟨by show 0 ≤ sizeLine; decide, fun p hp => ?_⟩
    have ex := ex_new hp (o := .lst [])
    have hx := ex _ _ (hl _ _ w1.st)
    refine ⟨.list (xs.map .int), .list [], .lst (.of hx) (dpAll_ints xs), .lst (.of upd_same) .nil, shaped_list (fun y hy => ?_), shaped_list (fun y hy => nomatch hy), ?_⟩
    · obtain ⟨z, _, rfl⟩ := List.mem_map.mp hy
      trivial
    · refine ⟨_, rfl, q hid1 _ b1 _ (w1.ex ex) (s1.trans (w1.stp ex)) ⟨rfl, ?_⟩⟩
      rw [eqv_nilL]
      cases xs <;> rfl
theorem em5_ix {te ti : TE} {x : Addr} {xs : List Int} {j : Nat} {n : Int} (h : Em (MS5 am) te b ρ fun b' d => b' = b ∧ d = .v (.ref x)) (hl : Lst5 am b x xs) (hti : Em (MS5 am) ti b ρ fun b' d => b' = b ∧ d = .p (.int (j : Int))) (hj : xs[j]? = some n) :
    Em (MS5 am) (tOp (rIxL K) te ti) b ρ fun b' d => b' = b ∧ d = .p (.int n) := fun hid fr H σ w E Q q =>
  h hid fr H σ w E _ fun v hid1 H1 b1 d w1 s1 a1 ⟨e1, e2⟩ => by
    subst e1
    subst e2
    obtain rfl := a1
    refine hti hid1 fr H1 σ w1 (E.le s1.le) _ fun v2 hid2 H2 b2 d2 w2 s2 a2 ⟨e3, e4⟩ => ?_
    subst e3
    subst e4
    cases a2
    have hm : (xs.map V.int)[j]? = some (V.int n) := by rw [List.getElem?_map, hj]; rfl
    exact ⟨x, xs.map .int, (j : Int), .int n, rfl, rfl, .of (hl _ _ w2.st), atI_nat hm, q _ hid2 H2 b2 (.p (.int n)) w2 (s1.trans s2) (At.int _) ⟨rfl, rfl⟩⟩
theorem em5_len {te : TE} {x : Addr} {xs : List Int} (h : Em (MS5 am) te b ρ fun b' d => b' = b ∧ d = .v (.ref x)) (hl : Lst5 am b x xs) :
    Em (MS5 am) (tCB (fun xs H Q => ∃ p ys, xs = [.ref p] ∧ (SqL K H p ys ∨ SqT K H p ys) ∧ Q (.int ys.length) H) (tCons te tNil)) b ρ fun b' d => b' = b ∧ d = .p (.int (xs.length : Int)) := fun hid fr H σ w E Q q =>
  h hid fr H σ w E _ fun v hid1 H1 b1 d w1 s1 a1 ⟨e1, e2⟩ => by
    subst e1
    subst e2
    obtain rfl := a1
    refine ⟨x, xs.map .int, rfl, .inl (.of (hl _ _ w1.st)), ?_⟩
    rw [List.length_map]
    exact q _ hid1 H1 b1 (.p (.int (xs.length : Int))) w1 s1 (At.int _) ⟨rfl, rfl⟩
/-- the heap with something of the state written -/
theorem wok_put {b' : M5} {hid fr : Hid} {H : Hp} {x : Addr} {o : HO} (w : WOk (MS5 am) b hid fr H) (hx : hid x) (h : M5At am b' hid (upd H x o)) : WOk (MS5 am) b' hid fr (upd H x o) ∧ Stp hid fr H hid (upd H x o) := by
  have nf : ∀ a, fr a → a ≠ x := fun a ha e => w.dj a ha (by rw [e]; exact hx)
  refine ⟨⟨h, fun a ha => ?_, w.dj⟩, ⟨fun a ha => upd_ne (nf a ha), fun a u n ha => ⟨n, ?_⟩⟩⟩
  · rw [upd_ne (nf a ha)]
    exact w.ofr a ha
  · rw [upd_ne fun e => n (.inl (by rw [e]; exact hx))]
    exact ha
/-- m['at'] = e -/
theorem sm5_at {te : TE} {n : Int} (hi : ρ[i]? = some (some (.v (.ref am)))) (h : Ev te ρ (.p (.int n))) (k : P.nx { b with k := n } ρ) : Sm (MS5 am) (sDPut (tVar i) (tC (.str "at")) te) b ρ P := fun hid fr H σ E w e qn _ _ _ =>
  h (un hid fr) H σ w.occ e _ fun v H1 e1 a1 => by
    cases a1
    have w1 := w.ex e1
    have h1 := w1.st
    have hput : putK [(.inr "cells", .ref b.cl), (.inr "left", .ref b.lf), (.inr "at", .int b.k)] (.inr "at" : Key) (V.int n) = [(.inr "cells", .ref b.cl), (.inr "left", .ref b.lf), (.inr "at", .int n)] := by
      simp only [putK, List.map_cons, List.map_nil]
      rfl
    refine ⟨_, slot_v e hi, am, _, rfl, .inl ⟨_, .inr "at", h1.m, rfl, by show 3 < sizeLine; decide, rfl⟩, ?_⟩
    rw [hput]
    obtain ⟨w2, s2⟩ := wok_put (b' := { b with k := n }) (o := .dK [(.inr "cells", .ref b.cl), (.inr "left", .ref b.lf), (.inr "at", .int n)]) w1 ((h1.hd am).mpr (.inl rfl)) ⟨h1.hd, h1.n1, h1.n2, h1.n3, upd_same, (upd_ne h1.n1.symm).trans h1.c, (upd_ne h1.n2.symm).trans h1.l⟩
    exact qn σ hid _ _ ρ w2 ((w.stp e1).trans s2) ((e.ex e1).le s2.le) k
/-- m['left'][0] = e -/
theorem sm5_set0 {te : TE} {n m : Int} {r : List Int} (hi : ρ[i]? = some (some (.v (.ref am)))) (h : Ev te ρ (.p (.int n))) (hb : b.left = m :: r) (k : P.nx { b with left := n :: r } ρ) : Sm (MS5 am) (tAsg te (gSub (tDGet (tVar i) (tC (.str "left"))) (tC (.int 0)) rSetL)) b ρ P := fun hid fr H σ E w e qn _ _ _ =>
  h (un hid fr) H σ w.occ e _ fun v H1 e1 a1 => by
    cases a1
    have w1 := w.ex e1
    have h1 := w1.st
    refine ⟨_, slot_v (e.ex e1) hi, am, .ref b.lf, rfl, .inl ⟨_, .inr "left", .inl h1.m, rfl, rfl⟩, b.lf, b.left.map .int, 0, 0, rfl, rfl, h1.l, ?_, ?_⟩
    · rw [hb]
      rw [List.length_map, List.length_cons]
      unfold ixN
      rw [if_pos (by omega), if_pos (by omega)]
      rfl
    · have hset : (b.left.map V.int).set 0 (.int n) = (n :: r).map .int := by rw [hb]; rfl
      rw [hset]
      obtain ⟨w2, s2⟩ := wok_put (b' := { b with left := n :: r }) (o := .lst ((n :: r).map .int)) w1 ((h1.hd b.lf).mpr (.inr (.inr rfl))) ⟨h1.hd, h1.n1, h1.n2, h1.n3, (upd_ne h1.n2).trans h1.m, (upd_ne h1.n3).trans h1.c, upd_same⟩
      exact qn σ hid _ _ ρ w2 ((w.stp e1).trans s2) ((e.ex e1).le s2.le) k
/-- m['left'] = m['left'][1:] -/
theorem sm5_drop (hi : ρ[i]? = some (some (.v (.ref am)))) (k : ∀ lf, P.nx { b with lf := lf, left := b.left.drop 1 } ρ) : Sm (MS5 am) (sDPut (tVar i) (tC (.str "left")) (tSl (rSlL K) (tDGet (tVar i) (tC (.str "left"))) (tPart (tC (.int 1))) tNoPart)) b ρ P := fun hid fr H σ E w e qn _ _ _ => by
  have h0 := w.st
  refine ⟨_, slot_v e hi, am, .ref b.lf, rfl, .inl ⟨_, .inr "left", .inl h0.m, rfl, rfl⟩, 1, rfl, b.lf, b.left.map .int, rfl, .of h0.l, fun p hp => ?_⟩
  have nh : ¬ un hid fr p := w.occ.new hp
  have np : ∀ x, hid x → x ≠ p := fun x hx e => nh (.inl (by rw [← e]; exact hx))
  have hcut : cutV (b.left.map V.int) (some 1) none = (b.left.drop 1).map .int := by
    unfold cutV
    rw [show (1 : Int) = ((1 : Nat) : Int) from rfl, HT.sIx_nat, HT.sIx_none, List.length_map]
    cases hbl : b.left with
    | nil => rfl
    | cons z r =>
      simp only [List.length_cons, List.map_cons, List.drop_one, List.tail_cons]
      rw [Nat.min_eq_left (by omega), List.drop_one, List.tail_cons, List.take_of_length_le (by rw [List.length_map]; omega)]
  rw [hcut]
  have ex := ex_new hp (o := .lst ((b.left.drop 1).map .int))
  have hput : putK [(.inr "cells", .ref b.cl), (.inr "left", .ref b.lf), (.inr "at", .int b.k)] (.inr "left" : Key) (V.ref p) = [(.inr "cells", .ref b.cl), (.inr "left", .ref p), (.inr "at", .int b.k)] := by
    rfl
  refine ⟨_, slot_v e hi, am, _, rfl, .inl ⟨_, .inr "left", ex _ _ h0.m, rfl, by show 3 < sizeLine; decide, rfl⟩, ?_⟩
  rw [hput]
  have amh : hid am := (h0.hd am).mpr (.inl rfl)
  have clh : hid b.cl := (h0.hd _).mpr (.inr (.inl rfl))
  -- the new list is the state's, the old one nobody's
  let hid2 : Hid := fun x => x = am ∨ x = b.cl ∨ x = p
  have st2 : M5At am { b with lf := p, left := b.left.drop 1 } hid2 (upd (upd H p (.lst ((b.left.drop 1).map .int))) am (.dK [(.inr "cells", .ref b.cl), (.inr "left", .ref p), (.inr "at", .int b.k)])) :=
    ⟨fun x => Iff.rfl, h0.n1, np am amh, np _ clh, upd_same, (upd_ne h0.n1.symm).trans ((upd_ne (np _ clh)).trans h0.c), (upd_ne (np am amh).symm).trans upd_same⟩
  have frn : ∀ a, fr a → a ≠ am ∧ a ≠ p ∧ a ≠ b.cl := fun a ha => ⟨fun e => w.dj a ha (by rw [e]; exact amh), fun e => nh (.inr (by rw [← e]; exact ha)), fun e => w.dj a ha (by rw [e]; exact clh)⟩
  have w2 : WOk (MS5 am) { b with lf := p, left := b.left.drop 1 } hid2 fr (upd (upd H p (.lst ((b.left.drop 1).map .int))) am (.dK [(.inr "cells", .ref b.cl), (.inr "left", .ref p), (.inr "at", .int b.k)])) := by
    refine ⟨st2, fun a ha => ?_, fun a ha hx => ?_⟩
    · obtain ⟨f1, f2, f3⟩ := frn a ha
      rw [upd_ne f1, upd_ne f2]
      exact w.ofr a ha
    · obtain ⟨f1, f2, f3⟩ := frn a ha
      rcases hx with e | e | e
      · exact f1 e
      · exact f3 e
      · exact f2 e
  have s2 : Stp hid fr H hid2 (upd (upd H p (.lst ((b.left.drop 1).map .int))) am (.dK [(.inr "cells", .ref b.cl), (.inr "left", .ref p), (.inr "at", .int b.k)])) := by
    refine ⟨fun a ha => ?_, fun a u n ha => ?_⟩
    · obtain ⟨f1, f2, f3⟩ := frn a ha
      rw [upd_ne f1, upd_ne f2]
    · have a1 : a ≠ am := fun e => n (.inl (by rw [e]; exact amh))
      have a2 : a ≠ p := ne_of_none ha hp
      have a3 : a ≠ b.cl := fun e => n (.inl (by rw [e]; exact clh))
      refine ⟨fun q => ?_, by rw [upd_ne a1, upd_ne a2]; exact ha⟩
      rcases q with (e | e | e) | q
      · exact a1 e
      · exact a3 e
      · exact a2 e
      · exact n (.inr q)
  exact qn σ hid2 _ _ ρ w2 s2 (e.le s2.le) (k p)
end
end NW
set_option Elab.async false
set_option linter.all false
set_option maxRecDepth 100000
set_option maxHeartbeats 4000000
/-! Promises of defs that get the maker of draws. -/
namespace NW
open PySem PySem.Spec PyProof.Rows L2 DL SL

section
variable {β : Type} {M : Mo β} {b : β} {ρ : DL.Env} {P : Po β} {PT : β → Bool → Prop} {Post : β → D → Prop} {ta tb : TE} {t : TT}
/-- while, with a measure -/
theorem sm_whileM {tc : TT} {tb : TS} (Wv : Nat → β → DL.Env → Prop) {m : Nat} (h0 : Wv m b ρ)
    (hs : ∀ m b' ρ', Wv m b' ρ' → ∃ PT : β → Bool → Prop, EtM M tc b' ρ' PT ∧ (∀ b2, PT b2 true → Sm M tb b2 ρ' { nx := fun b3 ρ3 => ∃ m', m' < m ∧ Wv m' b3 ρ3, ct := fun b3 ρ3 => ∃ m', m' < m ∧ Wv m' b3 ρ3, bk := P.nx, rt := P.rt }) ∧ ∀ b2, PT b2 false → P.nx b2 ρ') :
    Sm M (tWhile tc tb) b ρ P := fun hid fr H σ E w e qn qb qc qr => by
  refine ⟨fun m σ' H' => ∃ hid' b' ρ', WOk M b' hid' fr H' ∧ Stp hid fr H hid' H' ∧ EnvAt (un hid' fr) H' σ' ρ' ∧ Wv m b' ρ', ⟨m, hid, b, ρ, w, .refl, e, h0⟩, ?_⟩
  rintro m σ' H' ⟨hid', b', ρ', w', s', e', p⟩
  obtain ⟨PT, ht, h1, h2⟩ := hs m b' ρ' p
  refine ht hid' fr H' σ' w' e' _ fun hid2 H2 b2 k w2 s2 p2 => ?_
  have s12 := s'.trans s2
  cases k with
  | true =>
    rw [if_pos rfl]
    refine ⟨fun σ3 H3 => ∃ m', m' < m ∧ ∃ hid' b' ρ', WOk M b' hid' fr H3 ∧ Stp hid fr H hid' H3 ∧ EnvAt (un hid' fr) H3 σ3 ρ' ∧ Wv m' b' ρ', fun _ _ h => h, ?_⟩
    exact h1 b2 p2 hid2 fr H2 σ' _ w2 (e'.le s2.le) (fun σ3 h3 H3 b3 ρ3 w3 s3 e3 ⟨m', hm, p3⟩ => ⟨m', hm, h3, b3, ρ3, w3, s12.trans s3, e3, p3⟩) (fun σ3 h3 H3 b3 ρ3 w3 s3 e3 p3 => qn σ3 h3 H3 b3 ρ3 w3 (s12.trans s3) e3 p3)
      (fun σ3 h3 H3 b3 ρ3 w3 s3 e3 ⟨m', hm, p3⟩ => ⟨m', hm, h3, b3, ρ3, w3, s12.trans s3, e3, p3⟩) (fun v h3 H3 b3 d3 w3 s3 a3 p3 => qr v h3 H3 b3 d3 w3 (s12.trans s3) a3 p3)
  | false =>
    rw [if_neg Bool.false_ne_true]
    exact qn σ' hid2 H2 b2 ρ' w2 s12 (e'.le s2.le) (h2 b2 p2)
theorem em_ifM (h : EtM M t b ρ PT) (h1 : ∀ b', PT b' true → Em M ta b' ρ Post) (h2 : ∀ b', PT b' false → Em M tb b' ρ Post) : Em M (tIf t ta tb) b ρ Post := fun hid fr H σ w E Q q =>
  h hid fr H σ w E _ fun hid1 H1 b1 k w1 s1 p1 => by
    cases k with
    | true => exact iteT (h1 b1 p1 hid1 fr H1 σ w1 (E.le s1.le) Q fun v hid2 H2 b2 d w2 s2 => q v hid2 H2 b2 d w2 (s1.trans s2))
    | false => exact iteF (h2 b1 p1 hid1 fr H1 σ w1 (E.le s1.le) Q fun v hid2 H2 b2 d w2 s2 => q v hid2 H2 b2 d w2 (s1.trans s2))
/-- a, b = x, y of plain names -/
theorem sq_parM {i j : Nat} {tr : TA} {u : TS} {PA2 : β → List D → Prop} (h : EmA M tr b ρ PA2) (k : ∀ b' ds, PA2 b' ds → ∃ x y, ds = [x, y] ∧ Sm M u b' ((ρ.set i (some x)).set j (some y)) P) : Sm M (tSeq (tPar i j tr) u) b ρ P := fun hid fr H σ E w e qn qb qc qr =>
  h hid fr H σ w e _ fun vs hid1 H1 b1 ds w1 s1 a1 p1 => by
    obtain ⟨x, y, rfl, hk⟩ := k b1 ds p1
    cases a1 with
    | cons a1 r =>
      cases r with
      | cons a2 r =>
        cases r
        refine ⟨_, _, rfl, ?_⟩
        exact hk hid1 fr H1 _ E w1 (((e.le s1.le).set i a1).set j a2) (fun σ2 h2 H2 b2 ρ2 w2 s2 => qn σ2 h2 H2 b2 ρ2 w2 (s1.trans s2)) (fun σ2 h2 H2 b2 ρ2 w2 s2 => qb σ2 h2 H2 b2 ρ2 w2 (s1.trans s2))
          (fun σ2 h2 H2 b2 ρ2 w2 s2 => qc σ2 h2 H2 b2 ρ2 w2 (s1.trans s2)) (fun v h2 H2 b2 d w2 s2 => qr v h2 H2 b2 d w2 (s1.trans s2))
end

def bnd (n : Nat) (b : M5) : Prop := 0 ≤ b.k ∧ b.k ≤ (n : Int) ∧ b.cells.length ≤ 1000 ∧ b.left.length ≤ 1000
/-- a statement by the exact state -/
theorem sm_MS {am : Addr} {t : TS} {n : Nat} {ρ : DL.Env} {P : Po Nat} (h : ∀ b, bnd n b → Sm (MS5 am) t b ρ { nx := fun b' ρ' => ∃ n', bnd n' b' ∧ P.nx n' ρ', rt := fun b' d => ∃ n', bnd n' b' ∧ P.rt n' d, bk := fun b' ρ' => ∃ n', bnd n' b' ∧ P.bk n' ρ', ct := fun b' ρ' => ∃ n', bnd n' b' ∧ P.ct n' ρ' }) : Sm (MS am) t n ρ P := fun hid fr H σ E w e qn qb qc qr => by
  obtain ⟨b, hb, bd⟩ := w.st
  exact h b bd hid fr H σ E ⟨hb, w.ofr, w.dj⟩ e (fun σ2 h2 H2 b2 ρ2 w2 s2 e2 ⟨n', bn, p⟩ => qn σ2 h2 H2 n' ρ2 ⟨⟨b2, w2.st, bn⟩, w2.ofr, w2.dj⟩ s2 e2 p) (fun σ2 h2 H2 b2 ρ2 w2 s2 e2 ⟨n', bn, p⟩ => qb σ2 h2 H2 n' ρ2 ⟨⟨b2, w2.st, bn⟩, w2.ofr, w2.dj⟩ s2 e2 p)
    (fun σ2 h2 H2 b2 ρ2 w2 s2 e2 ⟨n', bn, p⟩ => qc σ2 h2 H2 n' ρ2 ⟨⟨b2, w2.st, bn⟩, w2.ofr, w2.dj⟩ s2 e2 p) (fun v h2 H2 b2 d w2 s2 a2 ⟨n', bn, p⟩ => qr v h2 H2 n' d ⟨⟨b2, w2.st, bn⟩, w2.ofr, w2.dj⟩ s2 a2 p)

abbrev mostN : Nat := 2 ^ 50
def spS (c : Nat) (pre : List D → Prop) (g : List D → D → Prop) : Sp := fun vs H Q _ => ∃ (am : Addr) (us : List V) (hid fr : Hid) (n : Nat) (ds : List D), vs = .ref am :: us ∧ WOk (MS am) n hid fr H ∧ n + c ≤ mostN ∧ ValsAt (un hid fr) H ds us ∧ pre ds ∧
  ∀ v H' hid' d, WOk (MS am) (n + c) hid' fr H' → Stp hid fr H hid' H' → ValAt (un hid' fr) H' d v → g ds d → Q v H'
theorem em_callS {am : Addr} {n c : Nat} {pre : List D → Prop} {g : List D → D → Prop} {E : XK} {ta : TA} {ρ : DL.Env} {i : Nat} {Post : Nat → D → Prop} (hi : ρ[i]? = some (some (.v (.ref am))))
    (h : EmA (MS am) ta n ρ fun n' ds => n' + c ≤ mostN ∧ pre ds ∧ ∀ d, g ds d → Post (n' + c) d) : Em (MS am) (tCall (spS c pre g) [] E (tCons (tVar i) ta)) n ρ Post := fun hid fr H σ w En Q q =>
  ⟨_, slot_v En hi, h hid fr H σ w En _ fun vs hid1 H1 n1 ds w1 s1 a1 ⟨hn, hp, hq⟩ => by
    show spS c pre g ((V.ref am :: vs) ++ []) H1 Q E
    rw [List.append_nil]
    exact ⟨am, vs, hid1, fr, n1, ds, rfl, w1, hn, a1, hp, fun v H' hid' d w' s' a' hg => q v hid' H' (n1 + c) d w' (s1.trans s') a' (hq d hg)⟩⟩
theorem fn_state {P : Program} {w : World} {K : PySem.W.Frag} {mg : Str → Option Value} {base : Heap} {x qual : Str} {st : Stmt} {f : Addr} {fd : FuncData} {N ps : List Str} {k c : Nat} {pre : List D → Prop} {g : List D → D → Prop} (F : Fun K x qual st f fd) (S : FnScope N ps (defScope st))
    (len : ∀ ds, pre ds → ds.length + 1 = ps.length) (hN : ps.length ≤ N.length)
    (hbody : ∀ (cdv : Value) (A : Around) (outer : List PySem.Env) (s : Shared) (H : Hp) (E : XK), Room k (A.deeper (envOfC qual (defScope st) s.heap.objs.size f cdv)) →
      ∃ t, PSs (cxOf CX0 P w K mg base N qual (defScope st) f cdv A outer s H E).nox (defBody st) t ∧ ∀ am n ds, pre ds → n + c ≤ mostN →
        Sm (MS am) t n (((D.v (.ref am)) :: ds).map some ++ List.replicate (N.length - (ds.length + 1)) none) { nx := fun n' _ => n' ≤ n + c ∧ g ds (.p .none), rt := fun n' d => n' ≤ n + c ∧ g ds d }) :
    FnOk P w K mg base CX0 (k + 1) f fd ps (spS c pre g) := by
  refine F.ok S (fun vs H Q E h => ?_) (fun cdv A outer s H vs Q E hr h => ?_)
  · obtain ⟨am, us, hid, fr, n, ds, rfl, wo, hn, a, hp, q⟩ := h
    rw [List.length_cons, a.length, len ds hp]
  · obtain ⟨am, us, hid, fr, n, ds, rfl, wo, hn, a, hp, q⟩ := h
    obtain ⟨t, ht, hs⟩ := hbody cdv A outer s H E hr
    refine ⟨t, ht, ?_⟩
    have ea := start_at (N := N) (ValsAt.cons (d := .v (.ref am)) (v := .ref am) rfl a) (by rw [List.length_cons, a.length, len ds hp]; exact hN)
    refine hs am n ds hp hn hid fr H _ _ wo ea ?_ ?_ ?_ ?_
    · intro σ' hid' H' n' ρ' w' s' e' ⟨hl, p⟩
      exact q .non H' hid' (.p .none) (MS.up w' hl) s' At.non p
    · intro _ _ _ _ _ _ _ _ p; exact p.elim
    · intro _ _ _ _ _ _ _ _ p; exact p.elim
    · intro v hid' H' n' d w' s' av ⟨hl, p⟩
      exact q v H' hid' d (MS.up w' hl) s' av p
theorem calS_of {P : Program} {w : World} {K : PySem.W.Frag} {mg : Str → Option Value} {base : Heap} {x : Str} {st : Stmt} {N ps : List Str} {k c : Nat} {pre : List D → Prop} {g : List D → D → Prop} (h : Has K mg x st) (S : FnScope N ps (defScope st))
    (hb : ∀ (kV doc pm : Value) (an : Option Addr) (cdv ct : Value) (us : List Value), us.length = ps.length → bindArgs (PySem.W.fnOf x x (defArgs st) (defBody st) (defScope st) .none kV doc pm an cdv ct) ⟨us, []⟩ = pure (ps.zip us))
    (len : ∀ ds, pre ds → ds.length + 1 = ps.length) (hN : ps.length ≤ N.length)
    (hbody : ∀ (f : Addr) (cdv : Value) (A : Around) (outer : List PySem.Env) (s : Shared) (H : Hp) (E : XK), Room k (A.deeper (envOfC x (defScope st) s.heap.objs.size f cdv)) →
      ∃ t, PSs (cxOf CX0 P w K mg base N x (defScope st) f cdv A outer s H E).nox (defBody st) t ∧ ∀ am n ds, pre ds → n + c ≤ mostN →
        Sm (MS am) t n (((D.v (.ref am)) :: ds).map some ++ List.replicate (N.length - (ds.length + 1)) none) { nx := fun n' _ => n' ≤ n + c ∧ g ds (.p .none), rt := fun n' d => n' ≤ n + c ∧ g ds d }) :
    Cal P w K mg base x (k + 1) ps (spS c pre g) := by
  obtain ⟨f, fd, hm, F⟩ := h.ex
  exact ⟨f, fd, hm, F.kp, F.binds hb, fn_state F S len hN (hbody f)⟩
/-! the draw -/
abbrev pre_next : List D → Prop := fun ds => ∃ m : Int, 1 ≤ m ∧ m < 2 ^ 30 ∧ ds = [.p (.int m)]
abbrev R_next : List D → D → Prop := fun ds d => ∃ (m : Int) (r : Nat), ds = [.p (.int m)] ∧ (r : Int) < m ∧ d = .p (.int (r : Int))
theorem em_next {am : Addr} {n : Nat} {E : XK} {ta : TE} {ρ : DL.Env} {i : Nat} {Post : Nat → D → Prop} (hi : ρ[i]? = some (some (.v (.ref am))))
    (h : Em (MS am) ta n ρ fun n' d => ∃ m : Int, 1 ≤ m ∧ m < 2 ^ 30 ∧ d = .p (.int m) ∧ n' + 1 ≤ mostN ∧ ∀ r : Nat, (r : Int) < m → Post (n' + 1) (.p (.int (r : Int)))) :
    Em (MS am) (tCall (spS 1 pre_next R_next) [] E (tCons (tVar i) (tCons ta tNil))) n ρ Post :=
  em_callS hi (ema_one (h.imp fun n' d ⟨m, h1, h2, e, h3, h4⟩ => by
    subst e
    refine ⟨h3, ⟨m, h1, h2, rfl⟩, ?_⟩
    rintro d ⟨m', r, e, hr, rfl⟩
    cases e
    exact h4 r hr))
/-- the draw of a number below a written one -/
theorem em_nextI {am : Addr} {n : Nat} {E : XK} {m : Int} {ρ : DL.Env} {i : Nat} {Post : Nat → D → Prop} (hi : ρ[i]? = some (some (.v (.ref am)))) (hm : n + 1 ≤ mostN) (h : ∀ r : Nat, (r : Int) < m → Post (n + 1) (.p (.int (r : Int)))) (h1 : 1 ≤ m := by decide) (h2 : m < 2 ^ 30 := by decide) :
    Em (MS am) (tCall (spS 1 pre_next R_next) [] E (tCons (tVar i) (tCons (tC (.int m)) tNil))) n ρ Post :=
  em_next hi (ev_int.em.imp fun n' d ⟨e1, e2⟩ => by
    subst e1
    exact ⟨m, h1, h2, e2, hm, h⟩)
end NW
set_option Elab.async false
set_option linter.all false
set_option maxRecDepth 100000
set_option maxHeartbeats 4000000
namespace SL
open PySem PySem.Spec PyProof.Rows L2 DL FM NW

section
variable {P : Program} {w : World} {K : PySem.W.Frag} {mg : Str → Option Value} {base : Heap}
theorem em_int {β : Type} {M : Mo β} {b : β} {ρ : DL.Env} {i : Int} : Em M (tC (.int i)) b ρ fun b' d => b' = b ∧ d = .p (.int i) := ev_int.em
theorem etm_eqI {β : Type} {M : Mo β} {b : β} {ρ : DL.Env} {te : TE} {i j : Int} {r : R2} (h : Em M te b ρ fun b' d => b' = b ∧ d = .p (.int i)) (hr : Rv r (.p (.int i)) (.p (.int j)) (.p (.bool (decide (i = j))))) : EtM M (tTest (tOp r te (tC (.int j)))) b ρ fun b' k => b' = b ∧ k = decide (i = j) :=
  etm_test (em_opL (h.imp fun b' d ⟨e1, e2⟩ => by
    subst e1
    subst e2
    exact ⟨_, _, ev_int, hr, _, rfl, rfl, rfl⟩))
theorem next_mod {q many : Int} (h : 1 ≤ many) : R_next [.p (.int many)] (.p (.int (q % many))) := by
  have h1 := Int.emod_lt_of_pos q (show 0 < many by omega)
  have h2 := Int.emod_nonneg q (show many ≠ 0 by omega)
  refine ⟨many, (q % many).toNat, rfl, by omega, ?_⟩
  rw [Int.toNat_of_nonneg h2]
abbrev N__law_next : List Str := ["_law_m", "_law_many", "_law_rest", "_law_at", "_law_bits", "_law_cell", "_law_blend"]
theorem sc__law_next : FnScope N__law_next ["_law_m", "_law_many"] (defScope s__law_next) := ⟨rfl, rfl, rfl, by decide +kernel, rfl, by decide +kernel, by decide +kernel⟩
theorem ok_law_next (h : Has K mg "_law_next" s__law_next) (T : Txt mg) : Cal P w K mg base "_law_next" 1 ["_law_m", "_law_many"] (spS 1 pre_next R_next) := by
  refine calS_of h sc__law_next (fun _ _ _ _ _ _ us hl => match us, hl with | [_, _], _ => rfl) (by rintro _ ⟨m, _, _, rfl⟩; rfl) (by decide) fun f cdv A outer s H E hr => ?_
  have hu := hu_of hr
  refine ⟨_, (pss_cons (ps_while PassesOwn.never (PW.pt (pw_and (pt_cmpR (op_neDK K hr.units) (pe_dget hu (pv 0) pe_str (fun _ _ => rfl)) (pe_lst pa_nil) (nomark _)) (pw_and1 (pt_cmpR op_eq (pe_ix (ix_listK K) (pe_dget hu (pv 0) pe_str (fun _ _ => rfl)) pe_int (fun _ _ => rfl)) pe_int (nomark _))))) (pss_one (ps_dput hu (pv 0) pe_str (pe_slice (sl_listK K) (pe_dget hu (pv 0) pe_str (fun _ _ => rfl)) (po_some pe_int) po_none) rfl)))
    (pss_cons (ps_if (pt_cmpR (op_neDK K hr.units) (pe_dget hu (pv 0) pe_str (fun _ _ => rfl)) (pe_lst pa_nil) (nomark _)) (pss_cons (ps_set (i := 2) sc__law_next.nd rfl (by first | exact Or.inl rfl | exact Or.inr rfl) (pe_ix (ix_listK K) (pe_dget hu (pv 0) pe_str (fun _ _ => rfl)) pe_int (fun _ _ => rfl)))
    (pss_cons (ps_asg (pe_op op_fdiv (pv 2) (pv 1)) (pg_sub (pe_dget hu (pv 0) pe_str (fun _ _ => rfl)) pe_int set_list))
    (pss_one (ps_ret (pe_op op_mod (pe_callTy call_int1 (by rfl) T.b_int (by decide +kernel) (pa_cons (pv 2) pa_nil)) (pv 1)))))) pss_nil)
    (pss_cons (ps_par (i := 3) (j := 4) (by rfl) sc__law_next.nd rfl rfl (by decide) rfl rfl (pa_cons (pe_op op_add (pe_dget hu (pv 0) pe_str (fun _ _ => rfl)) pe_int) (pa_cons (pe_dget hu (pv 0) pe_str (fun _ _ => rfl)) pa_nil)) (by rfl))
    (pss_cons (ps_dput hu (pv 0) pe_str (pv 3) rfl)
    (pss_cons (ps_set (i := 5) sc__law_next.nd rfl (by first | exact Or.inl rfl | exact Or.inr rfl) (pe_ifExp (pt_cmpR (op_neDK K hr.units) (pv 4) (pe_lst pa_nil) (nomark _)) (pe_callTy call_int1 (by rfl) T.b_int (by decide +kernel) (pa_cons (pe_ix (ix_listK K) (pv 4) (pe_op op_mod (pe_callTy call_int1 (by rfl) T.b_int (by decide +kernel) (pa_cons (pe_op op_add (pe_op op_mul (pv 3) (pv 3)) (pe_op op_fdiv (pv 3) pe_int)) pa_nil)) (pe_callB (call_len_seqK K) (by rfl) T.b_len (by decide +kernel) (pa_cons (pv 4) pa_nil))) (fun _ _ => rfl)) pa_nil)) pe_int))
    (pss_cons (ps_set (i := 6) sc__law_next.nd rfl (by first | exact Or.inl rfl | exact Or.inr rfl) (pe_op op_mod (pe_callTy call_int1 (by rfl) T.b_int (by decide +kernel) (pa_cons (pe_op op_add (pe_op op_add (pe_op op_mul (pv 5) pe_int) (pe_op op_mul (pv 3) pe_int)) (pe_op op_mul (pe_op op_mul pe_int (pv 3)) (pv 3))) pa_nil)) pe_int))
    (pss_one (ps_ret (pe_op op_mod (pe_callTy call_int1 (by rfl) T.b_int (by decide +kernel) (pa_cons (pe_op op_fdiv (pe_op op_mod (pe_callTy call_int1 (by rfl) T.b_int (by decide +kernel) (pa_cons (pe_op op_add (pe_op op_mul (pv 6) pe_int) (pe_op op_mul pe_int (pv 3))) pa_nil)) pe_int) pe_int) pa_nil)) (pv 1)))))))))), ?_⟩
  rintro am n _ ⟨many, hm1, hm2, rfl⟩ hn
  refine sm_MS fun b0 hb0 => ?_
  have hi : ∀ {x2 x3 x4 x5 x6 : Option D}, ([some (.v (.ref am)), some (.p (.int many)), x2, x3, x4, x5, x6] : DL.Env)[0]? = some (some (.v (.ref am))) := rfl
  refine sm_seq (Mid := fun b' ρ' => bnd n b' ∧ ρ' = [some (.v (.ref am)), some (.p (.int many)), none, none, none, none, none]) (sm_whileM (fun m b' ρ' => m = b'.left.length ∧ bnd n b' ∧ ρ' = [some (.v (.ref am)), some (.p (.int many)), none, none, none, none, none]) (m := b0.left.length) ⟨rfl, hb0, rfl⟩ ?_) ?_
  · rintro m b' ρ' ⟨rfl, hb', rfl⟩
    refine ⟨fun b2 k => b2 = b' ∧ (k = true → b'.left ≠ []), etm_and (etm5_ne (em5_left rfl) lst_left) (fun b1 ⟨e1, e2⟩ => ?_) (fun b1 ⟨e1, e2⟩ => ⟨e1, fun q => nomatch q⟩), ?_, ?_⟩
    · subst e1
      cases hl : b1.left with
      | nil => rw [hl] at e2; cases e2
      | cons x r =>
        refine (etm_eqI (i := x) (em5_ix (j := 0) (em5_left rfl) lst_left em_int (by rw [hl]; rfl)) rv_eqI).imp fun b2 k ⟨e1, e2⟩ => ⟨e1, fun _ => by simp⟩
    · rintro b2 ⟨rfl, hne⟩
      have hne := hne rfl
      refine sm5_drop rfl fun lf => ⟨b2.left.length - 1, ?_, ?_, ⟨hb'.1, hb'.2.1, hb'.2.2.1, ?_⟩, rfl⟩
      · have := List.length_pos_iff.mpr hne
        omega
      · exact (List.length_drop ..).symm
      · exact Nat.le_trans (by rw [List.length_drop]; omega) hb'.2.2.2
    · rintro b2 ⟨rfl, _⟩
      exact ⟨hb', rfl⟩
  rintro b1 ρ1 ⟨hb1, rfl⟩
  refine sq_ifM (etm5_ne (em5_left rfl) lst_left) (fun b2 ⟨e1, e2⟩ => ?_) (fun b2 ⟨e1, e2⟩ => ?_)
  · subst e1
    cases hl : b2.left with
    | nil => rw [hl] at e2; cases e2
    | cons x r =>
      refine sq_setM (em5_ix (n := x) (j := 0) (em5_left rfl) lst_left em_int (by rw [hl]; rfl)) fun b3 d ⟨q1, q2⟩ => ?_
      subst q1
      subst q2
      refine sm_seq (Mid := fun b' ρ' => bnd n b' ∧ ρ' = [some (.v (.ref am)), some (.p (.int many)), some (.p (.int x)), none, none, none, none]) (sm5_set0 rfl (ev_op (ev_var rfl) (ev_var rfl) (rv_fdiv ?_)) hl ⟨?_, rfl⟩) ?_
      · exact ⟨by omega, by omega⟩
      · refine ⟨hb1.1, hb1.2.1, hb1.2.2.1, ?_⟩
        have := hb1.2.2.2
        rw [hl] at this
        exact this
      · rintro b4 ρ4 ⟨hb4, rfl⟩
        exact sm_ret (ev_op (ev_cb (ea_cons (ev_var rfl) ea_nil) rc_intI) (ev_var rfl) (rv_mod (by omega))) ⟨n, hb4, by omega, next_mod hm1⟩
  · subst e1
    refine sm_next ?_
    refine sq_parM (PA2 := fun b' ds => b' = b2 ∧ ds = [.p (.int (b2.k + 1)), .v (.ref b2.cl)]) (ema_cons (em_opL (Post := fun b' d => b' = b2 ∧ d = .p (.int (b2.k + 1))) ((em5_at rfl).imp fun b' d ⟨e1, e2⟩ => ?_)) fun b' x ⟨e1, e2⟩ => ?_) ?_
    · subst e1
      subst e2
      exact ⟨_, _, ev_int, rv_add, rfl, rfl⟩
    · subst e1
      subst e2
      refine ema_one ((em5_cells rfl).imp fun b3 d ⟨e1, e2⟩ => ?_)
      subst e1
      subst e2
      exact ⟨rfl, rfl⟩
    · rintro b' ds ⟨e1, e2⟩
      subst e1
      subst e2
      refine ⟨_, _, rfl, ?_⟩
      have hk0 := hb1.1
      have hk1 := hb1.2.1
      have hn' : n + 1 ≤ 2 ^ 50 := hn
      generalize hz : b'.k + 1 = z at *
      have z0 : 0 < z := by omega
      have z1 : z ≤ 2 ^ 50 := by omega
      refine sm_seq (Mid := fun b3 ρ' => bnd (n + 1) b3 ∧ b3.cl = b'.cl ∧ ρ' = [some (.v (.ref am)), some (.p (.int many)), none, some (.p (.int z)), some (.v (.ref b'.cl)), none, none]) (sm5_at rfl (ev_var rfl) ⟨⟨by show 0 ≤ z; omega, by show z ≤ _; omega, hb1.2.2.1, hb1.2.2.2⟩, rfl, rfl⟩) ?_
      rintro b3 ρ3 ⟨hb3, hcl, rfl⟩
      have hcv : ∀ {x5 x6 : Option D}, Em (MS5 am) (tVar 4) b3 [some (.v (.ref am)), some (.p (.int many)), none, some (.p (.int z)), some (.v (.ref b'.cl)), x5, x6] fun b' d => b' = b3 ∧ d = .v (.ref b3.cl) := by
        intro x5 x6
        rw [← hcl]
        exact (ev_var rfl).em
      have cm : ∀ i : Int, CMul i z := fun i => .inr ⟨by omega, by omega⟩
      refine sq_setM (Post := fun b4 d => b4 = b3 ∧ ∃ c : Int, d = .p (.int c)) (em_ifM (etm5_ne hcv lst_cells) (fun b4 ⟨e1, e2⟩ => ?_) (fun b4 ⟨e1, e2⟩ => ?_)) ?_
      · subst e1
        have hpos : 0 < b4.cells.length := by
          cases hc : b4.cells with
          | nil => rw [hc] at e2; cases e2
          | cons x r => simp
        have hcl2 : (b4.cells.length : Int) ≤ 1000 := by
          have := hb3.2.2.1
          omega
        have hlt := Int.emod_lt_of_pos (z * z + z / 2) (show (0 : Int) < (b4.cells.length : Int) by omega)
        have hge := Int.emod_nonneg (z * z + z / 2) (show (b4.cells.length : Int) ≠ 0 by omega)
        have hj : ∃ v, b4.cells[((z * z + z / 2) % (b4.cells.length : Int)).toNat]? = some v := ⟨_, List.getElem?_eq_getElem (by omega)⟩
        obtain ⟨v, hv⟩ := hj
        refine em_cb (ema_one ((em5_ix (j := ((z * z + z / 2) % (b4.cells.length : Int)).toNat) hcv lst_cells (em_opR (ev_cb (ea_cons (ev_op (ev_op (ev_var rfl) (ev_var rfl) (rv_mul (cm _))) (ev_op (ev_var rfl) ev_int (rv_fdiv ⟨by decide, by decide⟩)) rv_add) ea_nil) rc_intI) ((em5_len hcv lst_cells).imp fun b5 d ⟨q1, q2⟩ => ?_)) hv).imp fun b5 d ⟨q1, q2⟩ => ?_))
        · subst q1
          subst q2
          refine ⟨_, rv_mod (by omega), rfl, ?_⟩
          rw [Int.toNat_of_nonneg hge]
        · subst q1
          subst q2
          exact ⟨_, rc_intI, rfl, _, rfl⟩
      · subst e1
        exact ev_int.em.imp fun b5 d ⟨e1, e2⟩ => ⟨e1, _, e2⟩
      · rintro b4 d ⟨e1, c, e2⟩
        subst e1
        subst e2
        refine sq_set (ev_op (ev_cb (ea_cons (ev_op (ev_op (ev_op (ev_var rfl) ev_int (rv_mul (.inr ⟨by decide, by decide⟩))) (ev_op (ev_var rfl) ev_int (rv_mul (.inr ⟨by decide, by decide⟩))) rv_add) (ev_op (ev_op ev_int (ev_var rfl) (rv_mul (cm _))) (ev_var rfl) (rv_mul (cm _))) rv_add) ea_nil) rc_intI) ev_int (rv_mod (by decide))) ?_
        refine sm_ret (ev_op (ev_cb (ea_cons (ev_op (ev_op (ev_cb (ea_cons (ev_op (ev_op (ev_var rfl) ev_int (rv_mul (.inr ⟨by decide, by decide⟩))) (ev_op ev_int (ev_var rfl) (rv_mul (cm _))) rv_add) ea_nil) rc_intI) ev_int (rv_mod (by decide))) ev_int (rv_fdiv ⟨by decide, by decide⟩)) ea_nil) rc_intI) (ev_var rfl) (rv_mod (by omega))) ?_
        exact ⟨n + 1, hb3, Nat.le_refl _, next_mod hm1⟩
end
end SL
set_option Elab.async false
set_option linter.all false
set_option maxRecDepth 100000
set_option maxHeartbeats 4000000
/-! The size of what the law draws. -/
namespace SL
open PySem PySem.Spec PyProof.Rows L2 DL FM NW

def smallS (z : Str) : Prop := z.length ≤ 40 ∧ ∀ c ∈ z.cps.toList, c < 128
def Lf : PyData → Prop
  | .none | .bool _ => True
  | .int i => i.natAbs < 10 ^ 40
  | .str z => smallS z
  | .dict kvs => kvs = []
  | _ => False
def ar (k : Nat) : Nat := if k ≤ 3 then 6 else 20
def Td : Nat → PyData → Prop
  | 0, d => Lf d
  | k + 1, d => Lf d ∨ ∃ l, (d = .list l ∨ d = .tuple l) ∧ l.length ≤ ar (k + 1) ∧ ∀ x ∈ l, Td k x
theorem Td.leaf {d : PyData} (h : Lf d) : ∀ {k : Nat}, Td k d
  | 0 => h
  | _ + 1 => .inl h
theorem ar_le {j k : Nat} (h : j ≤ k) : ar j ≤ ar k := by
  unfold ar
  split <;> split <;> omega
theorem Td.up1 : ∀ {k : Nat} {d : PyData}, Td k d → Td (k + 1) d
  | 0, d, h => .inl h
  | k + 1, d, h => by
    rcases h with h | ⟨l, e, hl, hx⟩
    · exact .inl h
    · exact .inr ⟨l, e, Nat.le_trans hl (ar_le (by omega)), fun x m => Td.up1 (hx x m)⟩
theorem Td.up {j k : Nat} (h : j ≤ k) {d : PyData} (t : Td j d) : Td k d := by
  induction h with
  | refl => exact t
  | step _ ih => exact ih.up1
/-- what may be bent -/
def InB : Nat → PyData → Prop
  | 0, _ => False
  | 1, d => (∃ z : Str, d = .str z ∧ z.length ≤ 8 ∧ ∀ c ∈ z.cps.toList, c < 128) ∨ ∃ i : Int, d = .int i ∧ i.natAbs < 10 ^ 30
  | n + 2, d => ∃ l, d = .tuple l ∧ l.length ≤ 5 ∧ ∀ x ∈ l, InB (n + 1) x
theorem InB.td : ∀ {n : Nat} {d : PyData}, InB n d → Td n d
  | 0, d, h => h.elim
  | 1, d, h => by
    rcases h with ⟨z, rfl, h1, h2⟩ | ⟨i, rfl, hi⟩
    · exact Td.leaf (d := .str z) ⟨by omega, h2⟩
    · exact Td.leaf (d := .int i) (Nat.lt_trans hi (by decide))
  | n + 2, d, h => by
    obtain ⟨l, rfl, hl, hx⟩ := h
    exact .inr ⟨l, .inr rfl, Nat.le_trans hl (by unfold ar; split <;> omega), fun x m => (hx x m).td⟩
theorem strOk_of {z : Str} (h : ∀ c ∈ z.cps.toList, c < 128) : PyData.strOk z = true := by
  show z.cps.all (· < 0x110000) = true
  rw [Array.all_eq_true']
  intro c hc
  rw [decide_eq_true_eq]
  have := h c (by simpa using hc)
  omega
theorem lay_all {xs : List PyData} (h : ∀ x ∈ xs, x.canLay0 = true ∧ x.depth ≤ 20) : PyData.canLayAll0 xs = true ∧ PyData.depthAll xs ≤ 20 := by
  induction xs with
  | nil => exact ⟨rfl, Nat.zero_le _⟩
  | cons x r ih =>
    obtain ⟨h1, h2⟩ := ih fun y hy => h y (List.mem_cons_of_mem _ hy)
    obtain ⟨h3, h4⟩ := h x List.mem_cons_self
    exact ⟨by simp [PyData.canLayAll0, h1, h3], by simp only [PyData.depthAll]; omega⟩
theorem InB.lay : ∀ {n : Nat} {d : PyData}, InB n d → d.canLay0 = true ∧ d.depth ≤ n + 1
  | 0, d, h => h.elim
  | 1, d, h => by
    rcases h with ⟨z, rfl, h1, h2⟩ | ⟨i, rfl, hi⟩
    · exact ⟨by simpa [PyData.canLay0] using strOk_of h2, by simp [PyData.depth]⟩
    · exact ⟨by simp [PyData.canLay0], by simp [PyData.depth]⟩
  | n + 2, d, h => by
    obtain ⟨l, rfl, hl, hx⟩ := h
    have key : ∀ xs : List PyData, (∀ x ∈ xs, InB (n + 1) x) → PyData.canLayAll0 xs = true ∧ PyData.depthAll xs ≤ n + 2 := by
      intro xs
      induction xs with
      | nil => intro _; exact ⟨rfl, Nat.zero_le _⟩
      | cons x r ih =>
        intro h
        obtain ⟨h1, h2⟩ := ih fun y hy => h y (List.mem_cons_of_mem _ hy)
        obtain ⟨h3, h4⟩ := (h x List.mem_cons_self).lay
        exact ⟨by simp [PyData.canLayAll0, h1, h3], by simp only [PyData.depthAll]; omega⟩
    obtain ⟨h1, h2⟩ := key l hx
    exact ⟨by simpa [PyData.canLay0] using h1, by simp only [PyData.depth]; omega⟩
theorem InB.shaped {n : Nat} {d : PyData} (h : InB n d) (hn : n ≤ 20) : SeqAt.shaped d = true := by
  obtain ⟨h1, h2⟩ := h.lay
  unfold SeqAt.shaped
  rw [Bool.and_eq_true, decide_eq_true_eq]
  exact ⟨h1, by omega⟩
/-! texts of names -/
def nm (z : Str) : Prop := z.length ≤ 8 ∧ ∀ c ∈ z.cps.toList, c < 128
theorem toList_append (x y : Str) : (x ++ y).cps.toList = x.cps.toList ++ y.cps.toList := by
  show (x.cps ++ y.cps).toList = _
  exact Array.toList_append
theorem len_append (x y : Str) : (x ++ y).length = x.length + y.length := by
  show (x.cps ++ y.cps).size = _
  exact Array.size_append
theorem asc_append {x y : Str} (h1 : ∀ c ∈ x.cps.toList, c < 128) (h2 : ∀ c ∈ y.cps.toList, c < 128) : ∀ c ∈ (x ++ y).cps.toList, c < 128 := fun c hc => by
  rw [toList_append] at hc
  rcases List.mem_append.mp hc with h | h
  · exact h1 c h
  · exact h2 c h
end SL
set_option Elab.async false
set_option linter.all false
set_option maxRecDepth 100000
set_option maxHeartbeats 4000000
namespace SL
open PySem PySem.Spec PyProof.Rows L2 DL FM NW

theorem cut_list (z : Str) (lo hi : Option Int) : (cutS z lo hi).cps.toList = (z.cps.toList.drop (HT.sIx z.length 0 lo)).take (HT.sIx z.length z.length hi - HT.sIx z.length 0 lo) := rfl
theorem cut_asc {z : Str} {lo hi : Option Int} (h : ∀ c ∈ z.cps.toList, c < 128) : ∀ c ∈ (cutS z lo hi).cps.toList, c < 128 := fun c hc => h c (List.mem_of_mem_drop (List.mem_of_mem_take (by rw [cut_list] at hc; exact hc)))
theorem len_list (z : Str) : z.length = z.cps.toList.length := by
  show z.cps.size = _
  exact Array.length_toList.symm
theorem cut_to_len (z : Str) (n : Nat) : (cutS z none (some (n : Int))).length ≤ n := by
  rw [len_list, cut_list, HT.sIx_nat, HT.sIx_none, List.length_take]
  omega
theorem cut_from_len (z : Str) (n : Nat) : (cutS z (some (n : Int)) none).length ≤ z.length - n := by
  rw [len_list, cut_list, HT.sIx_nat, HT.sIx_none, List.length_take, List.length_drop, ← len_list]
  omega
theorem cut_len (z : Str) (lo hi : Option Int) : (cutS z lo hi).length ≤ z.length := by
  rw [len_list, len_list z, cut_list, List.length_take, List.length_drop]
  omega
abbrev abc : Str := "abcdefghijklmnopqrstuvwxyz"
theorem abc_asc : ∀ c ∈ abc.cps.toList, c < 128 := by decide +kernel
theorem abc_len : abc.cps.toList.length = 26 := by decide +kernel
theorem abc_le : abc.length ≤ sizeLine := by decide +kernel
theorem abc_get {r : Nat} (h : r < 26) : ∃ c, abc.cps.toList[r]? = some c ∧ c < 128 := by
  have h1 : r < abc.cps.toList.length := by rw [abc_len]; exact h
  exact ⟨_, List.getElem?_eq_getElem h1, abc_asc _ (List.getElem_mem h1)⟩
theorem one_asc {c : Nat} (h : c < 128) : ∀ d ∈ (⟨#[c]⟩ : Str).cps.toList, d < 128 := fun d hd => by
  have : d = c := by simpa using hd
  omega
theorem rep_asc {z : Str} {n : Nat} (h : ∀ c ∈ z.cps.toList, c < 128) : ∀ c ∈ (repS z n).cps.toList, c < 128 := by
  have key : ∀ (n : Nat) (acc : Array Nat), (∀ c ∈ acc.toList, c < 128) → ∀ c ∈ ((List.replicate n z.cps).foldl (· ++ ·) acc).toList, c < 128 := by
    intro n
    induction n with
    | zero => intro acc ha; exact ha
    | succ n ih =>
      intro acc ha
      rw [List.replicate_succ, List.foldl_cons]
      refine ih _ fun c hc => ?_
      rw [Array.toList_append] at hc
      rcases List.mem_append.mp hc with q | q
      · exact ha c q
      · exact h c q
  exact key n #[] fun c hc => by simp at hc
theorem sz_small {n : Nat} (h : n ≤ 1000) : n ≤ sizeLine := Nat.le_trans h (by decide)

abbrev pre_names : List D → Prop := fun ds => ∃ k : Nat, 1 ≤ k ∧ k ≤ 5 ∧ ds = [.p (.int (k : Int))]
abbrev R_names : List D → D → Prop := fun ds d => ∃ (k : Nat) (xs : List Str), ds = [.p (.int (k : Int))] ∧ xs.length = k ∧ (∀ x ∈ xs, nm x) ∧ d = .p (.list (xs.map .str))
section
variable {P : Program} {w : World} {K : PySem.W.Frag} {mg : Str → Option Value} {base : Heap}
theorem ev_ixAbc {ρ : DL.Env} {te ti : TE} {r : Nat} (h : Ev te ρ (.p (.str abc))) (hi : Ev ti ρ (.p (.int (r : Int)))) (hr : r < 26) : ∃ c, c < 128 ∧ Ev (tOp rIxS te ti) ρ (.p (.str ⟨#[c]⟩)) := by
  obtain ⟨c, hc, h1⟩ := abc_get hr
  exact ⟨c, h1, ev_op h hi (rv_ixS abc_le hc)⟩
abbrev N__law_names : List Str := ["_law_m", "_law_many", "_law_letters", "_law_stem", "_law_k", "_law_at", "_law_first", "_law_by", "_law_word"]
theorem sc__law_names : FnScope N__law_names ["_law_m", "_law_many"] (defScope s__law_names) := ⟨rfl, rfl, rfl, by decide +kernel, rfl, by decide +kernel, by decide +kernel⟩
theorem ok_law_names (h : Has K mg "_law_names" s__law_names) (T : Txt mg) (C__law_next : Cal P w K mg base "_law_next" 1 ["_law_m", "_law_many"] (spS 1 pre_next R_next)) : Cal P w K mg base "_law_names" 2 ["_law_m", "_law_many"] (spS 11 pre_names R_names) := by
  refine calS_of h sc__law_names (fun _ _ _ _ _ _ us hl => match us, hl with | [_, _], _ => rfl) (by rintro _ ⟨m, _, _, rfl⟩; rfl) (by decide) fun f cdv A outer s H E hr => ?_
  have hu := hu_of hr
  refine ⟨_, (pss_cons (ps_asg (pe_tup (pa_cons pe_str (pa_cons pe_str pa_nil))) (pg_tupK K rfl (pgs_cons (pg_name (i := 2) sc__law_names.nd rfl (by first | exact Or.inl rfl | exact Or.inr rfl)) (pgs_cons (pg_name (i := 3) sc__law_names.nd rfl (by first | exact Or.inl rfl | exact Or.inr rfl)) pgs_nil))))
    (pss_cons (ps_for PassesOwn.never rfl (pi_range1 (by rfl) T.b_range (pa_cons (pe_cal C__law_next (hr.mono (by decide)) (by rfl) (pa_cons (pv 0) (pa_cons pe_int pa_nil))) pa_nil)) (pg_name (i := 4) sc__law_names.nd rfl (by first | exact Or.inl rfl | exact Or.inr rfl)) (pss_one (ps_set (i := 3) sc__law_names.nd rfl (by first | exact Or.inl rfl | exact Or.inr rfl) (pe_op op_add_str (pv 3) (pe_ix ix_str (pv 2) (pe_cal C__law_next (hr.mono (by decide)) (by rfl) (pa_cons (pv 0) (pa_cons pe_int pa_nil))) (fun _ _ => rfl))))))
    (pss_cons (ps_asg (pe_tup (pa_cons (pe_cal C__law_next (hr.mono (by decide)) (by rfl) (pa_cons (pv 0) (pa_cons (pe_op op_add (pe_callB call_len_str (by rfl) T.b_len (by decide +kernel) (pa_cons (pv 3) pa_nil)) pe_int) pa_nil))) (pa_cons (pe_cal C__law_next (hr.mono (by decide)) (by rfl) (pa_cons (pv 0) (pa_cons pe_int pa_nil))) (pa_cons (pe_ix (ix_listK K) (pe_lst (pa_cons pe_int (pa_cons pe_int (pa_cons pe_int (pa_cons pe_int (pa_cons pe_int (pa_cons pe_int pa_nil))))))) (pe_cal C__law_next (hr.mono (by decide)) (by rfl) (pa_cons (pv 0) (pa_cons pe_int pa_nil))) (fun _ _ => rfl)) pa_nil)))) (pg_tupK K rfl (pgs_cons (pg_name (i := 5) sc__law_names.nd rfl (by first | exact Or.inl rfl | exact Or.inr rfl)) (pgs_cons (pg_name (i := 6) sc__law_names.nd rfl (by first | exact Or.inl rfl | exact Or.inr rfl)) (pgs_cons (pg_name (i := 7) sc__law_names.nd rfl (by first | exact Or.inl rfl | exact Or.inr rfl)) pgs_nil)))))
    (pss_cons (ps_set (i := 8) sc__law_names.nd rfl (by first | exact Or.inl rfl | exact Or.inr rfl) (pe_slice sl_str (pe_op op_add_str (pv 3) (pe_op op_repS (pe_ix ix_str (pv 2) (pv 6) (fun _ _ => rfl)) pe_int)) po_none (po_some pe_int)))
    (pss_cons (ps_if (PW.pt (pw_and (pt_cmpR op_gt (pv 7) pe_int (nomark _)) (pw_and1 (pt_cmpR op_lt (pv 1) pe_int (nomark _))))) (pss_one (ps_ret (pe_lc (own := [("_law_k", 4)]) (g := (gName 4)) rfl sc__law_names.nd (pi_range1 (by rfl) T.b_range (pa_cons (pv 1) pa_nil)) (blkOk_by (own := [("_law_k", 4)]) (N := N__law_names) (sc := defScope s__law_names) (by decide +kernel)) (fun _ _ _ _ _ => (pg_name (i := 4) sc__law_names.nd rfl (by first | exact Or.inl rfl | exact Or.inr rfl))) (fun _ _ _ _ _ => pts_nil) (fun _ _ _ _ _ => (pe_ifExp (pt_cmpR op_gt (pv 7) pe_int (nomark _)) (pe_slice sl_str (pv 8) (po_some (pv 4)) po_none) (pe_slice sl_str (pv 8) po_none (po_some (pe_op op_sub (pe_op op_add (pv 4) pe_int) (pv 1))))))))) pss_nil)
    (pss_one (ps_ret (pe_lc (own := [("_law_k", 4)]) (g := (gName 4)) rfl sc__law_names.nd (pi_range1 (by rfl) T.b_range (pa_cons (pv 1) pa_nil)) (blkOk_by (own := [("_law_k", 4)]) (N := N__law_names) (sc := defScope s__law_names) (by decide +kernel)) (fun _ _ _ _ _ => (pg_name (i := 4) sc__law_names.nd rfl (by first | exact Or.inl rfl | exact Or.inr rfl))) (fun _ _ _ _ _ => pts_nil) (fun _ _ _ _ _ => (pe_op op_add_str (pe_op op_add_str (pe_slice sl_str (pv 3) po_none (po_some (pv 5))) (pe_ix ix_str (pv 2) (pe_op op_mod (pe_callTy call_int1 (by rfl) T.b_int (by decide +kernel) (pa_cons (pe_op op_add (pv 6) (pe_op op_mul (pv 7) (pv 4))) pa_nil)) pe_int) (fun _ _ => rfl))) (pe_slice sl_str (pv 3) (po_some (pv 5)) po_none))))))))))), ?_⟩
  rintro am n _ ⟨many, hm1, hm2, rfl⟩ hn
  have hn' : n + 11 ≤ 2 ^ 50 := hn
  refine sq_asgG (sl := [2, 3]) (ev_tup (ds := [.str abc, .str ""]) (ea_cons ev_str (ea_cons ev_str ea_nil)) (by decide)) (eg_tup rfl (egs_cons eg_name (egs_cons eg_name egs_nil))) ?_
  refine sq_forM (sl := [4]) (fun xs i n' ρ' => xs.length ≤ 7 ∧ n' ≤ n + 1 + i ∧ ∃ (stem : Str) (k : Option D), stem.length ≤ i ∧ (∀ c ∈ stem.cps.toList, c < 128) ∧ ρ' = [some (.v (.ref am)), some (.p (.int (many : Int))), some (.p (.str abc)), some (.p (.str stem)), k, none, none, none, none])
    (eim_range (Pn := fun n' r => n' = n + 1 ∧ r < 8) (ema_one (em_nextI rfl (show n + 1 ≤ 2 ^ 50 by omega) fun r hr => ⟨r, rfl, by omega, rfl, by omega⟩))) ?_ ?_ ?_
  · rintro n' xs ⟨r, ⟨rfl, hr8⟩, rfl⟩
    exact ⟨by simp; omega, by omega, "", none, Nat.le_refl _, (fun c hc => nomatch hc), rfl⟩
  · rintro xs i d n' ρ' hd ⟨h7, hn1, stem, k, hs1, hs2, rfl⟩
    have hi : i < xs.length := (List.getElem?_eq_some_iff.mp hd).1
    refine ⟨_, eg_name, ?_⟩
    refine sm_setM (Post := fun n2 d => n2 ≤ n + 1 + (i + 1) ∧ ∃ c, c < 128 ∧ d = .p (.str (stem ++ ⟨#[c]⟩))) (em_opR (ev_var rfl) (em_opR (ev_var rfl) (em_nextI rfl (show n' + 1 ≤ 2 ^ 50 by omega) fun r hr => ?_))) ?_
    · obtain ⟨c, hc, h1⟩ := abc_get (r := r) (by omega)
      exact ⟨_, rv_ixS abc_le hc, _, rv_catS (sz_small (by show stem.length + 1 ≤ 1000; omega)), by omega, c, h1, rfl⟩
    · rintro n2 d ⟨hn2, c, hc, rfl⟩
      refine ⟨h7, hn2, stem ++ ⟨#[c]⟩, _, ?_, asc_append hs2 (one_asc hc), rfl⟩
      rw [len_append]
      exact Nat.add_le_add hs1 (Nat.le_refl 1)
  · rintro xs n' ρ' ⟨h7, hn1, stem, k, hs1, hs2, rfl⟩
    refine sq_asgM (sl := [5, 6, 7]) (Post := fun n2 d => n2 ≤ n + 11 ∧ ∃ (at0 first by0 : Nat), at0 ≤ stem.length ∧ first < 26 ∧ d = .p (.tuple [.int (at0 : Int), .int (first : Int), .int (by0 : Int)])) (em_tup (ema_cons (P1 := fun n2 d => n2 = n' + 1 ∧ ∃ at0 : Nat, at0 ≤ stem.length ∧ d = .p (.int (at0 : Int))) (em_next rfl (Ev.em (ev_op (ev_cb (ea_cons (ev_var rfl) ea_nil) (rc_lenS (sz_small (by omega)))) ev_int rv_add) |>.imp fun n2 d ⟨q1, q2⟩ => ?_)) ?_)) ?_
    · subst q1
      exact ⟨_, by omega, by omega, q2, by show n2 + 1 ≤ 2 ^ 50; omega, fun r hr => ⟨rfl, r, by omega, rfl⟩⟩
    · rintro n2 _ ⟨rfl, at0, ha, rfl⟩
      refine ema_cons (P1 := fun n2 d => n2 = n' + 2 ∧ ∃ first : Nat, first < 26 ∧ d = .p (.int (first : Int))) (em_nextI rfl (by show n' + 1 + 1 ≤ 2 ^ 50; omega) fun r hr => ⟨rfl, r, by omega, rfl⟩) ?_
      rintro n2 _ ⟨rfl, first, hf, rfl⟩
      refine ema_one (em_opR (x := .p (.list [.int 1, .int 3, .int 5, .int 7, .int 9, .int 11])) (ev_lst (ds := [.int 1, .int 3, .int 5, .int 7, .int 9, .int 11]) (ea_cons ev_int (ea_cons ev_int (ea_cons ev_int (ea_cons ev_int (ea_cons ev_int (ea_cons ev_int ea_nil)))))) (by decide)) (em_nextI rfl (by show n' + 2 + 1 ≤ 2 ^ 50; omega) fun r hr => ?_))
      have hr6 : r < 6 := by omega
      have key : ∃ v : Nat, ([.int 1, .int 3, .int 5, .int 7, .int 9, .int 11] : List PyData)[r]? = some (.int (v : Int)) := by
        match r, hr6 with
        | 0, _ => exact ⟨1, rfl⟩
        | 1, _ => exact ⟨3, rfl⟩
        | 2, _ => exact ⟨5, rfl⟩
        | 3, _ => exact ⟨7, rfl⟩
        | 4, _ => exact ⟨9, rfl⟩
        | 5, _ => exact ⟨11, rfl⟩
      obtain ⟨v, hv⟩ := key
      exact ⟨_, rv_ixL hv, [.int (at0 : Int), .int (first : Int), .int (v : Int)], rfl, (by show 3 ≤ 100000; decide), by omega, at0, first, v, ha, hf, rfl⟩
    · rintro n2 _ ⟨hn2, at0, first, by0, ha, hf, rfl⟩
      refine ⟨_, _, rfl, eg_tup rfl (egs_cons eg_name (egs_cons eg_name (egs_cons eg_name egs_nil))), ?_⟩
      obtain ⟨c, hc, h1⟩ := abc_get hf
      have hl8 : stem.length ≤ 7 := by omega
      have hrep : (repS ⟨#[c]⟩ 8).length = 8 := by rw [repS_len]; rfl
      refine sq_set (d := .p (.str (cutS (stem ++ repS ⟨#[c]⟩ 8) none (some 8)))) (ev_sl (ev_op (ev_var rfl) (ev_op (ev_op (ev_var rfl) (ev_var rfl) (rv_ixS abc_le hc)) ev_int (rv_repS (by decide) (by decide) (by show 1 ≤ 1000; decide))) (rv_catS (sz_small (by show stem.length + (repS ⟨#[c]⟩ 8).length ≤ 1000; omega)))) eo_none (eo_some ev_int) (rs_str (sz_small (by show (stem ++ repS ⟨#[c]⟩ 8).length ≤ 1000; rw [len_append]; omega)))) ?_
      have hw : (∀ x ∈ (cutS (stem ++ repS ⟨#[c]⟩ 8) none (some 8)).cps.toList, x < 128) := cut_asc (asc_append hs2 (rep_asc (one_asc h1)))
      have hwl : (cutS (stem ++ repS ⟨#[c]⟩ 8) none (some 8)).length ≤ 8 := cut_to_len _ 8
      generalize cutS (stem ++ repS ⟨#[c]⟩ 8) none (some 8) = word at *
      refine sq_if (a := decide ((5 : Int) < (by0 : Int)) && decide ((many : Int) < 9)) (et_and (et_test (ev_op (ev_var rfl) ev_int rv_gt)) fun _ => et_test (ev_op (ev_var rfl) ev_int rv_lt)) (fun _ => ?_) fun _ => ?_
      · refine sm_ret (d := .p (.list ((List.range many).map fun k : Nat => .str (if (7 : Int) < (by0 : Int) then cutS word (some (k : Int)) none else cutS word none (some ((k : Int) + 9 - (many : Int))))))) (ev_lcM (cs := List.range many) (fun k : Nat => .str (if (7 : Int) < (by0 : Int) then cutS word (some (k : Int)) none else cutS word none (some ((k : Int) + 9 - (many : Int))))) (ei_range (ea_cons (ev_var rfl) ea_nil) (by omega)) (sl := [4]) (by decide) (by simp; omega) fun d hd => ?_) ?_
        · refine ⟨_, eg_name, ev_if (et_test (ev_op (ev_var rfl) ev_int rv_gt)) (fun q => ?_) fun q => ?_⟩
          · have q' : (7 : Int) < (by0 : Int) := by simpa using q
            rw [if_pos q']
            exact ev_sl (ev_var rfl) (eo_some (ev_var rfl)) eo_none (rs_str (sz_small (by omega)))
          · have q' : ¬ (7 : Int) < (by0 : Int) := by simpa using q
            rw [if_neg q']
            exact ev_sl (ev_var rfl) eo_none (eo_some (ev_op (ev_op (ev_var rfl) ev_int rv_add) (ev_var rfl) rv_sub)) (rs_str (sz_small (by omega)))
        · refine ⟨hn2, many, (List.range many).map fun k : Nat => (if (7 : Int) < (by0 : Int) then cutS word (some (k : Int)) none else cutS word none (some ((k : Int) + 9 - (many : Int)))), rfl, by simp, fun x hx => ?_, by rw [List.map_map]; rfl⟩
          obtain ⟨k, _, rfl⟩ := List.mem_map.mp hx
          split
          · exact ⟨Nat.le_trans (cut_len _ _ _) hwl, cut_asc hw⟩
          · exact ⟨Nat.le_trans (cut_len _ _ _) hwl, cut_asc hw⟩
      · refine sm_next ?_
        let ch := fun k : Nat => abc.cps.toList.getD (((first : Int) + (by0 : Int) * (k : Int)) % 26).toNat 0
        have hch : ∀ k : Nat, abc.cps.toList[(((first : Int) + (by0 : Int) * (k : Int)) % 26).toNat]? = some (ch k) ∧ ch k < 128 := fun k => by
          obtain ⟨e, he, h2⟩ := abc_get (r := (((first : Int) + (by0 : Int) * (k : Int)) % 26).toNat) (by omega)
          have e2 : ch k = e := by
            show abc.cps.toList.getD _ 0 = e
            rw [List.getD_eq_getElem?_getD, he]
            rfl
          rw [e2]
          exact ⟨he, h2⟩
        refine sm_ret (d := .p (.list ((List.range many).map fun k : Nat => .str (cutS stem none (some (at0 : Int)) ++ ⟨#[ch k]⟩ ++ cutS stem (some (at0 : Int)) none)))) (ev_lcM (cs := List.range many) (fun k : Nat => .str (cutS stem none (some (at0 : Int)) ++ ⟨#[ch k]⟩ ++ cutS stem (some (at0 : Int)) none)) (ei_range (ea_cons (ev_var rfl) ea_nil) (by omega)) (sl := [4]) (by decide) (by simp; omega) fun k hk => ?_) ?_
        · have hk5 : k < 5 := by have := List.mem_range.mp hk; omega
          have l1 := cut_len stem none (some (at0 : Int))
          have l2 := cut_len stem (some (at0 : Int)) none
          refine ⟨_, eg_name, ev_op (ev_op (ev_sl (ev_var rfl) eo_none (eo_some (ev_var rfl)) (rs_str (sz_small (by omega)))) (ev_op (ev_var rfl) (ev_is (ev_op (ev_cb (ea_cons (ev_op (ev_var rfl) (ev_op (ev_var rfl) (ev_var rfl) (rv_mul (.inr ⟨by omega, by omega⟩))) rv_add) ea_nil) rc_intI) ev_int (rv_mod (by decide))) ?_) (rv_ixS abc_le (hch k).1)) (rv_catS (sz_small ?_))) (ev_sl (ev_var rfl) (eo_some (ev_var rfl)) eo_none (rs_str (sz_small (by omega)))) (rv_catS (sz_small ?_))⟩
          · show D.p (.int _) = D.p (.int _)
            rw [Int.toNat_of_nonneg (by omega)]
          · show (cutS stem none (some (at0 : Int))).length + 1 ≤ 1000
            omega
          · rw [len_append]
            show (cutS stem none (some (at0 : Int))).length + 1 + _ ≤ 1000
            omega
        · refine ⟨hn2, many, (List.range many).map fun k : Nat => cutS stem none (some (at0 : Int)) ++ ⟨#[ch k]⟩ ++ cutS stem (some (at0 : Int)) none, rfl, by simp, fun x hx => ?_, by rw [List.map_map]; rfl⟩
          obtain ⟨k, _, rfl⟩ := List.mem_map.mp hx
          refine ⟨?_, asc_append (asc_append (cut_asc hs2) (one_asc (hch k).2)) (cut_asc hs2)⟩
          rw [len_append, len_append]
          have l1 := cut_to_len stem at0
          have l2 := cut_from_len stem at0
          have l3 := cut_len stem none (some (at0 : Int))
          show (cutS stem none (some (at0 : Int))).length + 1 + _ ≤ 8
          omega
end
end SL
set_option Elab.async false
set_option linter.all false
set_option maxRecDepth 100000
set_option maxHeartbeats 4000000
namespace SL
open PySem PySem.Spec PyProof.Rows L2 DL FM NW

theorem ev_dnew0 {ρ : DL.Env} : Ev tDNewK ρ (.p (.dict [])) := fun hid H σ o E Q q p hp => q _ _ (ex_new hp) (.dict0 (o.new hp) upd_same)
def odds1 : List PyData := [.none, .int 0, .int 1, .int 2, .int 9, .int (-1), .int 10, .int (-10), .bool true, .bool false, .str "", .str "a", .str "abcdefghi", .str "A", .str "all", .str "not", .tuple [], .tuple [.tuple []], .tuple [.str "a", .int 0]]
def odds2 : List PyData := [.list [], .dict [], .int (10 ^ 30), .tuple [.str "all", .tuple []], .tuple [.str "step", .tuple [], .str "a"], .str "a1", .tuple [.none], .tuple [.int 0], .tuple [.str "a"], .tuple [.str "a", .str "b"]]
def smallB (z : Str) : Bool := decide (z.length ≤ 40) && z.cps.toList.all fun c => decide (c < 128)
def lfB : PyData → Bool
  | .none | .bool _ => true
  | .int i => decide (i.natAbs < 10 ^ 40)
  | .str z => smallB z
  | .dict kvs => kvs.isEmpty
  | _ => false
theorem lfB_ok : ∀ {d : PyData}, lfB d = true → Lf d
  | .none, _ => trivial
  | .bool _, _ => trivial
  | .int i, h => of_decide_eq_true (p := i.natAbs < 10 ^ 40) h
  | .str z, h => by
    have h' := (Bool.and_eq_true_iff.mp h)
    refine ⟨of_decide_eq_true h'.1, fun c hc => ?_⟩
    have := List.all_eq_true.mp h'.2 c hc
    exact of_decide_eq_true this
  | .dict [], _ => rfl
  | .dict (_ :: _), h => nomatch h
  | .list _, h => nomatch h
  | .tuple _, h => nomatch h
def tdB : Nat → PyData → Bool
  | 0, d => lfB d
  | k + 1, .list l => decide (l.length ≤ ar (k + 1)) && l.all (tdB k)
  | k + 1, .tuple l => decide (l.length ≤ ar (k + 1)) && l.all (tdB k)
  | k + 1, d => lfB d
theorem tdB_ok : ∀ {k : Nat} {d : PyData}, tdB k d = true → Td k d
  | 0, d, h => lfB_ok h
  | k + 1, .list l, h => by
    have h' := (Bool.and_eq_true_iff.mp (show (decide (l.length ≤ ar (k + 1)) && l.all (tdB k)) = true from h))
    exact .inr ⟨l, .inl rfl, of_decide_eq_true h'.1, fun x hx => tdB_ok (List.all_eq_true.mp h'.2 x hx)⟩
  | k + 1, .tuple l, h => by
    have h' := (Bool.and_eq_true_iff.mp (show (decide (l.length ≤ ar (k + 1)) && l.all (tdB k)) = true from h))
    exact .inr ⟨l, .inr rfl, of_decide_eq_true h'.1, fun x hx => tdB_ok (List.all_eq_true.mp h'.2 x hx)⟩
  | k + 1, .none, h => .inl (lfB_ok h)
  | k + 1, .bool _, h => .inl (lfB_ok h)
  | k + 1, .int _, h => .inl (lfB_ok h)
  | k + 1, .str _, h => .inl (lfB_ok h)
  | k + 1, .dict _, h => .inl (lfB_ok h)
theorem odds_td : ∀ x ∈ odds1 ++ odds2, Td 2 x := by
  have h : (odds1 ++ odds2).all (tdB 2) = true := by decide +kernel
  exact fun x hx => tdB_ok (List.all_eq_true.mp h x hx)
abbrev R_odd : List D → D → Prop := fun _ d => ∃ x, d = .p x ∧ Td 2 x
section
variable {P : Program} {w : World} {K : PySem.W.Frag} {mg : Str → Option Value} {base : Heap}
abbrev N__law_odd : List Str := ["_law_m", "_law_some"]
theorem sc__law_odd : FnScope N__law_odd ["_law_m"] (defScope s__law_odd) := ⟨rfl, rfl, rfl, by decide +kernel, rfl, by decide +kernel, by decide +kernel⟩
theorem ok_law_odd (h : Has K mg "_law_odd" s__law_odd) (T : Txt mg) (C__law_next : Cal P w K mg base "_law_next" 1 ["_law_m", "_law_many"] (spS 1 pre_next R_next)) : Cal P w K mg base "_law_odd" 2 ["_law_m"] (spS 1 (fun ds => ds = []) R_odd) := by
  refine calS_of h sc__law_odd (fun _ _ _ _ _ _ us hl => match us, hl with | [_], _ => rfl) (by rintro _ rfl; rfl) (by decide) fun f cdv A outer s H E hr => ?_
  refine ⟨_, (pss_cons (ps_set (i := 1) sc__law_odd.nd rfl (by first | exact Or.inl rfl | exact Or.inr rfl) (pe_lst (pa_cons pe_non (pa_cons pe_int (pa_cons pe_int (pa_cons pe_int (pa_cons pe_int (pa_cons (pe_un un_neg pe_int) (pa_cons pe_int (pa_cons (pe_un un_neg pe_int) (pa_cons pe_bl (pa_cons pe_bl (pa_cons pe_str (pa_cons pe_str (pa_cons pe_str (pa_cons pe_str (pa_cons pe_str (pa_cons pe_str (pa_cons (pe_tup pa_nil) (pa_cons (pe_tup (pa_cons (pe_tup pa_nil) pa_nil)) (pa_cons (pe_tup (pa_cons pe_str (pa_cons pe_int pa_nil))) pa_nil)))))))))))))))))))))
    (pss_cons (ps_set (i := 1) sc__law_odd.nd rfl (by first | exact Or.inl rfl | exact Or.inr rfl) (pe_op op_cat (pv 1) (pe_lst (pa_cons (pe_lst pa_nil) (pa_cons pe_dnewK (pa_cons (pe_op op_pow pe_int pe_int) (pa_cons (pe_tup (pa_cons pe_str (pa_cons (pe_tup pa_nil) pa_nil))) (pa_cons (pe_tup (pa_cons pe_str (pa_cons (pe_tup pa_nil) (pa_cons pe_str pa_nil)))) (pa_cons pe_str (pa_cons (pe_tup (pa_cons pe_non pa_nil)) (pa_cons (pe_tup (pa_cons pe_int pa_nil)) (pa_cons (pe_tup (pa_cons pe_str pa_nil)) (pa_cons (pe_tup (pa_cons pe_str (pa_cons pe_str pa_nil))) pa_nil)))))))))))))
    (pss_one (ps_ret (pe_ix (ix_listK K) (pv 1) (pe_cal C__law_next (hr.mono (by decide)) (by rfl) (pa_cons (pv 0) (pa_cons pe_int pa_nil))) (fun _ _ => rfl)))))), ?_⟩
  rintro am n _ rfl hn
  refine sq_set (d := .p (.list odds1)) (ev_lst (ds := odds1) (ea_cons ev_non (ea_cons ev_int (ea_cons ev_int (ea_cons ev_int (ea_cons ev_int (ea_cons (ev_un ev_int ru_neg) (ea_cons ev_int (ea_cons (ev_un ev_int ru_neg) (ea_cons ev_bl (ea_cons ev_bl (ea_cons ev_str (ea_cons ev_str (ea_cons ev_str (ea_cons ev_str (ea_cons ev_str (ea_cons ev_str (ea_cons (ev_tup (ds := []) ea_nil (by decide)) (ea_cons (ev_tup (ds := [.tuple []]) (ea_cons (ev_tup (ds := []) ea_nil (by decide)) ea_nil) (by decide)) (ea_cons (ev_tup (ds := [.str "a", .int 0]) (ea_cons ev_str (ea_cons ev_int ea_nil)) (by decide)) ea_nil))))))))))))))))))) (by decide)) ?_
  refine sq_set (d := .p (.list (odds1 ++ odds2))) (ev_op (ev_var rfl) (ev_lst (ds := odds2) (ea_cons (ev_lst (ds := []) ea_nil (by decide)) (ea_cons ev_dnew0 (ea_cons (ev_op ev_int ev_int (rv_pow ⟨by decide, by decide, by decide⟩)) (ea_cons (ev_tup (ds := [.str "all", .tuple []]) (ea_cons ev_str (ea_cons (ev_tup (ds := []) ea_nil (by decide)) ea_nil)) (by decide)) (ea_cons (ev_tup (ds := [.str "step", .tuple [], .str "a"]) (ea_cons ev_str (ea_cons (ev_tup (ds := []) ea_nil (by decide)) (ea_cons ev_str ea_nil))) (by decide)) (ea_cons ev_str (ea_cons (ev_tup (ds := [.none]) (ea_cons ev_non ea_nil) (by decide)) (ea_cons (ev_tup (ds := [.int 0]) (ea_cons ev_int ea_nil) (by decide)) (ea_cons (ev_tup (ds := [.str "a"]) (ea_cons ev_str ea_nil) (by decide)) (ea_cons (ev_tup (ds := [.str "a", .str "b"]) (ea_cons ev_str (ea_cons ev_str ea_nil)) (by decide)) ea_nil)))))))))) (by decide)) (rv_cat (by show 29 ≤ sizeLine; decide))) ?_
  refine sm_retM (Post := fun n' d => n' ≤ n + 1 ∧ ∃ x, d = .p x ∧ Td 2 x) (em_opR (ev_var rfl) (em_nextI rfl hn fun r hr => ?_)) fun n' d h => h
  have hlt : r < (odds1 ++ odds2).length := by show r < 29; omega
  exact ⟨_, rv_ixL (List.getElem?_eq_getElem hlt), Nat.le_refl _, _, rfl, odds_td _ (List.getElem_mem hlt)⟩
end
end SL
set_option Elab.async false
set_option linter.all false
set_option maxRecDepth 100000
set_option maxHeartbeats 4000000
namespace SL
open PySem PySem.Spec PyProof.Rows L2 DL FM NW

abbrev pre_bent (n : Nat) : List D → Prop := fun ds => ∃ x, ds = [.p x] ∧ InB n x
abbrev R_bent (n : Nat) : List D → D → Prop := fun _ d => ∃ x, d = .p x ∧ Td (n + 1) x
theorem Td.of2 {n : Nat} {x : PyData} (h : Td 2 x) : Td (n + 1 + 1) x := h.up (by omega)
/-- a tuple of so many -/
theorem Td.tup {k : Nat} {l : List PyData} (hk : k ≤ 20) (h : l.length ≤ 6) (hx : ∀ x ∈ l, Td k x) : Td (k + 1) (.tuple l) := .inr ⟨l, .inr rfl, by unfold ar; split <;> omega, hx⟩
theorem Td.lst {k : Nat} {l : List PyData} (hk : k ≤ 20) (h : l.length ≤ 6) (hx : ∀ x ∈ l, Td k x) : Td (k + 1) (.list l) := .inr ⟨l, .inl rfl, by unfold ar; split <;> omega, hx⟩
theorem cutD_len (xs : List PyData) (lo hi : Option Int) : (DL.cutD xs lo hi).length ≤ xs.length := by
  unfold DL.cutD
  rw [List.length_take, List.length_drop]
  omega
theorem cutD_mem {xs : List PyData} {lo hi : Option Int} {x : PyData} (h : x ∈ DL.cutD xs lo hi) : x ∈ xs := List.mem_of_mem_drop (List.mem_of_mem_take h)
theorem abs_small {i j : Int} (h : i.natAbs < 10 ^ 30) (h1 : -10 ≤ j) (h2 : j ≤ 10) : (i + j).natAbs < 10 ^ 40 := by
  have : (10:Nat) ^ 30 + 10 ≤ 10 ^ 40 := by decide
  generalize (10:Nat) ^ 30 = a at *
  generalize (10:Nat) ^ 40 = b at *
  omega
theorem isN2 {r : Nat} : (decide ((r : Int) = 0)) = true ∨ (decide ((r : Int) = 0)) = false := by cases decide ((r : Int) = 0) <;> simp
section
variable {am : Addr} {n : Nat} {ρ : DL.Env} {E : XK} {i : Nat}
/-- the test that a draw is nought -/
theorem etm_draw0 {m : Int} (hi : ρ[i]? = some (some (.v (.ref am)))) (hn : n + 1 ≤ mostN) (h1 : 1 ≤ m := by decide) (h2 : m < 2 ^ 30 := by decide) :
    EtM (MS am) (tTest (tOp rEq (tCall (spS 1 pre_next R_next) [] E (tCons (tVar i) (tCons (tC (.int m)) tNil))) (tC (.int 0)))) n ρ fun n' _ => n' = n + 1 :=
  etm_test (em_opL (em_nextI hi hn (fun r _ => ⟨_, _, ev_int, rv_eqI, _, rfl, rfl⟩) h1 h2))
/-- one of a list drawn -/
theorem em_pick {K : PySem.W.Frag} {te : TE} {xs : List PyData} {m : Nat} (hi : ρ[i]? = some (some (.v (.ref am)))) (h : Ev te ρ (.p (.list xs))) (hn : n + 1 ≤ mostN) (hm : m = xs.length) (h1 : 1 ≤ (m : Int) := by decide) (h2 : (m : Int) < 2 ^ 30 := by decide) :
    Em (MS am) (tOp (rIxL K) te (tCall (spS 1 pre_next R_next) [] E (tCons (tVar i) (tCons (tC (.int (m : Int))) tNil)))) n ρ fun n' d => n' = n + 1 ∧ ∃ x ∈ xs, d = .p x :=
  em_opR h (em_nextI hi hn (fun r hr => by
    have hlt : r < xs.length := by omega
    exact ⟨_, rv_ixL (List.getElem?_eq_getElem hlt), rfl, _, List.getElem_mem hlt, rfl⟩) h1 h2)
end
section
variable {P : Program} {w : World} {K : PySem.W.Frag} {mg : Str → Option Value} {base : Heap}
abbrev N__law_bent : List Str := ["_law_m", "_law_thing", "_law_at", "_law_pick"]
theorem sc__law_bent : FnScope N__law_bent ["_law_m", "_law_thing"] (defScope s__law_bent) := ⟨rfl, rfl, rfl, by decide +kernel, rfl, by decide +kernel, by decide +kernel⟩
/-- nothing is bent -/
theorem bent_none (h : Has K mg "_law_bent" s__law_bent) : Cal P w K mg base "_law_bent" 2 ["_law_m", "_law_thing"] (spS 5 (pre_bent 0) (R_bent 0)) := by
  obtain ⟨f, fd, hm, F⟩ := h.ex
  refine ⟨f, fd, hm, F.kp, F.binds fun _ _ _ _ _ _ us hl => match us, hl with | [_, _], _ => rfl, ⟨fun vs H Q E h => ?_, fun A outer s H args us vs Q E _ _ _ _ h => ?_⟩⟩
  · obtain ⟨_, _, _, _, _, _, _, _, _, _, ⟨x, _, hx⟩, _⟩ := h
    exact hx.elim
  · obtain ⟨_, _, _, _, _, _, _, _, _, _, ⟨x, _, hx⟩, _⟩ := h
    exact hx.elim
theorem bent_step (h : Has K mg "_law_bent" s__law_bent) (T : Txt mg) {k : Nat} (hk : k ≤ 10) (C__law_next : Cal P w K mg base "_law_next" 1 ["_law_m", "_law_many"] (spS 1 pre_next R_next)) (C__law_odd : Cal P w K mg base "_law_odd" 2 ["_law_m"] (spS 1 (fun ds => ds = []) R_odd))
    (C__law_bent : Cal P w K mg base "_law_bent" (k + 2) ["_law_m", "_law_thing"] (spS (5 * k + 5) (pre_bent k) (R_bent k))) : Cal P w K mg base "_law_bent" (k + 3) ["_law_m", "_law_thing"] (spS (5 * (k + 1) + 5) (pre_bent (k + 1)) (R_bent (k + 1))) := by
  refine calS_of h sc__law_bent (fun _ _ _ _ _ _ us hl => match us, hl with | [_, _], _ => rfl) (by rintro _ ⟨x, rfl, _⟩; rfl) (by decide) fun f cdv A outer s H E hr => ?_
  have hu := hu_of hr
  have hr1 : Room 1 (A.deeper (envOfC "_law_bent" (defScope s__law_bent) s.heap.objs.size f cdv)) := hr.mono (by omega)
  have hr2 : Room 2 (A.deeper (envOfC "_law_bent" (defScope s__law_bent) s.heap.objs.size f cdv)) := hr.mono (by omega)
  refine ⟨_, (pss_cons (ps_if (PW.pt (pw_and (pt_val (pe_callB (call_isiK K) (by rfl) T.b_isinstance (by decide +kernel) (pa_cons (pv 1) (pa_cons (pe_bltn (v := .ty "str") (by rfl) T.b_str (by decide +kernel) rfl) pa_nil)))) (pw_and1 (pt_cmpR op_eq (pe_cal C__law_next hr1 (by rfl) (pa_cons (pv 0) (pa_cons pe_int pa_nil))) pe_int (nomark _))))) (pss_one (ps_ret (pe_ix (ix_listK K) (pe_lst (pa_cons (pe_op op_add_str (pv 1) pe_str) (pa_cons (pe_slice sl_str (pv 1) (po_some pe_int) po_none) (pa_cons (pe_op op_add_str (pv 1) pe_str) (pa_cons (pe_op op_add_str (pv 1) pe_str) (pa_cons (pe_op op_repS (pv 1) pe_int) (pa_cons (pe_op op_add_str (pv 1) pe_str) pa_nil))))))) (pe_cal C__law_next hr1 (by rfl) (pa_cons (pv 0) (pa_cons pe_int pa_nil))) (fun _ _ => rfl)))) pss_nil)
    (pss_cons (ps_if (PW.pt (pw_and (pt_val (pe_callB (call_isiK K) (by rfl) T.b_isinstance (by decide +kernel) (pa_cons (pv 1) (pa_cons (pe_bltn (v := .ty "int") (by rfl) T.b_int (by decide +kernel) rfl) pa_nil)))) (pw_and (pt_not (pt_val (pe_callB (call_isiK K) (by rfl) T.b_isinstance (by decide +kernel) (pa_cons (pv 1) (pa_cons (pe_bltn (v := .ty "bool") (by rfl) T.b_bool (by decide +kernel) rfl) pa_nil))))) (pw_and1 (pt_cmpR op_eq (pe_cal C__law_next hr1 (by rfl) (pa_cons (pv 0) (pa_cons pe_int pa_nil))) pe_int (nomark _)))))) (pss_one (ps_ret (pe_op op_add (pv 1) (pe_ix (ix_listK K) (pe_lst (pa_cons pe_int (pa_cons (pe_un un_neg pe_int) (pa_cons pe_int (pa_cons (pe_un un_neg pe_int) (pa_cons pe_int (pa_cons (pe_un un_neg pe_int) pa_nil))))))) (pe_cal C__law_next hr1 (by rfl) (pa_cons (pv 0) (pa_cons pe_int pa_nil))) (fun _ _ => rfl))))) pss_nil)
    (pss_cons (ps_if (PW.pt (pw_or (pt_not (pt_val (pe_callB (call_isiK K) (by rfl) T.b_isinstance (by decide +kernel) (pa_cons (pv 1) (pa_cons (pe_bltn (v := .ty "tuple") (by rfl) T.b_tuple (by decide +kernel) rfl) pa_nil))))) (pw_or (pt_cmpR (op_eqDK K hr.units) (pv 1) (pe_tup pa_nil) (nomark _)) (pw_or1 (pt_cmpR op_eq (pe_cal C__law_next hr1 (by rfl) (pa_cons (pv 0) (pa_cons pe_int pa_nil))) pe_int (nomark _)))))) (pss_one (ps_ret (pe_cal C__law_odd hr2 (by rfl) (pa_cons (pv 0) pa_nil)))) pss_nil)
    (pss_cons (ps_par (i := 2) (j := 3) (by rfl) sc__law_bent.nd rfl rfl (by decide) rfl rfl (pa_cons (pe_cal C__law_next hr1 (by rfl) (pa_cons (pv 0) (pa_cons (pe_callB (call_len_seqK K) (by rfl) T.b_len (by decide +kernel) (pa_cons (pv 1) pa_nil)) pa_nil))) (pa_cons (pe_cal C__law_next hr1 (by rfl) (pa_cons (pv 0) (pa_cons pe_int pa_nil))) pa_nil)) (by rfl))
    (pss_cons (ps_if (pt_cmpR op_eq (pv 3) pe_int (nomark _)) (pss_one (ps_ret (pe_op (op_catAK K) (pe_slice (sl_tupAK K) (pv 1) po_none (po_some (pv 2))) (pe_slice (sl_tupAK K) (pv 1) (po_some (pe_op op_add (pv 2) pe_int)) po_none)))) pss_nil)
    (pss_cons (ps_if (pt_cmpR op_eq (pv 3) pe_int (nomark _)) (pss_one (ps_ret (pe_op (op_catAK K) (pv 1) (pe_slice (sl_tupAK K) (pv 1) (po_some (pv 2)) (po_some (pe_op op_add (pv 2) pe_int)))))) pss_nil)
    (pss_cons (ps_if (pt_cmpR op_eq (pv 3) pe_int (nomark _)) (pss_one (ps_ret (pe_callTy (call_list_ofK K) (by rfl) T.b_list (by decide +kernel) (pa_cons (pv 1) pa_nil)))) pss_nil)
    (pss_cons (ps_if (pt_cmpR op_eq (pv 3) pe_int (nomark _)) (pss_one (ps_ret (pe_op (op_catAK K) (pe_op (op_catAK K) (pe_slice (sl_tupAK K) (pv 1) po_none (po_some (pv 2))) (pe_tup (pa_cons (pe_cal C__law_odd hr2 (by rfl) (pa_cons (pv 0) pa_nil)) pa_nil))) (pe_slice (sl_tupAK K) (pv 1) (po_some (pv 2)) po_none)))) pss_nil)
    (pss_cons (ps_if (pt_cmpR op_eq (pv 3) pe_int (nomark _)) (pss_one (ps_ret (pe_revTK K (pv 1)))) pss_nil)
    (pss_one (ps_ret (pe_op (op_catAK K) (pe_op (op_catAK K) (pe_slice (sl_tupAK K) (pv 1) po_none (po_some (pv 2))) (pe_tup (pa_cons (pe_cal C__law_bent hr (by rfl) (pa_cons (pv 0) (pa_cons (pe_ix (ix_tupK K) (pv 1) (pv 2) (fun _ _ => rfl)) pa_nil))) pa_nil))) (pe_slice (sl_tupAK K) (pv 1) (po_some (pe_op op_add (pv 2) pe_int)) po_none))))))))))))), ?_⟩
  rintro am n _ ⟨x, rfl, hx⟩ hn
  have hn' : n + (5 * (k + 1) + 5) ≤ 2 ^ 50 := hn
  have htd := hx.td
  have fin : ∀ {y : PyData}, Td 2 y → Td (k + 2) y := fun h => h.up (by omega)
  -- a text
  refine sq_ifM (PT := fun n' b => n' ≤ n + 1 ∧ (b = true → ∃ z, x = .str z ∧ k = 0)) (etm_and (PT1 := fun n' b => n' = n ∧ (b = true → ∃ z, x = .str z ∧ k = 0)) ((etm_of (et_B (ev_cb (ea_cons (ev_var rfl) (ea_cons ev_val ea_nil)) (rc_isi (kit_str x))))).imp ?_) ?_ ?_) ?_ ?_
  · rintro n' b ⟨rfl, rfl⟩
    refine ⟨rfl, fun q => ?_⟩
    match k, x, hx, q with
    | 0, _, .inl ⟨z, rfl, _⟩, _ => exact ⟨z, rfl, rfl⟩
    | 0, _, .inr ⟨i, rfl, _⟩, q => cases q
    | k + 1, _, ⟨l, rfl, _⟩, q => cases q
  · rintro n1 ⟨rfl, hz⟩
    exact (etm_draw0 rfl (by show n1 + 1 ≤ 2 ^ 50; omega)).imp fun n2 b e => ⟨by omega, fun _ => hz rfl⟩
  · rintro n1 ⟨rfl, _⟩
    exact ⟨by omega, fun q => nomatch q⟩
  · rintro n1 ⟨hn1, hz⟩
    obtain ⟨z, rfl, rfl⟩ := hz rfl
    obtain ⟨z', e, hzl, hza⟩ : ∃ z', PyData.str z = .str z' ∧ z'.length ≤ 8 ∧ ∀ c ∈ z'.cps.toList, c < 128 := by
      rcases hx with h | ⟨i, e, _⟩
      · exact h
      · cases e
    cases e
    refine sm_retM (em_pick (m := 6) (xs := [.str (z ++ "b"), .str (cutS z (some 1) none), .str (z ++ "A"), .str (z ++ " "), .str (repS z 2), .str (z ++ "1")]) rfl (ev_lst (ds := [.str (z ++ "b"), .str (cutS z (some 1) none), .str (z ++ "A"), .str (z ++ " "), .str (repS z 2), .str (z ++ "1")]) (ea_cons (ev_op (ev_var rfl) ev_str (rv_catS (sz_small ?_))) (ea_cons (ev_sl (ev_var rfl) (eo_some ev_int) eo_none (rs_str (sz_small ?_))) (ea_cons (ev_op (ev_var rfl) ev_str (rv_catS (sz_small ?_))) (ea_cons (ev_op (ev_var rfl) ev_str (rv_catS (sz_small ?_))) (ea_cons (ev_op (ev_var rfl) ev_int (rv_repS (by decide) (by decide) ?_)) (ea_cons (ev_op (ev_var rfl) ev_str (rv_catS (sz_small ?_))) ea_nil)))))) (by show 6 ≤ 100000; decide)) ?_ rfl) ?_
    · show z.length + 1 ≤ 1000; omega
    · omega
    · show z.length + 1 ≤ 1000; omega
    · show z.length + 1 ≤ 1000; omega
    · omega
    · show z.length + 1 ≤ 1000; omega
    · show n1 + 1 ≤ 2 ^ 50; omega
    · rintro n2 d ⟨e2, y, hy, rfl⟩
      refine ⟨by omega, y, rfl, ?_⟩
      have cat : ∀ {y : Str}, y.length ≤ 8 → (∀ c ∈ y.cps.toList, c < 128) → Td 2 (.str (z ++ y)) := fun h1 h2 => Td.leaf (d := .str _) ⟨by rw [len_append]; omega, asc_append hza h2⟩
      have hy' : y = .str (z ++ "b") ∨ y = .str (cutS z (some 1) none) ∨ y = .str (z ++ "A") ∨ y = .str (z ++ " ") ∨ y = .str (repS z 2) ∨ y = .str (z ++ "1") := by simpa using hy
      rcases hy' with rfl | rfl | rfl | rfl | rfl | rfl
      · exact cat (by decide) (by decide)
      · exact Td.leaf (d := .str _) ⟨Nat.le_trans (cut_len _ _ _) (by omega), cut_asc hza⟩
      · exact cat (by decide) (by decide)
      · exact cat (by decide) (by decide)
      · exact Td.leaf (d := .str _) ⟨by rw [repS_len]; omega, rep_asc hza⟩
      · exact cat (by decide) (by decide)
  rintro n1 ⟨hn1, _⟩
  refine sm_next ?_
  -- a number
  refine sq_ifM (PT := fun n' b => n' ≤ n + 2 ∧ (b = true → ∃ i, x = .int i ∧ k = 0)) (etm_and (PT1 := fun n' b => n' = n1 ∧ (b = true → ∃ i, x = .int i ∧ k = 0)) ((etm_of (et_B (ev_cb (ea_cons (ev_var rfl) (ea_cons ev_val ea_nil)) (rc_isi (kit_int x))))).imp ?_) ?_ ?_) ?_ ?_
  · rintro n' b ⟨rfl, rfl⟩
    refine ⟨rfl, fun q => ?_⟩
    match k, x, hx, q with
    | 0, _, .inl ⟨z, rfl, _⟩, q => cases q
    | 0, _, .inr ⟨i, rfl, _⟩, _ => exact ⟨i, rfl, rfl⟩
    | k + 1, _, ⟨l, rfl, _⟩, q => cases q
  · rintro n2 ⟨rfl, hz⟩
    obtain ⟨i, rfl, rfl⟩ := hz rfl
    refine etm_and (PT1 := fun n' b => n' = n2) ((etm_of (et_not (et_B (ev_cb (ea_cons (ev_var rfl) (ea_cons ev_val ea_nil)) (rc_isi (kit_bool _)))))).imp fun n' b e => e.1) ?_ ?_
    · rintro n3 rfl
      exact (etm_draw0 rfl (by show n3 + 1 ≤ 2 ^ 50; omega)).imp fun n4 b e => ⟨by omega, fun _ => ⟨i, rfl, rfl⟩⟩
    · rintro n3 rfl
      exact ⟨by omega, fun q => nomatch q⟩
  · rintro n2 ⟨rfl, _⟩
    exact ⟨by omega, fun q => nomatch q⟩
  · rintro n2 ⟨hn2, hz⟩
    obtain ⟨i, rfl, rfl⟩ := hz rfl
    have hib : i.natAbs < 10 ^ 30 := by
      rcases hx with ⟨z, e, _⟩ | ⟨j, e, h⟩
      · cases e
      · cases e
        exact h
    refine sm_retM (Post := fun n' d => n' ≤ n + 8 ∧ ∃ y, d = .p y ∧ Td 2 y) (em_opR (ev_var rfl) ((em_pick (m := 6) (xs := [.int 1, .int (-1), .int 2, .int (-2), .int 10, .int (-10)]) rfl (ev_lst (ds := [.int 1, .int (-1), .int 2, .int (-2), .int 10, .int (-10)]) (ea_cons ev_int (ea_cons (ev_un ev_int ru_neg) (ea_cons ev_int (ea_cons (ev_un ev_int ru_neg) (ea_cons ev_int (ea_cons (ev_un ev_int ru_neg) ea_nil)))))) (by decide)) (by show n2 + 1 ≤ 2 ^ 50; omega) rfl).imp ?_)) fun n' d ⟨h1, h2⟩ => ⟨by omega, h2⟩
    rintro n3 d ⟨rfl, y, hy, rfl⟩
    have key : ∃ j : Int, y = .int j ∧ -10 ≤ j ∧ j ≤ 10 := by
      have hy' : y = .int 1 ∨ y = .int (-1) ∨ y = .int 2 ∨ y = .int (-2) ∨ y = .int 10 ∨ y = .int (-10) := by simpa using hy
      rcases hy' with rfl | rfl | rfl | rfl | rfl | rfl
      · exact ⟨_, rfl, by decide, by decide⟩
      · exact ⟨_, rfl, by decide, by decide⟩
      · exact ⟨_, rfl, by decide, by decide⟩
      · exact ⟨_, rfl, by decide, by decide⟩
      · exact ⟨_, rfl, by decide, by decide⟩
      · exact ⟨_, rfl, by decide, by decide⟩
    obtain ⟨j, rfl, hj1, hj2⟩ := key
    exact ⟨_, rv_add, by omega, _, rfl, Td.leaf (d := .int (i + j)) (abs_small hib hj1 hj2)⟩
  rintro n2 ⟨hn2, _⟩
  refine sm_next ?_
  -- not a tuple
  have hsh : SeqAt.shaped x = true := hx.shaped (by omega)
  refine sq_ifM (PT := fun n' b => n' ≤ n + 3 ∧ (b = false → ∃ l, x = .tuple l ∧ l ≠ [])) (etm_or (PT1 := fun n' b => n' = n2 ∧ (b = false → ∃ l, x = .tuple l)) ((etm_of (et_not (et_B (ev_cb (ea_cons (ev_var rfl) (ea_cons ev_val ea_nil)) (rc_isi (kit_tup x)))))).imp ?_) ?_ ?_) ?_ ?_
  · rintro n' b ⟨rfl, rfl⟩
    refine ⟨rfl, fun q => ?_⟩
    match k, x, hx, q with
    | 0, _, .inl ⟨z, rfl, _⟩, q => cases q
    | 0, _, .inr ⟨i, rfl, _⟩, q => cases q
    | k + 1, _, ⟨l, rfl, _⟩, _ => exact ⟨l, rfl⟩
  · rintro n3 ⟨rfl, hz⟩
    obtain ⟨l, rfl⟩ := hz rfl
    refine etm_or (PT1 := fun n' b => n' = n3 ∧ (b = false → l ≠ [])) ((etm_of (et_test (ev_op (ev_var rfl) (ev_tup (ds := []) ea_nil (by decide)) (rv_eqD hsh rfl)))).imp ?_) ?_ ?_
    · rintro n' b ⟨rfl, rfl⟩
      refine ⟨rfl, fun q e => ?_⟩
      subst e
      rw [eqv_nilT] at q
      cases q
    · rintro n4 ⟨rfl, hl⟩
      exact (etm_draw0 rfl (by show n4 + 1 ≤ 2 ^ 50; omega)).imp fun n5 b e => ⟨by omega, fun _ => ⟨l, rfl, hl rfl⟩⟩
    · rintro n4 ⟨rfl, _⟩
      exact ⟨by omega, fun q => nomatch q⟩
  · rintro n3 ⟨rfl, _⟩
    exact ⟨by omega, fun q => nomatch q⟩
  · rintro n3 ⟨hn3, _⟩
    exact sm_retM (Post := fun n' d => n' ≤ n + 8 ∧ ∃ y, d = .p y ∧ Td (k + 2) y) (em_callS rfl (ema_nil ⟨by show n3 + 1 ≤ 2 ^ 50; omega, rfl, fun d ⟨y, e, hy⟩ => ⟨by omega, y, e, fin hy⟩⟩)) fun n' d ⟨h1, h2⟩ => ⟨by omega, h2⟩
  rintro n3 ⟨hn3, hz⟩
  obtain ⟨l, rfl, hl0⟩ := hz rfl
  refine sm_next ?_
  obtain ⟨k, rfl⟩ : ∃ k', k = k' + 1 := by
    cases k with
    | zero =>
      rcases hx with ⟨z, e, _⟩ | ⟨i, e, _⟩ <;> cases e
    | succ k => exact ⟨k, rfl⟩
  obtain ⟨l', e, hl5, hin⟩ := hx
  cases e
  have hpos := List.length_pos_iff.mpr hl0
  have hel : ∀ y ∈ l, Td (k + 2) y := fun y hy => ((hin y hy).td).up (by omega)
  refine sq_parM (PA2 := fun n' ds => n' = n3 + 2 ∧ ∃ at0 pick : Nat, at0 < l.length ∧ ds = [.p (.int (at0 : Int)), .p (.int (pick : Int))]) (ema_cons (P1 := fun n' d => n' = n3 + 1 ∧ ∃ at0 : Nat, at0 < l.length ∧ d = .p (.int (at0 : Int))) (em_next rfl ((ev_cb (ea_cons (ev_var rfl) ea_nil) rc_lenT).em.imp ?_)) ?_) ?_
  · rintro n4 d ⟨rfl, rfl⟩
    exact ⟨_, by omega, by omega, rfl, by show n4 + 1 ≤ 2 ^ 50; omega, fun r hr => ⟨rfl, r, by omega, rfl⟩⟩
  · rintro n4 d ⟨rfl, at0, ha, rfl⟩
    exact ema_one (em_nextI rfl (by show n3 + 1 + 1 ≤ 2 ^ 50; omega) fun r hr => ⟨rfl, at0, r, ha, rfl⟩)
  rintro n4 _ ⟨rfl, at0, pick, ha, rfl⟩
  refine ⟨_, _, rfl, ?_⟩
  have cut : ∀ lo hi, (DL.cutD l lo hi).length ≤ l.length := fun lo hi => cutD_len l lo hi
  have sz2 : ∀ {a b : List PyData}, a.length ≤ 20 → b.length ≤ 20 → a.length + b.length ≤ sizeLine := fun h1 h2 => sz_small (by omega)
  have c1 := cut none (some (at0 : Int))
  have c2 := cut (some ((at0 : Int) + 1)) none
  have c3 := cut (some (at0 : Int)) (some ((at0 : Int) + 1))
  have c4 := cut (some (at0 : Int)) none
  have e1 : (DL.cutD l none (some (at0 : Int))).length = at0 := by rw [cut_to, List.length_take]; omega
  have e2 : (DL.cutD l (some ((at0 : Int) + 1)) none).length = l.length - (at0 + 1) := by rw [show ((at0 : Int) + 1) = ((at0 + 1 : Nat) : Int) from rfl, cut_from, List.length_drop]
  have e4 : (DL.cutD l (some (at0 : Int)) none).length = l.length - at0 := by rw [cut_from, List.length_drop]
  have e3 : (DL.cutD l (some (at0 : Int)) (some ((at0 : Int) + 1))).length ≤ 1 := by
    unfold DL.cutD
    rw [show ((at0 : Int) + 1) = ((at0 + 1 : Nat) : Int) from rfl, HT.sIx_nat, HT.sIx_nat, List.length_take, List.length_drop]
    omega
  have mem2 : ∀ {a b : List PyData}, (∀ y ∈ a, Td (k + 2) y) → (∀ y ∈ b, Td (k + 2) y) → ∀ y ∈ a ++ b, Td (k + 2) y := fun h1 h2 y hy => (List.mem_append.mp hy).elim (h1 y) (h2 y)
  have memc : ∀ {lo hi}, ∀ y ∈ DL.cutD l lo hi, Td (k + 2) y := fun y hy => hel y (cutD_mem hy)
  have ret : ∀ {y : PyData}, Td (k + 1 + 2) y → n3 + 2 ≤ n + (5 * (k + 1 + 1) + 5) ∧ ∃ z, D.p y = D.p z ∧ Td (k + 1 + 1 + 1) z := fun h => ⟨by omega, _, rfl, h⟩
  refine sq_if (et_test (ev_op (ev_var rfl) ev_int rv_eqI)) (fun _ => ?_) fun _ => sm_next ?_
  · refine sm_ret (ev_op (ev_sl (ev_var rfl) eo_none (eo_some (ev_var rfl)) rs_tup) (ev_sl (ev_var rfl) (eo_some (ev_op (ev_var rfl) ev_int rv_add)) eo_none rs_tup) (rv_catT (sz2 (by omega) (by omega)))) (ret (Td.tup (by omega) ?_ (mem2 memc memc)))
    rw [List.length_append]
    omega
  refine sq_if (et_test (ev_op (ev_var rfl) ev_int rv_eqI)) (fun _ => ?_) fun _ => sm_next ?_
  · refine sm_ret (ev_op (ev_var rfl) (ev_sl (ev_var rfl) (eo_some (ev_var rfl)) (eo_some (ev_op (ev_var rfl) ev_int rv_add)) rs_tup) (rv_catT (sz2 (by omega) (by omega)))) (ret (Td.tup (by omega) ?_ (mem2 hel memc)))
    rw [List.length_append]
    omega
  refine sq_if (et_test (ev_op (ev_var rfl) ev_int rv_eqI)) (fun _ => ?_) fun _ => sm_next ?_
  · exact sm_ret (ev_cb (ea_cons (ev_var rfl) ea_nil) rc_listT) (ret (Td.lst (by omega) (by omega) hel))
  refine sq_if (et_test (ev_op (ev_var rfl) ev_int rv_eqI)) (fun _ => ?_) fun _ => sm_next ?_
  · refine sm_retM (Post := fun n' d => n' = n3 + 3 ∧ ∃ y, d = .p y ∧ Td (k + 1 + 2) y) (em_opL (em_opR (ev_sl (ev_var rfl) eo_none (eo_some (ev_var rfl)) rs_tup) (em_tup (ema_one (em_callS rfl (ema_nil ⟨by show n3 + 2 + 1 ≤ 2 ^ 50; omega, rfl, fun d ⟨y, e, hy⟩ => ?_⟩)))))) fun n' d ⟨h1, h2⟩ => ⟨by omega, h2⟩
    subst e
    refine ⟨[y], rfl, by show 1 ≤ 100000; decide, _, rv_catT (sz2 (by omega) (by show 1 ≤ 20; decide)), _, _, ev_sl (ev_var rfl) (eo_some (ev_var rfl)) eo_none rs_tup, rv_catT (sz2 (by rw [List.length_append, List.length_singleton]; omega) (by omega)), rfl, _, rfl, Td.tup (by omega) ?_ (mem2 (mem2 memc fun z hz => ?_) memc)⟩
    · rw [List.length_append, List.length_append, List.length_singleton]
      omega
    · cases List.mem_singleton.mp hz
      exact hy.up (by omega)
  refine sq_if (et_test (ev_op (ev_var rfl) ev_int rv_eqI)) (fun _ => ?_) fun _ => sm_next ?_
  · exact sm_ret (ev_revT (ev_var rfl)) (ret (Td.tup (by omega) (by rw [List.length_reverse]; omega) fun y hy => hel y (List.mem_reverse.mp hy)))
  refine sm_retM (Post := fun n' d => n' ≤ n + (5 * (k + 1 + 1) + 5) ∧ ∃ y, d = .p y ∧ Td (k + 1 + 2) y) (em_opL (em_opR (ev_sl (ev_var rfl) eo_none (eo_some (ev_var rfl)) rs_tup) (em_tup (ema_one (em_callS rfl (ema_evcons (ev_op (ev_var rfl) (ev_var rfl) (rv_ixT (List.getElem?_eq_getElem ha))) (ema_nil ⟨by show n3 + 2 + (5 * (k + 1) + 5) ≤ 2 ^ 50; omega, ⟨_, rfl, hin _ (List.getElem_mem ha)⟩, fun d ⟨y, e, hy⟩ => ?_⟩))))))) fun n' d h => h
  subst e
  refine ⟨[y], rfl, by show 1 ≤ 100000; decide, _, rv_catT (sz2 (by omega) (by show 1 ≤ 20; decide)), _, _, ev_sl (ev_var rfl) (eo_some (ev_op (ev_var rfl) ev_int rv_add)) eo_none rs_tup, rv_catT (sz2 (by rw [List.length_append, List.length_singleton]; omega) (by omega)), by omega, _, rfl, Td.tup (by omega) ?_ (mem2 (mem2 memc fun z hz => ?_) memc)⟩
  · rw [List.length_append, List.length_append, List.length_singleton]
    omega
  · cases List.mem_singleton.mp hz
    exact hy
theorem ok_law_bent (h : Has K mg "_law_bent" s__law_bent) (T : Txt mg) (C__law_next : Cal P w K mg base "_law_next" 1 ["_law_m", "_law_many"] (spS 1 pre_next R_next)) (C__law_odd : Cal P w K mg base "_law_odd" 2 ["_law_m"] (spS 1 (fun ds => ds = []) R_odd)) :
    ∀ k, k ≤ 10 → Cal P w K mg base "_law_bent" (k + 2) ["_law_m", "_law_thing"] (spS (5 * k + 5) (pre_bent k) (R_bent k))
  | 0, _ => bent_none h
  | k + 1, hk => bent_step h T (by omega) C__law_next C__law_odd (ok_law_bent h T C__law_next C__law_odd k (by omega))
end
end SL
set_option Elab.async false
set_option linter.all false
set_option maxRecDepth 100000
set_option maxHeartbeats 4000000
namespace SL
open PySem PySem.Spec PyProof.Rows L2 DL FM NW

/-- a text is small -/
def smallD : PyData → Prop
  | .str z => smallS z
  | _ => True
abbrev R_is_name : List D → D → Prop := fun ds d => ∃ x, ds = [.p x] ∧ smallD x ∧ d = .p (.bool (isWord x))
section
variable {P : Program} {w : World} {K : PySem.W.Frag} {mg : Str → Option Value} {base : Heap}
abbrev N__law_is_name : List Str := ["_law_thing", "_law_sign"]
theorem sc__law_is_name : FnScope N__law_is_name ["_law_thing"] (defScope s__law_is_name) := ⟨rfl, rfl, rfl, by decide +kernel, rfl, by decide +kernel, by decide +kernel⟩
theorem ok_law_is_name (h : Has K mg "_law_is_name" s__law_is_name) (T : Txt mg) : Cal P w K mg base "_law_is_name" 1 ["_law_thing"] (spD R_is_name) := by
  refine cal_of h sc__law_is_name (fun _ _ _ _ _ _ us hl => match us, hl with | [_], _ => rfl) (by rintro _ _ ⟨x, rfl, _⟩; rfl) (by decide) fun f cdv A outer s H E hr => ?_
  refine ⟨_, (pss_cons (ps_if (PW.pt (pw_or (pt_not (pt_val (pe_callB (call_isiK K) (by rfl) T.b_isinstance (by decide +kernel) (pa_cons (pv 0) (pa_cons (pe_bltn (v := .ty "str") (by rfl) T.b_str (by decide +kernel) rfl) pa_nil))))) (pw_or1 (pt_not (pt_chain op_le op_le pe_int (pe_callB call_len_str (by rfl) T.b_len (by decide +kernel) (pa_cons (pv 0) pa_nil)) pe_int))))) (pss_one (ps_ret pe_bl)) pss_nil)
    (pss_one (ps_ret (pe_cmpR (op_eqDK K hr.units) (pe_lc (own := [("_law_sign", 1)]) (g := (gName 1)) rfl sc__law_is_name.nd (pi_str (pv 0)) (blkOk_by (own := [("_law_sign", 1)]) (N := N__law_is_name) (sc := defScope s__law_is_name) (by decide +kernel)) (fun _ _ _ _ _ => (pg_name (i := 1) sc__law_is_name.nd rfl (by first | exact Or.inl rfl | exact Or.inr rfl))) (fun _ _ _ _ _ => (pts_one (pt_cmpR op_notIn_sign (pv 1) pe_str (by rfl)))) (fun _ _ _ _ _ => (pv 1))) (pe_lst pa_nil) (nomark _))))), ?_⟩
  rintro _ _ ⟨x, rfl, hx, rfl⟩
  by_cases hs : isStrD x = true
  · cases x with
    | str z =>
      obtain ⟨hz, ha⟩ := hx
      have hz' : z.length ≤ sizeLine := sz_small (by omega)
      refine sq_if (a := !(decide ((1 : Int) ≤ (z.length : Int)) && decide ((z.length : Int) ≤ 8))) (et_is (et_or (et_not (et_B (ev_cb (ea_cons (ev_var rfl) (ea_cons ev_val ea_nil)) (rc_isi (kit_str (.str z)))))) fun _ => et_not (et_test (ev_chain ev_int (ev_cb (ea_cons (ev_var rfl) ea_nil) (rc_lenS hz')) rv_le (fun _ => ev_int) fun _ => rv_le))) ?_) (fun q => ?_) fun q => sm_next ?_
      · show (!true || _) = _
        rw [Bool.not_true, Bool.false_or]
      · refine sm_ret ev_bl ?_
        show D.p _ = D.p _
        have : isWordS z = false := by
          unfold isWordS
          rw [(show (decide ((1 : Int) ≤ (z.length : Int)) && decide ((z.length : Int) ≤ 8)) = false by revert q; cases (decide ((1 : Int) ≤ (z.length : Int)) && decide ((z.length : Int) ≤ 8)) <;> simp)]
          rfl
        show D.p (.bool false) = D.p (.bool (isWordS z))
        rw [this]
      · refine sm_ret (d := .p (.bool (isWordS z))) (ev_is (ev_op (ev_lcF (fun c => !decide (c ∈ letters.cps.toList)) (fun c => .str ⟨#[c]⟩) (ei_str (ev_var rfl)) (sl := [1]) (by decide) (by rw [← len_list]; omega) fun c hc => ⟨_, eg_name, et_test (ev_op (ev_var rfl) ev_str rv_notInSign), fun _ => ev_var rfl⟩) (ev_lst (ds := []) ea_nil (by decide)) (rv_eqD (shaped_list fun y hy => ?_) (shaped_list fun y hy => nomatch hy))) ?_) rfl
        · obtain ⟨c, hc, rfl⟩ := List.mem_map.mp hy
          have := ha c (List.mem_filter.mp hc).1
          show (#[c]).all (· < 0x110000) = true
          simp
          omega
        · rw [eqv_nilL]
          have e1 : isWordS z = (z.cps.toList.all fun c => decide (c ∈ letters.cps.toList)) := by
            unfold isWordS
            rw [(show (decide ((1 : Int) ≤ (z.length : Int)) && decide ((z.length : Int) ≤ 8)) = true by revert q; cases (decide ((1 : Int) ≤ (z.length : Int)) && decide ((z.length : Int) ≤ 8)) <;> simp), Bool.true_and]
          rw [e1]
          show D.p (.bool _) = D.p (.bool _)
          congr 2
          generalize z.cps.toList = l
          induction l with
          | nil => rfl
          | cons c r ih =>
            rw [List.filter_cons, List.all_cons, ← ih]
            by_cases hc : c ∈ letters.cps.toList
            · rw [if_neg (by rw [decide_eq_true hc]; decide), decide_eq_true hc, Bool.true_and]
            · rw [if_pos (by rw [decide_eq_false hc]; rfl), decide_eq_false hc]
              rfl
    | _ => cases hs
  · have hf : isStrD x = false := by simpa using hs
    refine sq_if (a := true) (et_is (et_or (b := true) (et_not (et_B (ev_cb (ea_cons (ev_var rfl) (ea_cons ev_val ea_nil)) (rc_isi (kit_str x))))) fun q => ?_) ?_) (fun _ => sm_ret ev_bl ?_) fun q => nomatch q
    · rw [hf] at q
      cases q
    · rw [hf]
      rfl
    · cases x with
      | str z => cases hf
      | _ => rfl

abbrev N__law_less : List Str := ["_law_one", "_law_other", "_law_thing"]
theorem sc__law_less : FnScope N__law_less ["_law_one", "_law_other"] (defScope s__law_less) := ⟨rfl, rfl, rfl, by decide +kernel, rfl, by decide +kernel, by decide +kernel⟩
theorem ok_law_less (h : Has K mg "_law_less" s__law_less) (T : Txt mg) : Cal P w K mg base "_law_less" 1 ["_law_one", "_law_other"] (spD R_without) := by
  refine cal_of h sc__law_less (fun _ _ _ _ _ _ us hl => match us, hl with | [_, _], _ => rfl) (by rintro _ _ ⟨x, y, rfl, _⟩; rfl) (by decide) fun f cdv A outer s H E hr => ?_
  refine ⟨_, (pss_one (ps_ret (pe_callTy (call_tuple_ofK K) (by rfl) T.b_tuple (by decide +kernel) (pa_cons (pe_lc (own := [("_law_thing", 2)]) (g := (gName 2)) rfl sc__law_less.nd (pi_tupK K (pv 0)) (blkOk_by (own := [("_law_thing", 2)]) (N := N__law_less) (sc := defScope s__law_less) (by decide +kernel)) (fun _ _ _ _ _ => (pg_name (i := 2) sc__law_less.nd rfl (by first | exact Or.inl rfl | exact Or.inr rfl))) (fun _ _ _ _ _ => (pts_one (pt_cmpR (op_notIn_seqK K) (pv 2) (pv 1) (by rfl)))) (fun _ _ _ _ _ => (pv 2))) pa_nil)))), ?_⟩
  rintro _ _ ⟨a, b, rfl, ha, rfl⟩
  refine sm_ret (ev_cb (ea_cons ?_ ea_nil) rc_tupL) rfl
  exact ev_lcF (fun x => !decide (x ∈ b)) (fun x => .str x) (ei_tup (ev_var rfl)) (sl := [2]) (by decide) (by omega) fun c hc => ⟨_, eg_name, et_test (ev_op (ev_var rfl) (ev_var rfl) rv_notInT), fun _ => ev_var rfl⟩
end
end SL
set_option Elab.async false
set_option linter.all false
set_option maxRecDepth 100000
set_option maxHeartbeats 4000000
/-! sorted(..) of tuples of texts of which the first is empty. -/
namespace NW
open PySem PySem.Spec PyProof.Rows L2 DL SL
open PySem.W (Looks)

/-- x before y -/
def lexS : List Str → List Str → Bool
  | _, [] => false
  | [], _ :: _ => true
  | x :: xs, y :: ys => if x = y then lexS xs ys else decide (ltS x y)
theorem lexS_iff : ∀ {a b : List Str}, lexS a b = true ↔ FM.lex ltS a b
  | [], [] => by simp [lexS, FM.lex]
  | x :: xs, [] => by simp [lexS, FM.lex]
  | [], y :: ys => by simp [lexS, FM.lex]
  | x :: xs, y :: ys => by
    unfold lexS FM.lex
    by_cases e : x = y
    · rw [if_pos e, lexS_iff]
      subst e
      simp [ltS_sto.irr x]
    · rw [if_neg e, decide_eq_true_eq]
      simp [e]
theorem lexS_no {a b : List Str} : lexS a b = false ↔ ¬ FM.lex ltS a b := by
  rw [← lexS_iff]
  cases lexS a b <;> simp
theorem swo_lexS {α : Type} (k : α → List Str) : SrtO.Swo fun v u => lexS (k v) (k u) where
  asym x y h := lexS_no.mpr ((FM.lex_sto ltS_sto).asym (lexS_iff.mp h))
  tr x y z h1 h2 := by
    have o := FM.lex_sto ltS_sto
    refine lexS_no.mpr fun q => ?_
    have h1 := lexS_no.mp h1
    have h2 := lexS_no.mp h2
    by_cases e : k y = k x
    · rw [← e] at q
      exact h2 q
    · rcases o.tot e with a | a
      · exact h1 a
      · exact h2 (o.tr q a)
theorem lexAt_row : ∀ (xs ys : List Str) (i : Nat) (e r : Nat → Bool), (∀ j, j < min xs.length ys.length → e (i + j) = decide (xs[j]? = ys[j]?) ∧ (e (i + j) = false → ∀ x y, xs[j]? = some x → ys[j]? = some y → r (i + j) = decide (ltS x y))) →
    Ob.lexAt e r (decide (xs.length < ys.length)) i (min xs.length ys.length) = lexS xs ys
  | [], [], i, e, r, _ => rfl
  | [], y :: ys, i, e, r, _ => by
    show decide (0 < ys.length + 1) = true
    simp
  | x :: xs, [], i, e, r, _ => by
    show decide (xs.length + 1 < 0) = false
    simp
  | x :: xs, y :: ys, i, e, r, h => by
    have hm : min (x :: xs).length (y :: ys).length = min xs.length ys.length + 1 := by
      rw [List.length_cons, List.length_cons]
      omega
    rw [hm, Ob.lexAt_succ]
    obtain ⟨h1, h2⟩ := h 0 (by rw [hm]; omega)
    have e1 : e i = decide (x = y) := by simpa using h1
    unfold lexS
    by_cases q : x = y
    · rw [if_pos (by rw [e1, decide_eq_true q]), if_pos q]
      have ih := lexAt_row xs ys (i + 1) e r fun j hj => by
        have := h (j + 1) (by rw [hm]; omega)
        rw [show i + (j + 1) = i + 1 + j by omega] at this
        simpa using this
      rw [← ih]
      congr 1
      simp
    · have ef : e i = false := by rw [e1, decide_eq_false q]
      rw [if_neg (by rw [ef]; decide), if_neg q]
      have := h2 (by simpa using ef) x y rfl rfl
      simpa using this
/-- v is a tuple of these texts -/
def IsRow (h : Heap) (v : Value) (z : List Str) : Prop := ∃ (a : Addr) (dd : Option Addr) (items : Array Value) (n : Nat) (sl : Array (Option Value)), v = .ref a ∧ h.get? a = some { cls := .type "tuple", dict := dd, data := .seq items n, slots := sl } ∧ Vals (z.map V.str) items.toList
theorem IsRow.keeps {h h' : Heap} {v : Value} {z : List Str} (x : IsRow h v z) (k : ∀ b o, v = .ref b → h.get? b = some o → h'.get? b = some o) : IsRow h' v z := by
  obtain ⟨a, dd, items, n, sl, e, g, i⟩ := x
  exact ⟨a, dd, items, n, sl, e, k _ _ e g, i⟩
theorem vals_strs_get : ∀ {z : List Str} {us : List Value} {j : Nat} (hj : j < us.length), Vals (z.map V.str) us → ∃ x t, z[j]? = some x ∧ us[j] = .str x t
  | [], us, j, hj, r => by
    rw [List.map_nil] at r
    cases r
    cases hj
  | x :: z, us, j, hj, r => by
    rw [List.map_cons] at r
    cases r with
    | cons h q =>
      cases j with
      | zero =>
        obtain ⟨t, e⟩ := h
        exact ⟨x, t, rfl, e⟩
      | succ j =>
        obtain ⟨y, t, e1, e2⟩ := vals_strs_get (j := j) (by simpa using hj) q
        exact ⟨y, t, by simpa using e1, by simpa using e2⟩
section
variable {prog : Program} {w : World} {A : Around} {E : Value → Shared → Prop} {s : Shared}
theorem call_ltRow {v u : Value} {x y : List Str} {Q : Value → Shared → Prop} (hv : IsRow s.heap v x) (hw : IsRow s.heap u y) (h : Q (.bool (lexS x y)) s) : wpAny (model prog w) A (call (.builtin "tuple.__lt__") [v, u]) Q E s := by
  obtain ⟨a, dd, items, n, sl, rfl, ga, ia⟩ := hv
  obtain ⟨b, dd2, items2, n2, sl2, rfl, gb, ib⟩ := hw
  have l1 : items.size = x.length := by rw [← Array.length_toList, ← ia.length, List.length_map]
  have l2 : items2.size = y.length := by rw [← Array.length_toList, ← ib.length, List.length_map]
  have e1 : ∀ j (h1 : j < items.size), ∃ t z, x[j]? = some z ∧ items[j] = .str z t := fun j h1 => by
    obtain ⟨z, t, e1, e2⟩ := vals_strs_get (j := j) (by rw [Array.length_toList]; exact h1) ia
    exact ⟨t, z, e1, by rw [← e2, Array.getElem_toList]⟩
  have e2 : ∀ j (h1 : j < items2.size), ∃ t z, y[j]? = some z ∧ items2[j] = .str z t := fun j h1 => by
    obtain ⟨z, t, e1, e2⟩ := vals_strs_get (j := j) (by rw [Array.length_toList]; exact h1) ib
    exact ⟨t, z, e1, by rw [← e2, Array.getElem_toList]⟩
  have g1 : ∀ j (h1 : j < x.length), x.getD j "" = x[j] := fun j h1 => by rw [List.getD_eq_getElem?_getD, List.getElem?_eq_getElem h1]; rfl
  refine call_meets PySem.F.slot_tuple_lt ⟨_, ga, rfl⟩ PySem.F.entry_tuple_lt (PySem.F.args_tuple_lt_2 _ _) (Ob.tuple_ltAt a b items items2 n n2 dd dd2 sl sl2 (fun j => decide (x[j]? = y[j]?)) (fun j => decide (ltS (x.getD j "") (y.getD j "")))) ⟨ga, gb, fun j h1 h2 => ?_, fun j h1 h2 _ => ?_, ?_⟩
  · obtain ⟨t, z, hz, ez⟩ := e1 j h1
    obtain ⟨t2, z2, hz2, ez2⟩ := e2 j h2
    rw [ez, ez2]
    have : decide (x[j]? = y[j]?) = (z == z2) := by
      rw [hz, hz2]
      by_cases q : z = z2
      · subst q; simp
      · have : (z == z2) = false := beq_eq_false_iff_ne.mpr q
        simp [q, this]
    rw [this]
    exact SeqAt.EqAt.str_str _ _ _ _
  · obtain ⟨t, z, hz, ez⟩ := e1 j h1
    obtain ⟨t2, z2, hz2, ez2⟩ := e2 j h2
    rw [ez, ez2]
    have e3 : x.getD j "" = z := by rw [List.getD_eq_getElem?_getD, hz]; rfl
    have e4 : y.getD j "" = z2 := by rw [List.getD_eq_getElem?_getD, hz2]; rfl
    rw [e3, e4]
    exact fun _ _ _ _ h => PyProof.Rows.lt_str h
  · rw [l1, l2, lexAt_row x y 0 _ _ fun j hj => ?_]
    · exact h
    · refine ⟨by rw [Nat.zero_add], fun _ p q hp hq => ?_⟩
      show decide (ltS (x.getD (0 + j) "") (y.getD (0 + j) "")) = _
      rw [Nat.zero_add, List.getD_eq_getElem?_getD, List.getD_eq_getElem?_getD, hp, hq]
      rfl
theorem oneLt_row {v u : Value} {x y : List Str} {Q : Bool → Shared → Prop} (hu : A.units < cLine) (hv : IsRow s.heap v x) (hw : IsRow s.heap u y) (h : Q (lexS x y) s) : wpAny (model prog w) A (oneLt' true v u) Q E s := by
  have hv' := hv
  obtain ⟨a, dd, items, n, sl, rfl, ga, ia⟩ := hv'
  rw [oneLt'_eq]
  simp only [if_true]
  refine wpAny_bind (wpAny_cRoomFor hu ?_)
  refine wpAny_bind (wpAny_callSpecialIfBound?_slot (name := "__lt__") ⟨_, ga, rfl⟩ PySem.F.slot_tuple_lt (call_ltRow hv hw ?_))
  exact wpAny_truthy_bool h
def firstO (k : Value → List Str) (v : Value) : Bool := !(k v).isEmpty
theorem mapM_firsts {P : List Bool → Prop} {k : Value → List Str} {Q : List (Option Value) → Shared → Prop} : ∀ (l : List Value), (∀ v ∈ l, IsRow s.heap v (k v)) → (∀ os : List (Option Value), os.map (·.isSome) = l.map (firstO k) → Q os s) → wpAny (model prog w) A (l.mapM firstOfTuple') Q E s
  | [], _, h => by
    rw [List.mapM_nil]
    exact wpAny_pure (h [] rfl)
  | v :: l, hv, h => by
    obtain ⟨a, dd, items, n, sl, e, ga, ia⟩ := hv v List.mem_cons_self
    rw [List.mapM_cons]
    refine wpAny_bind ?_
    rw [PySem.W.kas_first_eq]
    subst e
    refine wpAny_bind (Looks.here (show Looks (model prog w) s.heap (typeOf (.ref a)) (.type "tuple") from (Looks.ld ga).andThen .now) ?_)
    rw [if_neg (by first | decide | simp)]
    refine wpAny_bind (listItems_at ga rfl (wpAny_pure ?_))
    refine wpAny_bind (mapM_firsts l (P := P) (k := k) (fun u hu => hv u (List.mem_cons_of_mem _ hu)) fun os ho => wpAny_pure (h _ ?_))
    rw [List.map_cons, List.map_cons, ho]
    congr 1
    unfold firstO
    have hl := ia.length
    rw [List.length_map] at hl
    cases hk : k (.ref a) with
    | nil =>
      rw [hk] at hl
      have : items.size = 0 := by rw [← Array.length_toList, ← hl]; rfl
      rw [Array.getElem?_eq_none (by omega)]
      rfl
    | cons z r =>
      rw [hk] at hl
      have : 0 < items.size := by rw [← Array.length_toList, ← hl]; simp
      rw [Array.getElem?_eq_getElem this]
      rfl
theorem kind_rows {v0 : Value} {vs : List Value} {k : Value → List Str} {Q : SortKind → Shared → Prop} (hv : ∀ v ∈ v0 :: vs, IsRow s.heap v (k v)) (h0 : k v0 = []) (h : Q oneType' s) : wpAny (model prog w) A (keyKind' (v0 :: vs).toArray) Q E s := by
  rw [kat_kind_eq, List.mapM_toArray, map_eq_pure_bind]
  refine wpAny_bind (wpAny_bind (mapM_firsts (P := fun _ => True) (k := k) _ hv fun os ho => wpAny_pure ?_))
  cases os with
  | nil => cases ho
  | cons o r =>
    rw [List.map_cons, List.map_cons] at ho
    injection ho with ho1 ho2
    have on : o = none := by
      unfold firstO at ho1
      rw [h0] at ho1
      cases o with
      | none => rfl
      | some x => cases ho1
    subst on
    rw [if_neg (by simp), if_neg (by simp)]
    rw [oneTypeOnly'_eq, List.mapM_toArray, map_eq_pure_bind]
    refine wpAny_bind (wpAny_bind (wpAny_bind (PySem.W.kas_mapM (r := Value.type "tuple") _ (fun v hm Q' hq => ?_) (wpAny_pure ?_))))
    · obtain ⟨a, dd, items, n, sl, e, ga, ia⟩ := hv v hm
      subst e
      exact ((Looks.ld ga).andThen .now : Looks (model prog w) s.heap (typeOf (.ref a)) (.type "tuple")).here hq
    · have hall : ((List.map (fun _ => Value.type "tuple") (v0 :: vs)).toArray.all fun x => x == Value.type "tuple") = true := by
        simp only [List.all_toArray, List.all_map, List.all_eq_true]
        intro _ _
        exact beq_self_eq_true _
      have h0 : (List.map (fun _ => Value.type "tuple") (v0 :: vs)).toArray[0]? = some (Value.type "tuple") := by simp
      rw [h0]
      simp only [hall, if_true]
      exact wpAny_pure (wpAny_pure h)
theorem row_cmp {vs : List Value} {k : Value → List Str} (hu : A.units < cLine) (hv : ∀ v ∈ vs, IsRow s.heap v (k v)) : SrtO.Cmp prog w A s oneType' (fun p => p.1 ∈ vs) (SrtO.lt2 fun v u => lexS (k v) (k u)) := by
  intro p q hp hq
  show wpAny (model prog w) A (keyLt' oneType' p.1 q.1) (fun r s' => s' = s ∧ r = lexS (k p.1) (k q.1)) (fun _ _ => False) s
  rw [keyLt'_oneType]
  exact oneLt_row hu (hv p.1 hp) (hv q.1 hq) ⟨rfl, rfl⟩
theorem sorted_rows {l : Addr} {v0 : Value} {vs : List Value} {k : Value → List Str} {Q : Value → Shared → Prop} (hu : A.units + 2 < cLine) (hl : s.heap.IsList l (v0 :: vs).toArray) (hz : (v0 :: vs).length ≤ sizeLine) (hp : ∀ v ∈ v0 :: vs, IsRow s.heap v (k v)) (h0 : k v0 = [])
    (h : ∀ (h' : Heap) (d : Addr) (out : List Value), SrtO.Srtd (fun v u => lexS (k v) (k u)) out → SrtO.Stb (fun v u => lexS (k v) (k u)) out (v0 :: vs) → (∀ b o, s.heap.get? b = some o → h'.get? b = some o) → s.heap.objs.size ≤ d → (∃ n, h'.get? d = some (seqObj "list" out.toArray n)) → Q (.ref d) { s with heap := h' }) :
    wpAny (model prog w) A (call (.builtin "sorted") [.ref l]) Q E s := by
  refine SrtO.sorted_ord (swo_lexS k) hl hz (fun h2 h₁ a ha kk => ?_) fun out hs hb => ?_
  · intro h' keep
    have hp' : ∀ v ∈ v0 :: vs, IsRow h' v (k v) := fun v hm => (hp v hm).keeps fun b o e g => keep b o (kk b o g).1 (kk b o g).2
    exact ⟨oneType', fun Q E hq => kind_rows (s := { s with heap := h' }) hp' h0 hq, row_cmp (s := { s with heap := h' }) (by show A.units + 1 + 1 < cLine; omega) hp'⟩
  · exact h _ _ out hs hb (fun b o e => sortedAll_old e) (Nat.le_succ _) (sortedAll_at s.heap (v0 :: vs) out.toArray)
end
end NW
set_option Elab.async false
set_option linter.all false
set_option maxRecDepth 100000
set_option maxHeartbeats 4000000
namespace NW
open PySem PySem.Spec PyProof.Rows L2 DL SL

def rSortRows (K : PySem.W.Frag) : List V → Hp → VK → Prop := fun vs H Q => ∃ (a : Addr) (x0 : V) (xs : List V) (k : V → List Str), vs = [V.ref a] ∧ SqL K H a (x0 :: xs) ∧ (∀ x ∈ x0 :: xs, ∃ t, x = V.ref t ∧ H t = some (.tup ((k x).map V.str))) ∧ k x0 = [] ∧
  ∀ ys p, SrtO.Srtd (fun v u => lexS (k v) (k u)) ys → ys.Perm (x0 :: xs) → H p = none → Q (.ref p) (upd H p (.lst ys))
section
variable {X : Cx}
theorem cr_sortRows (hu : X.A.units + 64 < cLine) : CallR X (.builtin "sorted") (rSortRows X.K) := by
  intro pins s σ H vs us Q I r h
  obtain ⟨a, x0, xs, k, rfl, hs, hx, h0, q⟩ := h
  obtain ⟨its, rv, hl, hz⟩ := I.list hs
  obtain ⟨u, rfl, ru⟩ := vals1 r
  obtain rfl : u = Value.ref a := ru
  obtain ⟨e1, e2⟩ := refs_back rv fun x m => by
    obtain ⟨t, e, _⟩ := hx x m
    exact ⟨t, e⟩
  cases its with
  | nil => cases rv
  | cons v0 its =>
    have e0 : x0 = backV v0 := by rw [List.map_cons] at e1; exact (List.cons.inj e1).1
    refine sorted_rows (k := fun u => k (backV u)) (by omega) hl.isList (by rw [← rv.length]; exact hz) (fun v hv => ?_) (by rw [← e0]; exact h0) fun h' d out h1 h2 kp hd hn => ?_
    · obtain ⟨t, rfl⟩ := e2 v hv
      have hm : V.ref t ∈ x0 :: xs := by rw [e1]; exact List.mem_map.mpr ⟨_, hv, rfl⟩
      obtain ⟨t', e, ht⟩ := hx _ hm
      cases e
      obtain ⟨_, its2, r2, o, ho, hc, n, hd⟩ := I.hok _ _ ht
      obtain ⟨cls, dd, data, sl⟩ := o
      simp only at hc hd
      subst hc hd
      refine ⟨t, dd, _, n, sl, rfl, ho, ?_⟩
      exact r2
    · have h3 : ∀ u ∈ out, ∃ a, u = Value.ref a := fun u hu => e2 u (h2.perm.mem_iff.mp hu)
      obtain ⟨n, hn⟩ := hn
      have hb : SrtO.Stb (fun v u => lexS (k v) (k u)) (out.map backV) (x0 :: xs) := by
        rw [e1]
        exact SrtO.Stb.map (swo_lexS k) backV h2
      refine ⟨.ref d, upd H d (.lst (out.map backV)), I.laid (t' := s.toks) kp hd ⟨?_, out, n, vals_back h3, hn⟩, rfl, q _ d (SrtO.srtd_map h1) hb.perm (I.hok.fresh hd)⟩
      rw [hb.len]
      exact hz
theorem cr_sortRowsK (K : PySem.W.Frag) (hu : X.A.units + 64 < cLine) (h : X.K = K := by rfl) : CallR X (.builtin "sorted") (rSortRows K) := by subst h; exact cr_sortRows hu
end
/-- the texts of a row in the heap -/
def rowAt (H : Hp) : V → List Str
  | .ref a => match H a with
    | some (.tup vs) => vs.filterMap fun v => match v with
      | .str z => some z
      | _ => none
    | _ => []
  | _ => []
theorem rowAt_of {hid : Hid} {H : Hp} {l : List Str} {v : V} (h : At hid H (lotD l) v) : ∃ t, v = .ref t ∧ H t = some (.tup ((rowAt H v).map V.str)) ∧ rowAt H v = l := by
  cases h with
  | @tuple a vs _ n e r =>
    have := r.strs
    subst this
    have e1 : rowAt H (.ref a) = l := by
      show (match H a with
        | some (.tup vs) => vs.filterMap fun v => match v with
          | .str z => some z
          | _ => none
        | _ => []) = l
      rw [e]
      show (l.map V.str).filterMap (fun v => match v with
          | .str z => some z
          | _ => none) = l
      rw [List.filterMap_map]
      exact List.filterMap_some
    exact ⟨a, rfl, by rw [e1]; exact e, e1⟩
theorem rows_at {hid : Hid} {H : Hp} : ∀ {ls : List (List Str)} {vs : List V}, AtL hid H (ls.map lotD) vs → (∀ x ∈ vs, ∃ t, x = V.ref t ∧ H t = some (.tup ((rowAt H x).map V.str)) ∧ At hid H (lotD (rowAt H x)) x) ∧ vs.map (rowAt H) = ls
  | [], _, h => by cases h; exact ⟨(fun x hx => nomatch hx), rfl⟩
  | l :: ls, _, h => by
    cases h with
    | cons a r =>
      obtain ⟨h1, h2⟩ := rows_at r
      obtain ⟨t, e, ht, e2⟩ := rowAt_of a
      refine ⟨fun x hx => ?_, by rw [List.map_cons, h2, e2]⟩
      rcases List.mem_cons.mp hx with q | q
      · rw [q]
        exact ⟨t, e, ht, by rw [e2]; exact a⟩
      · exact h1 x q
theorem atL_rows {hid : Hid} {H : Hp} : ∀ {vs : List V}, (∀ x ∈ vs, At hid H (lotD (rowAt H x)) x) → AtL hid H ((vs.map (rowAt H)).map lotD) vs
  | [], _ => .nil
  | x :: r, h => .cons (h x List.mem_cons_self) (atL_rows fun y hy => h y (List.mem_cons_of_mem _ hy))
theorem rows_head {α : Type} : ∀ (l : List α) (acc : List (List α)), ∃ r, l.foldl (fun acc t => acc ++ acc.map (· ++ [t])) ([] :: acc) = [] :: r
  | [], acc => ⟨acc, rfl⟩
  | t :: l, acc => rows_head l (acc ++ ([] :: acc).map (· ++ [t]))
theorem rc_sortRows {K : PySem.W.Frag} {l : List Str} (hl : l.Pairwise ltS) : Rc (rSortRows K) [.p (.list (lotsD (FM.rows l)))] (.p (.list (lotsD (FM.lots l)))) := fun hid H us o a Q q => by
  cases a with
  | cons a r =>
    cases r
    cases a with
    | @list a0 vs _ n e al =>
      obtain ⟨h1, h2⟩ := rows_at al
      obtain ⟨r, hr⟩ := rows_head l []
      have hr' : FM.rows l = [] :: r := hr
      cases vs with
      | nil =>
        rw [List.map_nil, hr'] at h2
        cases h2
      | cons x0 xs =>
        have h20 : rowAt H x0 = [] := by
          rw [List.map_cons, hr'] at h2
          exact (List.cons.inj h2).1
        refine ⟨a0, x0, xs, rowAt H, rfl, .of e, fun x hx => ?_, h20, fun ys p hs hp hn => q _ _ (ex_new hn) (.list (o.new hn) upd_same ?_)⟩
        · obtain ⟨t, e1, e2, _⟩ := h1 x hx
          exact ⟨t, e1, e2⟩
        · have hat : AtL hid H ((ys.map (rowAt H)).map lotD) ys := atL_rows fun x hx => (h1 x (hp.mem_iff.mp hx)).choose_spec.2.2
          have hlots : ys.map (rowAt H) = FM.lots l := by
            refine FM.lots_of_rows ltS_sto hl ?_ ?_
            · rw [← h2]
              exact hp.map _
            · exact List.pairwise_map.mpr (hs.imp fun h => lexS_no.mp h)
          rw [hlots] at hat
          exact hat.ex (ex_new hn)
end NW
set_option Elab.async false
set_option linter.all false
set_option maxRecDepth 100000
set_option maxHeartbeats 4000000
namespace SL
open PySem PySem.Spec PyProof.Rows L2 DL FM NW

abbrev R_law_lots : List D → D → Prop := fun ds d => ∃ l : List Str, ds = [.p (lotD l)] ∧ l.length ≤ 5 ∧ l.Pairwise ltS ∧ d = .p (.list (lotsD (lots l)))
section
variable {P : Program} {w : World} {K : PySem.W.Frag} {mg : Str → Option Value} {base : Heap}
theorem rows_snoc {α : Type} (l : List α) (t : α) : rows (l ++ [t]) = rows l ++ (rows l).map (· ++ [t]) := by
  unfold rows
  rw [List.foldl_append]
  rfl
abbrev N__law_lots : List Str := ["_law_many", "_law_rows", "_law_one", "_law_row_here"]
theorem sc__law_lots : FnScope N__law_lots ["_law_many"] (defScope s__law_lots) := ⟨rfl, rfl, rfl, by decide +kernel, rfl, by decide +kernel, by decide +kernel⟩
theorem ok_law_lots (h : Has K mg "_law_lots" s__law_lots) (T : Txt mg) : Cal P w K mg base "_law_lots" 1 ["_law_many"] (spD R_law_lots) := by
  refine cal_of h sc__law_lots (fun _ _ _ _ _ _ us hl => match us, hl with | [_], _ => rfl) (by rintro _ _ ⟨x, rfl, _⟩; rfl) (by decide) fun f cdv A outer s H E hr => ?_
  refine ⟨_, (pss_cons (ps_set (i := 1) sc__law_lots.nd rfl (by first | exact Or.inl rfl | exact Or.inr rfl) (pe_lst (pa_cons (pe_tup pa_nil) pa_nil)))
    (pss_cons (ps_for PassesOwn.never rfl (pi_tupK K (pv 0)) (pg_name (i := 2) sc__law_lots.nd rfl (by first | exact Or.inl rfl | exact Or.inr rfl)) (pss_one (ps_set (i := 1) sc__law_lots.nd rfl (by first | exact Or.inl rfl | exact Or.inr rfl) (pe_op op_cat (pv 1) (pe_lc (own := [("_law_row_here", 3)]) (g := (gName 3)) rfl sc__law_lots.nd (pi_listK K (pv 1)) (blkOk_by (own := [("_law_row_here", 3)]) (N := N__law_lots) (sc := defScope s__law_lots) (by decide +kernel)) (fun _ _ _ _ _ => (pg_name (i := 3) sc__law_lots.nd rfl (by first | exact Or.inl rfl | exact Or.inr rfl))) (fun _ _ _ _ _ => pts_nil) (fun _ _ _ _ _ => (pe_op (op_catAK K) (pv 3) (pe_tup (pa_cons (pv 2) pa_nil)))))))))
    (pss_one (ps_ret (pe_callB (cr_sortRowsK K hr.units) (by rfl) T.b_sorted (by decide +kernel) (pa_cons (pv 1) pa_nil)))))), ?_⟩
  rintro _ _ ⟨l, rfl, hl, hp, rfl⟩
  refine sq_set (d := .p (.list (lotsD (rows ([] : List Str))))) (ev_lst (ds := [.tuple []]) (ea_cons (ev_tup (ds := []) ea_nil (by decide)) ea_nil) (by decide)) ?_
  refine sq_for (sl := [2]) (fun i _ ρ => ∃ x, ρ = [some (.p (lotD l)), some (.p (.list (lotsD (rows (l.take i))))), x, none]) (ei_tup (ev_var rfl)) ⟨_, rfl⟩ ?_ ?_
  · rintro i d b' ρ' hd ⟨x, rfl⟩
    obtain ⟨z, hz, rfl⟩ := map_get hd
    have hi : i < l.length := (List.getElem?_eq_some_iff.mp hz).1
    have hlen : (rows (l.take i)).length ≤ 32 := by
      rw [rows_len, List.length_take]
      exact Nat.le_trans (Nat.pow_le_pow_right (by decide) (show min i l.length ≤ 5 by omega)) (by decide)
    have htk : l.take (i + 1) = l.take i ++ [z] := take_get hz
    refine ⟨_, eg_name, sm_set (d := .p (.list (lotsD (rows (l.take (i + 1)))))) (ev_is (ev_op (ev_var rfl) (ev_lcM (cs := rows (l.take i)) (φ := lotD) (fun r => lotD (r ++ [z])) (ei_list (ev_var rfl)) (sl := [3]) (by decide) (by omega) fun r hr => ⟨_, eg_name, ev_is (ev_op (ev_var rfl) (ev_tup (ds := [.str z]) (ea_cons (ev_var rfl) ea_nil) (by show 1 ≤ 100000; decide)) (rv_catT (sz_small ?_))) ?_⟩) (rv_cat (sz_small ?_))) ?_) ⟨_, rfl⟩⟩
    · have := (mem_rows.mp hr).length_le
      rw [List.length_take] at this
      rw [List.length_map]
      show r.length + 1 ≤ 1000
      omega
    · show D.p (.tuple _) = D.p (.tuple _)
      rw [List.map_append]
      rfl
    · show (List.map _ _).length + (List.map _ _).length ≤ 1000
      rw [List.length_map, List.length_map]
      omega
    · show D.p (.list _) = D.p (.list _)
      rw [htk, rows_snoc]
      unfold lotsD
      rw [List.map_append, List.map_map]
      rfl
  · rintro b' ρ' ⟨x, rfl⟩
    rw [List.length_map, List.take_length]
    exact sm_ret (ev_cb (ea_cons (ev_var rfl) ea_nil) (rc_sortRows hp)) rfl
end
end SL
set_option Elab.async false
set_option linter.all false
set_option maxRecDepth 100000
set_option maxHeartbeats 4000000
/-! A list or a dict that a def makes for itself, hidden while it grows. -/
namespace NW
open PySem PySem.Spec PyProof.Rows L2 DL SL

def HM {β : Type} (a : Addr) (f : β → HO) : Mo β where
  at_ b hid H := (∀ x, hid x ↔ x = a) ∧ H a = some (f b)
  loc h e := ⟨h.1, (e _ ((h.1 a).mpr rfl)).trans h.2⟩
  occ h x q z := by rw [(h.1 x).mp q, h.2] at z; cases z
section
variable {β : Type} {f : β → HO}
theorem sm_hide {te : TE} {u : TS} {b0 : β} {i : Nat} {ρ : DL.Env} {P : Po Unit} {R : Addr → β → D → Prop} (hnew : ∀ σ H Q, (∀ a, H a = none → Q (.ref a) (upd H a (f b0))) → te σ H Q)
    (k : ∀ a, Sm (HM a f) u b0 (ρ.set i (some (.v (.ref a)))) { rt := R a })
    (hc : ∀ a b d, R a b d → P.rt () d ∨ (d = .v (.ref a) ∧ ∃ d', P.rt () d' ∧ ∀ hid H, ¬ hid a → H a = some (f b) → ValAt hid H d' (.ref a))) : Sm Mo.emp (tSeq (tAsg te (gName i)) u) () ρ P := fun hid fr H σ E w e qn qb qc qr => by
  refine hnew σ H _ fun a ha => ?_
  have nf : ∀ x, fr x → x ≠ a := fun x hx q => w.ofr x hx (by rw [q]; exact ha)
  have le1 : Le (un hid fr) H (un (fun x => x = a) fr) (upd H a (f b0)) := fun x o n hx => by
    have hxa : x ≠ a := ne_of_none hx ha
    exact ⟨fun q => q.elim hxa fun q => n (.inr q), by rw [upd_ne hxa]; exact hx⟩
  have w1 : WOk (HM a f) b0 (fun x => x = a) fr (upd H a (f b0)) := ⟨⟨fun x => Iff.rfl, upd_same⟩, fun x hx => by rw [upd_ne (nf x hx)]; exact w.ofr x hx, fun x hx => nf x hx⟩
  have s1 : Stp hid fr H (fun x => x = a) (upd H a (f b0)) := ⟨fun x hx => upd_ne (nf x hx), le1⟩
  refine k a (fun x => x = a) fr _ _ E w1 ((e.le le1).set i (d := .v (.ref a)) rfl) (fun _ _ _ _ _ _ _ _ p => p.elim) (fun _ _ _ _ _ _ _ _ p => p.elim) (fun _ _ _ _ _ _ _ _ p => p.elim) fun v hid' H' b' d w' s' av p => ?_
  have less : Le (un hid' fr) H' (un (fun _ => False) fr) H' := .less fun x q => q.elim False.elim .inr
  have w2 : WOk Mo.emp () (fun _ => False) fr H' := ⟨fun _ q => q, w'.ofr, fun _ _ q => q⟩
  have s2 : Stp hid fr H (fun _ => False) H' := (s1.trans s').trans ⟨fun _ _ => rfl, less⟩
  rcases hc a b' d p with h | ⟨rfl, d', h, hv⟩
  · exact qr v _ H' () d w2 s2 (av.le less) h
  · obtain rfl := av
    refine qr (.ref a) _ H' () d' w2 s2 (hv _ H' (fun q => ?_) w'.st.2) h
    rcases q with q | q
    · exact q
    · exact w'.dj a q ((w'.st.1 a).mpr rfl)
/-- the list that is walked comes of the state -/
theorem eim_list {M : Mo β} {K : PySem.W.Frag} {b : β} {te : TE} {ρ : DL.Env} {Px : β → List PyData → Prop} (h : Em M te b ρ fun b' d => ∃ xs, d = .p (.list xs) ∧ Px b' xs) : EiM M (iList K te) b ρ Px := fun hid fr H σ w E R q =>
  h hid fr H σ w E _ fun v hid1 H1 b1 d w1 s1 a1 ⟨xs, e, p⟩ => by
    subst e
    have hh : iList K (tVar 0) [some v] H1 R := ei_list (K := K) (ρ := [some (.p (.list xs))]) (tl := tVar 0) (ev_var rfl) (un hid1 fr) H1 [some v] w1.occ ⟨rfl, fun i d hd => by
      match i, hd with
      | 0, hd =>
        cases hd
        exact ⟨v, rfl, a1⟩
      | i + 1, hd => cases hd⟩ R fun J H' e wk => q J hid1 H' b1 xs (w1.ex e) (s1.trans (w1.stp e)) wk p
    obtain ⟨v', e0, hh⟩ := hh
    cases e0
    exact hh
end
/-! dicts -/
abbrev fK : List (Key × V) → HO := .dK
abbrev fT : List (List Key × V) → HO := .dT
section
variable {κ : Type} [DecidableEq κ]
theorem putK_new {kvs : List (κ × V)} {k : κ} {v : V} (h : k ∉ kvs.map (·.1)) : putK kvs k v = kvs ++ [(k, v)] := by
  unfold putK
  rw [any_keys, if_neg (by rw [decide_eq_false h]; decide)]
theorem putK_mem {kvs : List (κ × V)} {k : κ} {v : V} {kv : κ × V} (h : kv ∈ putK kvs k v) : (kv ∈ kvs ∧ kv.1 ≠ k) ∨ kv = (k, v) := by
  unfold putK at h
  rw [any_keys] at h
  by_cases hk : k ∈ kvs.map (·.1)
  · rw [if_pos (by rw [decide_eq_true hk])] at h
    obtain ⟨p, hp, e⟩ := List.mem_map.mp h
    by_cases q : p.1 = k
    · rw [if_pos q] at e
      exact .inr (by rw [← e, q])
    · rw [if_neg q] at e
      exact .inl ⟨by rw [← e]; exact hp, by rw [← e]; exact q⟩
  · rw [if_neg (by rw [decide_eq_false hk]; decide)] at h
    rcases List.mem_append.mp h with q | q
    · exact .inl ⟨q, fun e => hk (List.mem_map.mpr ⟨kv, q, e⟩)⟩
    · exact .inr (List.mem_singleton.mp q)
theorem putK_keys {kvs : List (κ × V)} {k x : κ} {v : V} (h : x = k ∨ x ∈ kvs.map (·.1)) : x ∈ (putK kvs k v).map (·.1) := by
  unfold putK
  rw [any_keys]
  by_cases hk : k ∈ kvs.map (·.1)
  · rw [if_pos (by rw [decide_eq_true hk])]
    have hx : x ∈ kvs.map (·.1) := by
      rcases h with rfl | h
      · exact hk
      · exact h
    obtain ⟨p, hp, e⟩ := List.mem_map.mp hx
    refine List.mem_map.mpr ⟨_, List.mem_map.mpr ⟨p, hp, rfl⟩, ?_⟩
    split <;> exact e
  · rw [if_neg (by rw [decide_eq_false hk]; decide), List.map_append]
    rcases h with rfl | h
    · exact List.mem_append_right _ (by simp)
    · exact List.mem_append_left _ h
theorem putK_same {kvs : List (κ × V)} {k : κ} {v : V} (h : k ∈ kvs.map (·.1)) : (putK kvs k v).map (·.1) = kvs.map (·.1) := by
  unfold putK
  rw [any_keys, if_pos (by rw [decide_eq_true h]), List.map_map]
  exact List.map_congr_left fun p _ => by
    show (if p.1 = k then (p.1, v) else p).1 = p.1
    split <;> rfl
theorem putK_len {kvs : List (κ × V)} {k : κ} {v : V} : (putK kvs k v).length ≤ kvs.length + 1 := by
  unfold putK
  split
  · rw [List.length_map]; omega
  · rw [List.length_append]; simp
theorem valV_some {kvs : List (κ × V)} {k : κ} (h : k ∈ kvs.map (·.1)) : ∃ v, valV kvs k = some v ∧ (k, v) ∈ kvs := by
  obtain ⟨p, hp, e⟩ := List.mem_map.mp h
  unfold valV
  cases hf : kvs.find? fun kv => decide (kv.1 = k) with
  | none =>
    have := List.find?_eq_none.mp hf p hp
    rw [decide_eq_true e] at this
    exact absurd rfl this
  | some q =>
    have h1 := List.find?_some hf
    have h2 := List.mem_of_find?_eq_some hf
    have : q.1 = k := of_decide_eq_true h1
    exact ⟨q.2, rfl, by rw [← this]; exact h2⟩
end
section
variable {a : Addr} {ρ : DL.Env} {i : Nat} {te tk ty : TE} {K : PySem.W.Frag}
theorem wok_hm {β : Type} {f : β → HO} {b b' : β} {hid fr : Hid} {H : Hp} (w : WOk (HM a f) b hid fr H) : WOk (HM a f) b' hid fr (upd H a (f b')) ∧ Stp hid fr H hid (upd H a (f b')) := by
  have ha : hid a := (w.st.1 a).mpr rfl
  have nf : ∀ x, fr x → x ≠ a := fun x hx e => w.dj x hx (by rw [e]; exact ha)
  refine ⟨⟨⟨w.st.1, upd_same⟩, fun x hx => ?_, w.dj⟩, ⟨fun x hx => upd_ne (nf x hx), fun x u n hx => ⟨n, ?_⟩⟩⟩
  · rw [upd_ne (nf x hx)]
    exact w.ofr x hx
  · rw [upd_ne fun e => n (.inl (by rw [e]; exact ha))]
    exact hx
/-- d[k] -/
theorem em_hget {kvs : List (Key × V)} {k : Key} {n : Int} (hi : ρ[i]? = some (some (.v (.ref a)))) (h : Ev ty ρ (.p (keyD k))) (hv : valV kvs k = some (.int n)) : Em (HM a fK) (tDGet (tVar i) ty) kvs ρ fun b' d => b' = kvs ∧ d = .p (.int n) := fun hid fr H σ w E Q q =>
  ⟨_, slot_v E hi, h (un hid fr) H σ w.occ E _ fun y H1 e1 a1 => by
    have := keyD_at a1
    subst this
    have w1 := w.ex e1
    exact ⟨a, .int n, rfl, .inl ⟨kvs, k, .inl w1.st.2, rfl, hv.symm⟩, q _ hid H1 kvs (.p (.int n)) w1 (w.stp e1) (At.int _) ⟨rfl, rfl⟩⟩⟩
/-- d[k] = n -/
theorem sm_hput {kvs : List (Key × V)} {k : Key} {n : Int} {P : Po (List (Key × V))} (hi : ρ[i]? = some (some (.v (.ref a)))) (hl : kvs.length ≤ 1000) (hv : Ev te ρ (.p (.int n))) (hk : Ev tk ρ (.p (keyD k))) (q : P.nx (putK kvs k (.int n)) ρ) :
    Sm (HM a fK) (sDPut (tVar i) tk te) kvs ρ P := fun hid fr H σ E w e qn _ _ _ =>
  hv (un hid fr) H σ w.occ e _ fun v H1 e1 a1 => by
    cases a1
    have w1 := w.ex e1
    refine ⟨_, slot_v e hi, hk (un hid fr) H1 σ w1.occ (e.ex e1) _ fun y H2 e2 a2 => ?_⟩
    have := keyD_at a2
    subst this
    have w2 := w1.ex e2
    refine ⟨a, _, rfl, .inl ⟨kvs, k, w2.st.2, rfl, Nat.lt_of_le_of_lt hl (by decide), rfl⟩, ?_⟩
    obtain ⟨w3, s3⟩ := wok_hm (b' := putK kvs k (.int n)) w2
    exact qn σ hid _ _ ρ w3 ((w.stp (e1.trans e2)).trans s3) ((e.ex (e1.trans e2)).le s3.le) q
/-- d[k] = n, a tuple of texts the key -/
theorem sm_hputT {kvs : List (List Key × V)} {l : List Str} {n : Int} {P : Po (List (List Key × V))} (hi : ρ[i]? = some (some (.v (.ref a)))) (hl : kvs.length ≤ 1000) (hv : Ev te ρ (.p (.int n))) (hk : Ev tk ρ (.p (lotD l))) (q : P.nx (putK kvs (keyL l) (.int n)) ρ) :
    Sm (HM a fT) (sDPut (tVar i) tk te) kvs ρ P := fun hid fr H σ E w e qn _ _ _ =>
  hv (un hid fr) H σ w.occ e _ fun v H1 e1 a1 => by
    cases a1
    have w1 := w.ex e1
    refine ⟨_, slot_v e hi, hk (un hid fr) H1 σ w1.occ (e.ex e1) _ fun y H2 e2 a2 => ?_⟩
    have w2 := w1.ex e2
    cases a2 with
    | tuple nb eb lb =>
      have hs := lb.strs
      subst hs
      refine ⟨a, _, rfl, .inr ⟨kvs, keyL l, _, w2.st.2, rfl, ?_, Nat.lt_of_le_of_lt hl (by decide), rfl⟩, ?_⟩
      · rw [eb]
        unfold keyL
        rw [List.map_map]
        rfl
      · obtain ⟨w3, s3⟩ := wok_hm (b' := putK kvs (keyL l) (.int n)) w2
        exact qn σ hid _ _ ρ w3 ((w.stp (e1.trans e2)).trans s3) ((e.ex (e1.trans e2)).le s3.le) q
/-- list(d) -/
theorem em_hkeys {kvs : List (Key × V)} (hi : ρ[i]? = some (some (.v (.ref a)))) : Em (HM a fK) (tCB rListD (tCons (tVar i) tNil)) kvs ρ fun b' d => b' = kvs ∧ d = .p (.list (kvs.map fun kv => keyD kv.1)) := fun hid fr H σ w E Q q =>
  ⟨_, slot_v E hi, by unfold rListD; exact ⟨a, kvs, rfl, w.st.2, fun p hp => by
    have ex := ex_new hp (o := .lst (kvs.map fun kv => kV kv.1))
    refine q _ hid _ kvs (.p (.list (kvs.map fun kv => keyD kv.1))) (w.ex ex) (w.stp ex) (.list (w.occ.new hp) upd_same ?_) ⟨rfl, rfl⟩
    have key : ∀ l : List (Key × V), AtL (un hid fr) (upd H p (.lst (kvs.map fun kv => kV kv.1))) (l.map fun kv => keyD kv.1) (l.map fun kv => kV kv.1) := fun l => by
      induction l with
      | nil => exact .nil
      | cons x r ih =>
        refine .cons ?_ ih
        obtain ⟨k, y⟩ := x
        cases k with
        | inl n => exact .int n
        | inr z => exact .str z
    exact key kvs⟩⟩
/-- d[k1], d[k2] = n1, n2 -/
theorem sm_hput2 {kvs : List (Key × V)} {k1 k2 : Key} {n1 n2 : Int} {P : Po (List (Key × V))} {ta tk1 tk2 : TE} (hi : ρ[i]? = some (some (.v (.ref a)))) (hl : kvs.length ≤ 1000) (hv : Ev ta ρ (.p (.tuple [.int n1, .int n2]))) (hk1 : Ev tk1 ρ (.p (keyD k1))) (hk2 : Ev tk2 ρ (.p (keyD k2)))
    (q : P.nx (putK (putK kvs k1 (.int n1)) k2 (.int n2)) ρ) : Sm (HM a fK) (tAsg ta (gTup K 2 (gCons (gSub (tVar i) tk1 rSetD) (gCons (gSub (tVar i) tk2 rSetD) gNil)))) kvs ρ P := fun hid fr H σ E w e qn _ _ _ =>
  hv (un hid fr) H σ w.occ e _ fun v H1 e1 a1 => by
    have w1 := w.ex e1
    cases a1 with
    | tuple nb eb lb =>
      cases lb with
      | cons c1 r =>
        cases r with
        | cons c2 r =>
          cases r
          cases c1
          cases c2
          refine ⟨_, _, rfl, .of eb, rfl, _, _, rfl, _, slot_v e hi, hk1 (un hid fr) H1 σ w1.occ (e.ex e1) _ fun y H2 e2 a2 => ?_⟩
          have := keyD_at a2
          subst this
          have w2 := w1.ex e2
          obtain ⟨w3, s3⟩ := wok_hm (b' := putK kvs k1 (.int n1)) w2
          have e3 := (e.ex (e1.trans e2)).le s3.le
          refine ⟨a, _, rfl, .inl ⟨kvs, k1, w2.st.2, rfl, Nat.lt_of_le_of_lt hl (by decide), rfl⟩, _, _, rfl, _, slot_v e3 hi, hk2 (un hid fr) _ σ w3.occ e3 _ fun y H4 e4 a4 => ?_⟩
          have := keyD_at a4
          subst this
          have w4 := w3.ex e4
          obtain ⟨w5, s5⟩ := wok_hm (b' := putK (putK kvs k1 (.int n1)) k2 (.int n2)) w4
          have hl2 := putK_len (kvs := kvs) (k := k1) (v := V.int n1)
          refine ⟨a, _, rfl, .inl ⟨putK kvs k1 (.int n1), k2, w4.st.2, rfl, Nat.lt_of_le_of_lt (Nat.le_trans hl2 (show kvs.length + 1 ≤ 1001 by omega)) (by decide), rfl⟩, ?_⟩
          exact ⟨rfl, qn σ hid _ _ ρ w5 ((((w.stp (e1.trans e2)).trans s3).trans (w3.stp e4)).trans s5) ((e3.ex e4).le s5.le) q⟩
/-! lists of texts -/
abbrev fL : List Str → HO := fun xs => .lst (xs.map .str)
theorem sm_happ {xs : List Str} {z : Str} {P : Po (List Str)} (hi : ρ[i]? = some (some (.v (.ref a)))) (hl : xs.length ≤ 1000) (h : Ev te ρ (.p (.str z))) (q : P.nx (xs ++ [z]) ρ) : Sm (HM a fL) (tDrop (tBM K "list" rAppend (tVar i) (tCons te tNil))) xs ρ P := fun hid fr H σ E w e qn _ _ _ => by
  refine ⟨_, slot_v e hi, .inl ⟨rfl, _, .of w.st.2⟩, h (un hid fr) H σ w.occ e _ fun v H1 e1 a1 => ?_⟩
  cases a1
  have w1 := w.ex e1
  refine ⟨a, _, _, rfl, rfl, w1.st.2, by rw [List.length_map]; exact Nat.lt_of_le_of_lt hl (by decide), ?_⟩
  obtain ⟨w2, s2⟩ := wok_hm (b' := xs ++ [z]) w1
  have : fL (xs ++ [z]) = .lst (xs.map V.str ++ [.str z]) := by show HO.lst _ = _; rw [List.map_append]; rfl
  rw [this] at w2 s2
  exact qn σ hid _ _ ρ w2 ((w.stp e1).trans s2) ((e.ex e1).le s2.le) q
theorem em_hin {xs : List Str} {z : Str} (hi : ρ[i]? = some (some (.v (.ref a)))) (h : Ev te ρ (.p (.str z))) : Em (HM a fL) (tOp (rIn K false) te (tVar i)) xs ρ fun b' d => b' = xs ∧ d = .p (.bool (decide (z ∈ xs))) := fun hid fr H σ w E Q q =>
  h (un hid fr) H σ w.occ E _ fun v H1 e1 a1 => by
    cases a1
    have w1 := w.ex e1
    refine ⟨_, slot_v E hi, a, _, rfl, .inl (.of w1.st.2), rfl, flat_strs xs, ?_⟩
    rw [inV_strs]
    exact q _ hid H1 xs (.p (.bool (decide (z ∈ xs)))) w1 (w.stp e1) (At.bool _) ⟨rfl, rfl⟩
end
end NW
set_option Elab.async false
set_option linter.all false
set_option maxRecDepth 100000
set_option maxHeartbeats 4000000
namespace SL
open PySem PySem.Spec PyProof.Rows L2 DL FM NW

/-- the greatest length of those of good that lie within a -/
def within (good : List (List Str)) (a : List Str) : List Int := (good.filter fun g => (g.filter fun x => !decide (x ∈ a)).isEmpty).map fun g => (g.length : Int)
abbrev R_law_counted : List D → D → Prop := fun ds d => ∃ (l : List Str) (good : List (List Str)) (mx : List Str → Int), ds = [.p (lotD l), .p (.list (lotsD good))] ∧ l.length ≤ 5 ∧ l.Pairwise ltS ∧ good.length ≤ 1000 ∧ (∀ g ∈ good, g.length ≤ 1000 ∧ ∀ z ∈ g, ∀ c ∈ z.cps.toList, c < 128) ∧
  (∀ a ∈ lots l, mx a ∈ within good a ∧ ∀ y ∈ within good a, y ≤ mx a) ∧ d = .dt ((lots l).map fun a => (keyL a, .int (mx a)))
abbrev R_law_row : List D → D → Prop := fun ds d => ∃ (l : List Str) (mx : List Str → Int), ds = [.p (lotD l), .dt ((lots l).map fun a => (keyL a, .int (mx a)))] ∧ l.length ≤ 5 ∧ l.Pairwise ltS ∧ d = .p (.tuple ((lots l).map fun a => .int (mx a)))
theorem val_lots {ls : List (List Str)} {mx : List Str → Int} {a : List Str} (h : a ∈ ls) : valD (ls.map fun a => (keyL a, PyData.int (mx a))) (keyL a) = some (.int (mx a)) := by
  induction ls with
  | nil => cases h
  | cons b r ih =>
    rw [List.map_cons]
    by_cases e : b = a
    · subst e
      unfold valD
      rw [List.find?_cons, decide_eq_true rfl]
      rfl
    · rcases List.mem_cons.mp h with q | q
      · exact absurd q.symm e
      · have : valD ((keyL b, PyData.int (mx b)) :: r.map fun a => (keyL a, PyData.int (mx a))) (keyL a) = valD (r.map fun a => (keyL a, PyData.int (mx a))) (keyL a) := by
          unfold valD
          rw [List.find?_cons, decide_eq_false fun q => e (keyL_inj q)]
        rw [this]
        exact ih q
section
variable {P : Program} {w : World} {K : PySem.W.Frag} {mg : Str → Option Value} {base : Heap}
abbrev N__law_row : List Str := ["_law_many", "_law_table", "_law_lot"]
theorem sc__law_row : FnScope N__law_row ["_law_many", "_law_table"] (defScope s__law_row) := ⟨rfl, rfl, rfl, by decide +kernel, rfl, by decide +kernel, by decide +kernel⟩
theorem ok_law_row (h : Has K mg "_law_row" s__law_row) (T : Txt mg) (C__law_lots : Cal P w K mg base "_law_lots" 1 ["_law_many"] (spD R_law_lots)) : Cal P w K mg base "_law_row" 2 ["_law_many", "_law_table"] (spD R_law_row) := by
  refine cal_of h sc__law_row (fun _ _ _ _ _ _ us hl => match us, hl with | [_, _], _ => rfl) (by rintro _ _ ⟨x, y, rfl, _⟩; rfl) (by decide) fun f cdv A outer s H E hr => ?_
  have hu := hu_of hr
  refine ⟨_, (pss_one (ps_ret (pe_callTy (call_tuple_ofK K) (by rfl) T.b_tuple (by decide +kernel) (pa_cons (pe_lc (own := [("_law_lot", 2)]) (g := (gName 2)) rfl sc__law_row.nd (pi_listK K (pe_cal C__law_lots (hr.mono (by decide)) (by rfl) (pa_cons (pv 0) pa_nil))) (blkOk_by (own := [("_law_lot", 2)]) (N := N__law_row) (sc := defScope s__law_row) (by decide +kernel)) (fun _ _ _ _ _ => (pg_name (i := 2) sc__law_row.nd rfl (by first | exact Or.inl rfl | exact Or.inr rfl))) (fun _ _ _ _ _ => pts_nil) (fun _ _ _ _ _ => (pe_dget hu (pv 1) (pv 2) (fun _ _ => rfl)))) pa_nil)))), ?_⟩
  rintro _ _ ⟨l, mx, rfl, hl, hp, rfl⟩
  refine sm_ret (ev_cb (ea_cons ?_ ea_nil) rc_tupL) rfl
  have hlen : (lots l).length ≤ 32 := by
    rw [lots_len]
    exact Nat.le_trans (Nat.pow_le_pow_right (by decide) hl) (by decide)
  exact ev_lcM (cs := lots l) (φ := lotD) (fun a => .int (mx a)) (ei_list (ev_call (ea_cons (ev_var rfl) ea_nil) ⟨l, rfl, hl, hp, rfl⟩)) (sl := [2]) (by decide) (by omega) fun a ha => ⟨_, eg_name, ev_dgetT (ev_var rfl) (ev_lotkey (ev_var rfl)) (val_lots ha)⟩

abbrev N__law_counted : List Str := ["_law_many", "_law_good", "_law_table", "_law_lot", "_law_one"]
theorem sc__law_counted : FnScope N__law_counted ["_law_many", "_law_good"] (defScope s__law_counted) := ⟨rfl, rfl, rfl, by decide +kernel, rfl, by decide +kernel, by decide +kernel⟩
theorem ok_law_counted (h : Has K mg "_law_counted" s__law_counted) (T : Txt mg) (C__law_lots : Cal P w K mg base "_law_lots" 1 ["_law_many"] (spD R_law_lots)) (C__law_less : Cal P w K mg base "_law_less" 1 ["_law_one", "_law_other"] (spD R_without)) : Cal P w K mg base "_law_counted" 2 ["_law_many", "_law_good"] (spD R_law_counted) := by
  refine cal_of h sc__law_counted (fun _ _ _ _ _ _ us hl => match us, hl with | [_, _], _ => rfl) (by rintro _ _ ⟨x, y, z, rfl, _⟩; rfl) (by decide) fun f cdv A outer s H E hr => ?_
  have hu := hu_of hr
  refine ⟨_, (pss_cons (ps_set (i := 2) sc__law_counted.nd rfl (by first | exact Or.inl rfl | exact Or.inr rfl) pe_dnewT)
    (pss_cons (ps_for PassesOwn.never rfl (pi_listK K (pe_cal C__law_lots (hr.mono (by decide)) (by rfl) (pa_cons (pv 0) pa_nil))) (pg_name (i := 3) sc__law_counted.nd rfl (by first | exact Or.inl rfl | exact Or.inr rfl)) (pss_one (ps_dput hu (pv 2) (pv 3) (pe_callB (cr_maxK K rfl) (by rfl) T.b_max (by decide +kernel) (pa_cons (pe_lc (own := [("_law_one", 4)]) (g := (gName 4)) rfl sc__law_counted.nd (pi_listK K (pv 1)) (blkOk_by (own := [("_law_one", 4)]) (N := N__law_counted) (sc := defScope s__law_counted) (by decide +kernel)) (fun _ _ _ _ _ => (pg_name (i := 4) sc__law_counted.nd rfl (by first | exact Or.inl rfl | exact Or.inr rfl))) (fun _ _ _ _ _ => (pts_one (pt_cmpR (op_eqDK K hr.units) (pe_cal C__law_less (hr.mono (by decide)) (by rfl) (pa_cons (pv 4) (pa_cons (pv 3) pa_nil))) (pe_tup pa_nil) (nomark _)))) (fun _ _ _ _ _ => (pe_callB (call_len_seqK K) (by rfl) T.b_len (by decide +kernel) (pa_cons (pv 4) pa_nil)))) pa_nil)) rfl)))
    (pss_one (ps_ret (pv 2))))), ?_⟩
  rintro _ _ ⟨l, good, mx, rfl, hl, hp, hg, hgs, hmx, rfl⟩
  have hlen : (lots l).length ≤ 32 := by
    rw [lots_len]
    exact Nat.le_trans (Nat.pow_le_pow_right (by decide) hl) (by decide)
  have hnd : (lots l).Nodup := nodup_of_sorted (lex_sto ltS_sto) (lots_sorted ltS_sto hp)
  refine sm_hide (f := fT) (b0 := []) (R := fun a b d => d = .v (.ref a) ∧ b = (lots l).map fun x => (keyL x, V.int (mx x))) (fun σ H Q h => h) (fun a => ?_) ?_
  · refine sq_forM (sl := [3]) (Px := fun b ys => b = [] ∧ ys = lotsD (lots l)) (fun xs i b ρ => xs = lotsD (lots l) ∧ i ≤ (lots l).length ∧ b = ((lots l).take i).map (fun x => (keyL x, V.int (mx x))) ∧ ∃ x, ρ = [some (.p (lotD l)), some (.p (.list (lotsD good))), some (.v (.ref a)), x, none]) (eim_list ((Ev.em (ev_call (ea_cons (ev_var rfl) ea_nil) ⟨l, rfl, hl, hp, rfl⟩)).imp fun b' d ⟨e1, e2⟩ => ⟨lotsD (lots l), e2, e1, rfl⟩)) ?_ ?_ ?_
    · rintro b xs ⟨rfl, rfl⟩
      exact ⟨rfl, Nat.zero_le _, rfl, _, rfl⟩
    · rintro xs i d b ρ hd ⟨rfl, hi, rfl, x, rfl⟩
      obtain ⟨y, hy, rfl⟩ := map_get hd
      have hm : y ∈ lots l := List.mem_of_getElem? hy
      obtain ⟨h1, h2⟩ := hmx y hm
      have hile : i < (lots l).length := (List.getElem?_eq_some_iff.mp hy).1
      refine ⟨_, eg_name, ?_⟩
      refine sm_hputT (l := y) (n := mx y) rfl ?_ (ev_cb (ea_cons (ev_is (ev_lcF (cs := good) (φ := lotD) (fun g => (g.filter fun x => !decide (x ∈ y)).isEmpty) (fun g => .int (g.length : Int)) (ei_list (ev_var rfl)) (sl := [4]) (by decide) (by omega) fun g hgm => ?_) ?_) ea_nil) (rc_max h1 h2)) (ev_var rfl) ?_
      · rw [List.length_map, List.length_take]
        omega
      · obtain ⟨hg1, hg2⟩ := hgs g hgm
        refine ⟨_, eg_name, et_test (ev_is (ev_op (ev_call (ea_cons (ev_var rfl) (ea_cons (ev_var rfl) ea_nil)) ⟨g, y, rfl, hg1, rfl⟩) (ev_tup (ds := []) ea_nil (by decide)) (rv_eqD (shaped_tuple fun z hz => ?_) (shaped_tuple fun z hz => nomatch hz))) ?_), fun _ => ev_is (ev_cb (ea_cons (ev_var rfl) ea_nil) rc_lenT) ?_⟩
        · obtain ⟨c, hc, rfl⟩ := List.mem_map.mp hz
          exact strOk_of (hg2 c (List.mem_filter.mp hc).1)
        · show D.p (.bool (PyData.eqv (.tuple _) (.tuple []))) = _
          rw [eqv_nilT, List.isEmpty_map]
        · rw [List.length_map]
      · show _ = D.p (.list ((within good y).map PyData.int))
        unfold within
        rw [List.map_map]
        rfl
      · refine ⟨rfl, hile, ?_, _, rfl⟩
        have htk : (lots l).take (i + 1) = (lots l).take i ++ [y] := take_get hy
        rw [htk, List.map_append, NW.putK_new]
        · rfl
        · intro q
          obtain ⟨p, hp', e⟩ := List.mem_map.mp q
          obtain ⟨z, hz, rfl⟩ := List.mem_map.mp hp'
          have : z = y := keyL_inj e
          subst this
          have hnd2 : ((lots l).take (i + 1)).Nodup := hnd.sublist (List.take_sublist _ _)
          rw [htk] at hnd2
          exact (List.nodup_append.mp hnd2).2.2 z hz z (by simp) rfl
    · rintro xs b ρ ⟨rfl, _, rfl, x, rfl⟩
      refine sm_ret (ev_var rfl) ⟨rfl, ?_⟩
      have : (lotsD (lots l)).length = (lots l).length := List.length_map ..
      rw [this, List.take_length]
  · rintro a b d ⟨rfl, rfl⟩
    refine .inr ⟨rfl, _, rfl, fun hid H hn ha => ⟨a, _, rfl, hn, ha, ?_, ?_⟩⟩
    · rw [List.map_map, List.map_map]
      rfl
    · rw [List.map_map, List.map_map]
      have key : ∀ ls : List (List Str), AtL hid H (ls.map fun x => PyData.int (mx x)) (ls.map fun x => V.int (mx x)) := fun ls => by
        induction ls with
        | nil => exact .nil
        | cons x r ih => exact .cons (.int _) ih
      exact key _
end
end SL
set_option Elab.async false
set_option linter.all false
set_option maxRecDepth 100000
set_option maxHeartbeats 4000000
namespace SL
open PySem PySem.Spec PyProof.Rows L2 DL FM NW

def pairD (e : Tie) : PyData := .tuple [.int e.1, .int e.2]
abbrev R_no_ring : List D → D → Prop := fun ds d => ∃ ts : List Tie, ds = [.p (.list (ts.map pairD))] ∧ ts.length ≤ 5 ∧ d = .p (.bool (free (fun p => p) ts))
/-- the dict holds the labels of g -/
def GV (kvs : List (Key × V)) (g : Int → Int) : Prop := ∀ kv ∈ kvs, ∃ p : Int, kv = (.inl p, .int (g p))
theorem GV.val {kvs : List (Key × V)} {g : Int → Int} (G : GV kvs g) {p : Int} (h : (.inl p : Key) ∈ kvs.map (·.1)) : valV kvs (.inl p : Key) = some (.int (g p)) := by
  obtain ⟨v, hv, hm⟩ := valV_some h
  obtain ⟨q, e⟩ := G _ hm
  cases e
  exact hv
theorem GV.put {kvs : List (Key × V)} {g h : Int → Int} (G : GV kvs g) {p n : Int} (h1 : h p = n) (h2 : ∀ q, q ≠ p → h q = g q) : GV (putK kvs (.inl p) (.int n)) h := fun kv hm => by
  rcases putK_mem hm with ⟨a, b⟩ | e
  · obtain ⟨q, rfl⟩ := G kv a
    exact ⟨q, by rw [h2 q fun e => b (by rw [e])]⟩
  · exact ⟨p, by rw [e, h1]⟩
/-- every end is a key -/
def EK (ts : List Tie) (kvs : List (Key × V)) : Prop := ∀ t ∈ ts, (.inl t.1 : Key) ∈ kvs.map (·.1) ∧ (.inl t.2 : Key) ∈ kvs.map (·.1)
open Classical in
noncomputable def hjF (keys : List Key) (g m : Int → Int) (j : Nat) (p : Int) : Int := if (.inl p : Key) ∈ keys.take j then m p else g p
theorem hjF_pos {keys : List Key} {g m : Int → Int} {j : Nat} {p : Int} (h : (.inl p : Key) ∈ keys.take j) : hjF keys g m j p = m p := by unfold hjF; rw [if_pos h]
theorem hjF_neg {keys : List Key} {g m : Int → Int} {j : Nat} {p : Int} (h : ¬ (.inl p : Key) ∈ keys.take j) : hjF keys g m j p = g p := by unfold hjF; rw [if_neg h]
section
variable {P : Program} {w : World} {K : PySem.W.Frag} {mg : Str → Option Value} {base : Heap}
abbrev N__law_no_ring : List Str := ["_law_ties", "_law_groups", "_law_one", "_law_other", "_law_mine", "_law_theirs", "_law_point"]
theorem sc__law_no_ring : FnScope N__law_no_ring ["_law_ties"] (defScope s__law_no_ring) := ⟨rfl, rfl, rfl, by decide +kernel, rfl, by decide +kernel, by decide +kernel⟩
theorem ok_law_no_ring (h : Has K mg "_law_no_ring" s__law_no_ring) (T : Txt mg) : Cal P w K mg base "_law_no_ring" 1 ["_law_ties"] (spD R_no_ring) := by
  refine cal_of h sc__law_no_ring (fun _ _ _ _ _ _ us hl => match us, hl with | [_], _ => rfl) (by rintro _ _ ⟨x, rfl, _⟩; rfl) (by decide) fun f cdv A outer s H E hr => ?_
  have hu := hu_of hr
  refine ⟨_, (pss_cons (ps_set (i := 1) sc__law_no_ring.nd rfl (by first | exact Or.inl rfl | exact Or.inr rfl) pe_dnewK)
    (pss_cons (ps_for PassesOwn.never rfl (pi_listK K (pv 0)) (pg_tupK K rfl (pgs_cons (pg_name (i := 2) sc__law_no_ring.nd rfl (by first | exact Or.inl rfl | exact Or.inr rfl)) (pgs_cons (pg_name (i := 3) sc__law_no_ring.nd rfl (by first | exact Or.inl rfl | exact Or.inr rfl)) pgs_nil))) (pss_one (ps_asg (pe_tup (pa_cons (pv 2) (pa_cons (pv 3) pa_nil))) (pg_tupK K rfl (pgs_cons (pg_sub (pv 1) (pv 2) (set_dict hu)) (pgs_cons (pg_sub (pv 1) (pv 3) (set_dict hu)) pgs_nil))))))
    (pss_cons (ps_for PassesOwn.never rfl (pi_listK K (pv 0)) (pg_tupK K rfl (pgs_cons (pg_name (i := 2) sc__law_no_ring.nd rfl (by first | exact Or.inl rfl | exact Or.inr rfl)) (pgs_cons (pg_name (i := 3) sc__law_no_ring.nd rfl (by first | exact Or.inl rfl | exact Or.inr rfl)) pgs_nil))) (pss_cons (ps_par (i := 4) (j := 5) (by rfl) sc__law_no_ring.nd rfl rfl (by decide) rfl rfl (pa_cons (pe_dget hu (pv 1) (pv 2) (fun _ _ => rfl)) (pa_cons (pe_dget hu (pv 1) (pv 3) (fun _ _ => rfl)) pa_nil)) (by rfl))
    (pss_cons (ps_if (pt_cmpR op_eq (pv 4) (pv 5) (nomark _)) (pss_one (ps_ret pe_bl)) pss_nil)
    (pss_one (ps_for PassesOwn.never rfl (pi_listK K (pe_callTy (call_list_dK rfl) (by rfl) T.b_list (by decide +kernel) (pa_cons (pv 1) pa_nil))) (pg_name (i := 6) sc__law_no_ring.nd rfl (by first | exact Or.inl rfl | exact Or.inr rfl)) (pss_one (ps_if (pt_cmpR op_eq (pe_dget hu (pv 1) (pv 6) (fun _ _ => rfl)) (pv 5) (nomark _)) (pss_one (ps_dput hu (pv 1) (pv 6) (pv 4) rfl)) pss_nil)))))))
    (pss_one (ps_ret pe_bl))))), ?_⟩
  rintro _ _ ⟨ts, rfl, hl, rfl⟩
  refine sm_hide (f := fK) (b0 := []) (R := fun a b d => d = .p (.bool (free (fun p => p) ts))) (fun σ H Q h => h) (fun a => ?_) fun a b d e => .inl e
  -- the ends
  refine sq_for (sl := [2, 3]) (fun i kvs ρ => GV kvs (fun p => p) ∧ EK (ts.take i) kvs ∧ kvs.length ≤ 2 * i ∧ ∃ x2 x3, ρ = [some (.p (.list (ts.map pairD))), some (.v (.ref a)), x2, x3, none, none, none]) (ei_list (ev_var rfl)) ⟨fun kv h => (nomatch h), fun t h => (by rw [List.take_zero] at h; cases h), Nat.zero_le _, _, _, rfl⟩ ?_ ?_
  · rintro i d kvs ρ' hd ⟨G, ek, hlen, x2, x3, rfl⟩
    obtain ⟨t, ht, rfl⟩ := map_get hd
    have hi : i < ts.length := (List.getElem?_eq_some_iff.mp ht).1
    refine ⟨_, eg_tup rfl (egs_cons eg_name (egs_cons eg_name egs_nil)), ?_⟩
    refine sm_hput2 (k1 := .inl t.1) (k2 := .inl t.2) (n1 := t.1) (n2 := t.2) rfl (by omega) (ev_tup (ds := [.int t.1, .int t.2]) (ea_cons (ev_var rfl) (ea_cons (ev_var rfl) ea_nil)) (by show 2 ≤ 100000; decide)) (ev_var rfl) (ev_var rfl) ⟨?_, ?_, ?_, _, _, rfl⟩
    · exact (G.put (h := fun p => p) rfl fun _ _ => rfl).put rfl fun _ _ => rfl
    · rw [take_get ht]
      intro u hu'
      rcases List.mem_append.mp hu' with q | q
      · obtain ⟨e1, e2⟩ := ek u q
        exact ⟨putK_keys (.inr (putK_keys (.inr e1))), putK_keys (.inr (putK_keys (.inr e2)))⟩
      · cases List.mem_singleton.mp q
        exact ⟨putK_keys (.inr (putK_keys (.inl rfl))), putK_keys (.inl rfl)⟩
    · have h1 := putK_len (kvs := kvs) (k := (.inl t.1 : Key)) (v := V.int t.1)
      have h2 := putK_len (kvs := putK kvs (.inl t.1 : Key) (V.int t.1)) (k := (.inl t.2 : Key)) (v := V.int t.2)
      omega
  rintro kvs0 ρ0 ⟨G0, ek0, hlen0, x2, x3, rfl⟩
  rw [List.length_map] at ek0 hlen0
  rw [List.take_length] at ek0
  refine sq_for (sl := [2, 3]) (fun i kvs ρ => GV kvs (after (fun p => p) (ts.take i)) ∧ EK ts kvs ∧ kvs.length ≤ 10 ∧ free (fun p => p) ts = free (after (fun p => p) (ts.take i)) (ts.drop i) ∧ ∃ x2 x3 x4 x5 x6, ρ = [some (.p (.list (ts.map pairD))), some (.v (.ref a)), x2, x3, x4, x5, x6]) (ei_list (ev_var rfl)) ⟨G0, ek0, by omega, rfl, _, _, _, _, _, rfl⟩ ?_ ?_
  · rintro i d kvs ρ' hd ⟨G, ek, hlen, hfr, x2, x3, x4, x5, x6, rfl⟩
    obtain ⟨t, ht, rfl⟩ := map_get hd
    have hi : i < ts.length := (List.getElem?_eq_some_iff.mp ht).1
    have hmem : t ∈ ts := List.mem_of_getElem? ht
    have haf : after (fun p => p) (ts.take (i + 1)) = merge (after (fun p => p) (ts.take i)) t.1 t.2 := by
      rw [take_get ht, after_append]
      rfl
    have hdr : ts.drop i = t :: ts.drop (i + 1) := by
      rw [List.drop_eq_getElem_cons hi]
      congr 1
      rw [List.getElem?_eq_getElem hi] at ht
      exact Option.some.inj ht
    rw [hdr] at hfr
    rw [haf]
    generalize after (fun p => p) (ts.take i) = g at *
    refine ⟨_, eg_tup rfl (egs_cons eg_name (egs_cons eg_name egs_nil)), ?_⟩
    refine sq_parM (PA2 := fun b' ds => b' = kvs ∧ ds = [.p (.int (g t.1)), .p (.int (g t.2))]) (ema_cons (em_hget (k := .inl t.1) rfl (ev_var rfl) (G.val (ek t hmem).1)) fun b' d ⟨e1, e2⟩ => ?_) fun b' d ⟨e1, e2⟩ => ?_
    · subst e1
      subst e2
      exact ema_one ((em_hget (k := .inl t.2) rfl (ev_var rfl) (G.val (ek t hmem).2)).imp fun b'' d ⟨q1, q2⟩ => by
        subst q1
        subst q2
        exact ⟨rfl, rfl⟩)
    subst e1
    subst e2
    refine ⟨_, _, rfl, ?_⟩
    refine sq_if (et_test (ev_op (ev_var rfl) (ev_var rfl) rv_eqI)) (fun q => ?_) fun q => sm_next ?_
    · have e : g t.1 = g t.2 := by simpa using q
      refine sm_ret ev_bl ?_
      show D.p (.bool false) = D.p (.bool _)
      rw [hfr]
      unfold free
      rw [if_pos e]
    have hne : ¬ g t.1 = g t.2 := by simpa using q
    let keys := b'.map (·.1)
    let hj : Nat → Int → Int := hjF keys g (merge g t.1 t.2)
    refine sm_forM (sl := [6]) (Px := fun b ys => b = b' ∧ ys = b'.map fun kv => keyD kv.1) (fun xs j b ρ => xs = (b'.map fun kv => keyD kv.1) ∧ GV b (hj j) ∧ b.map (·.1) = keys ∧ ∃ x6, ρ = [some (.p (.list (ts.map pairD))), some (.v (.ref a)), some (.p (.int t.1)), some (.p (.int t.2)), some (.p (.int (g t.1))), some (.p (.int (g t.2))), x6])
      (eim_list ((em_hkeys rfl).imp fun b d ⟨q1, q2⟩ => ⟨_, q2, q1, rfl⟩)) ?_ ?_ ?_
    · rintro b xs ⟨rfl, rfl⟩
      refine ⟨rfl, fun kv hm => ?_, rfl, _, rfl⟩
      obtain ⟨p, e⟩ := G kv hm
      refine ⟨p, ?_⟩
      show kv = (.inl p, .int (hjF keys g (merge g t.1 t.2) 0 p))
      rw [hjF_neg (by rw [List.take_zero]; exact fun q => nomatch q)]
      exact e
    · rintro xs j d b ρ hd2 ⟨rfl, Gj, hkeys, y6, rfl⟩
      obtain ⟨kv, hkv, rfl⟩ := map_get hd2
      obtain ⟨p, hp⟩ := G kv (List.mem_of_getElem? hkv)
      subst hp
      have hk : keys[j]? = some (.inl p) := by
        show (b'.map (·.1))[j]? = _
        rw [List.getElem?_map, hkv]
        rfl
      have hpk : (.inl p : Key) ∈ b.map (·.1) := by rw [hkeys]; exact List.mem_of_getElem? hk
      have htk : keys.take (j + 1) = keys.take j ++ [.inl p] := take_get hk
      have hne2 : ∀ q, q ≠ p → hj (j + 1) q = hj j q := fun q hq => by
        show hjF keys g (merge g t.1 t.2) (j + 1) q = hjF keys g (merge g t.1 t.2) j q
        have this : ((.inl q : Key) ∈ keys.take (j + 1)) ↔ (.inl q : Key) ∈ keys.take j := by
          rw [htk, List.mem_append, List.mem_singleton]
          exact ⟨fun h => h.elim id fun e => absurd (Sum.inl.inj e) hq, .inl⟩
        by_cases c : (.inl q : Key) ∈ keys.take j
        · rw [hjF_pos c, hjF_pos (this.mpr c)]
        · rw [hjF_neg c, hjF_neg fun z => c (this.mp z)]
      have hat : hj (j + 1) p = merge g t.1 t.2 p := by
        show hjF keys g (merge g t.1 t.2) (j + 1) p = _
        rw [hjF_pos (by rw [htk]; simp)]
      refine ⟨_, eg_name, ?_⟩
      refine sm_ifM (PT := fun b2 k => b2 = b ∧ k = decide (hj j p = g t.2)) (etm_test (em_opL ((em_hget (k := .inl p) rfl (ev_var rfl) (Gj.val hpk)).imp fun b2 d ⟨q1, q2⟩ => ?_))) (fun b2 ⟨q1, q2⟩ => ?_) fun b2 ⟨q1, q2⟩ => ?_
      · subst q1
        subst q2
        exact ⟨_, _, ev_var rfl, rv_eqI, _, rfl, rfl, rfl⟩
      · subst q1
        have e : hj j p = g t.2 := of_decide_eq_true q2.symm
        have hblen : b2.length ≤ 10 := by
          have h3 : b2.length = keys.length := by rw [← hkeys, List.length_map]
          rw [h3]
          show (b'.map _).length ≤ 10
          rw [List.length_map]
          exact hlen
        refine sm_hput (k := .inl p) (n := g t.1) rfl (by omega) (ev_var rfl) (ev_var rfl) ⟨rfl, Gj.put ?_ hne2, (putK_same hpk).trans hkeys, _, rfl⟩
        rw [hat]
        by_cases c : (.inl p : Key) ∈ keys.take j
        · have e' : merge g t.1 t.2 p = g t.2 := (hjF_pos c).symm.trans e
          unfold FM.merge at e' ⊢
          by_cases c2 : g p = g t.2
          · rw [if_pos c2]
          · rw [if_neg c2] at e'
            exact absurd e' c2
        · have e' : g p = g t.2 := (hjF_neg (m := merge g t.1 t.2) c).symm.trans e
          unfold FM.merge
          rw [if_pos e']
      · subst q1
        have e : ¬ hj j p = g t.2 := of_decide_eq_false q2.symm
        refine sm_next ⟨rfl, fun kv hm => ?_, hkeys, _, rfl⟩
        obtain ⟨q, eq⟩ := Gj kv hm
        refine ⟨q, ?_⟩
        by_cases c : q = p
        · subst c
          rw [eq, hat]
          congr 2
          by_cases c : (.inl q : Key) ∈ keys.take j
          · exact hjF_pos c
          · have e' : ¬ g q = g t.2 := fun z => e ((hjF_neg c).trans z)
            refine (hjF_neg c).trans ?_
            unfold FM.merge
            rw [if_neg e']
        · rw [eq, hne2 q c]
    · rintro xs b ρ ⟨rfl, Gj, hkeys, y6, rfl⟩
      refine ⟨fun kv hm => ?_, fun u hu' => ?_, ?_, ?_, _, _, _, _, _, rfl⟩
      · obtain ⟨p, e⟩ := Gj kv hm
        refine ⟨p, ?_⟩
        have hpk : (.inl p : Key) ∈ keys := by rw [← hkeys]; exact List.mem_map.mpr ⟨kv, hm, by rw [e]⟩
        have e2 : hj (b'.map fun kv => keyD kv.1).length p = merge g t.1 t.2 p := by
          show hjF keys g (merge g t.1 t.2) _ p = _
          exact hjF_pos (by rw [List.length_map, List.take_of_length_le (by show (b'.map _).length ≤ _; rw [List.length_map]; exact Nat.le_refl _)]; exact hpk)
        rw [e, e2]
      · rw [hkeys]
        exact ek u hu'
      · have h3 : b.length = keys.length := by rw [← hkeys, List.length_map]
        rw [h3]
        show (b'.map _).length ≤ 10
        rw [List.length_map]
        exact hlen
      · rw [hfr]
        show (if g t.1 = g t.2 then false else free (merge g t.1 t.2) (ts.drop (i + 1))) = _
        rw [if_neg hne]
  · rintro kvs ρ ⟨G, ek, hlen, hfr, x2, x3, x4, x5, x6, rfl⟩
    rw [List.length_map, List.take_length, List.drop_length] at hfr
    refine sm_ret ev_bl ?_
    show D.p (.bool true) = D.p (.bool _)
    rw [hfr]
    rfl
end
end SL
set_option Elab.async false
set_option linter.all false
set_option maxRecDepth 100000
set_option maxHeartbeats 4000000
namespace SL
open PySem PySem.Spec PyProof.Rows L2 DL FM NW

/-- the first of a tuple, where it is a text, is small -/
def smallT : PyData → Prop
  | .tuple (a :: _) => smallD a
  | _ => True
def smalls (x : PyData) : Prop := ∀ xs, itemsOf x = some xs → ∀ d ∈ xs, smallT d
def faultD (x : PyData) : PyData := match frameR x with
  | .inl p => .list [p]
  | .inr _ => .none
abbrev R_fault : List D → D → Prop := fun ds d => ∃ x, ds = [.p x] ∧ smalls x ∧ d = .p (faultD x)
theorem frameR_bad {x : PyData} {xs : List PyData} {i : Nat} (hok : okItems x = true) (hi : itemsOf x = some xs) (hb : firstBad xs = some i) : frameR x = .inl (.int (i : Int)) := by
  unfold frameR
  rw [if_pos hok, hi]
  show (match firstBad xs with
    | some i => Sum.inl (PyData.int (i : Int))
    | none => Sum.inr (rowsFrom x)) = _
  rw [hb]
theorem frameR_good {x : PyData} {xs : List PyData} (hok : okItems x = true) (hi : itemsOf x = some xs) (hb : firstBad xs = none) : frameR x = .inr (rowsFrom x) := by
  unfold frameR
  rw [if_pos hok, hi]
  show (match firstBad xs with
    | some i => Sum.inl (PyData.int (i : Int))
    | none => Sum.inr (rowsFrom x)) = _
  rw [hb]
/-- what makes a thing no tie, in the law's order -/
theorem tie_not {d : PyData} (h : isTupD d = false) : isTie d = false := by
  cases d with
  | tuple l => cases h
  | _ => rfl
theorem tie_len {l : List PyData} (h : l.length ≠ 3) : isTie (.tuple l) = false := by
  match l, h with
  | [], _ => rfl
  | [_], _ => rfl
  | [_, _], _ => rfl
  | [_, _, _], h => exact absurd rfl h
  | _ :: _ :: _ :: _ :: _, _ => rfl
section
variable {P : Program} {w : World} {K : PySem.W.Frag} {mg : Str → Option Value} {base : Heap}
abbrev N__law_fault : List Str := ["_law_ties", "_law_words", "_law_at", "_law_tie", "_law_one"]
theorem sc__law_fault : FnScope N__law_fault ["_law_ties"] (defScope s__law_fault) := ⟨rfl, rfl, rfl, by decide +kernel, rfl, by decide +kernel, by decide +kernel⟩
theorem ok_law_fault (h : Has K mg "_law_fault" s__law_fault) (T : Txt mg) (C__law_is_name : Cal P w K mg base "_law_is_name" 1 ["_law_thing"] (spD R_is_name)) : Cal P w K mg base "_law_fault" 2 ["_law_ties"] (spD R_fault) := by
  refine cal_of h sc__law_fault (fun _ _ _ _ _ _ us hl => match us, hl with | [_], _ => rfl) (by rintro _ _ ⟨x, rfl, _⟩; rfl) (by decide) fun f cdv A outer s H E hr => ?_
  refine ⟨_, (pss_cons (ps_if (PW.pt (pw_or (pt_not (pt_val (pe_callB (call_isiTK K) (by rfl) T.b_isinstance (by decide +kernel) (pa_cons (pv 0) (pa_cons (pe_tup (pa_cons (pe_bltn (v := .ty "list") (by rfl) T.b_list (by decide +kernel) rfl) (pa_cons (pe_bltn (v := .ty "tuple") (by rfl) T.b_tuple (by decide +kernel) rfl) pa_nil))) pa_nil))))) (pw_or1 (pt_not (pt_chain op_le op_le pe_int (pe_callB (call_len_seqK K) (by rfl) T.b_len (by decide +kernel) (pa_cons (pv 0) pa_nil)) pe_int))))) (pss_one (ps_ret (pe_lst (pa_cons pe_non pa_nil)))) pss_nil)
    (pss_cons (ps_set (i := 1) sc__law_fault.nd rfl (by first | exact Or.inl rfl | exact Or.inr rfl) (pe_lst pa_nil))
    (pss_cons (ps_for PassesOwn.never rfl (pi_enumAK K (by rfl) T.b_enumerate (pa_cons (pv 0) pa_nil)) (pg_tupK K rfl (pgs_cons (pg_name (i := 2) sc__law_fault.nd rfl (by first | exact Or.inl rfl | exact Or.inr rfl)) (pgs_cons (pg_name (i := 3) sc__law_fault.nd rfl (by first | exact Or.inl rfl | exact Or.inr rfl)) pgs_nil))) (pss_cons (ps_if (PW.pt (pw_or (pt_not (pt_val (pe_callB (call_isiK K) (by rfl) T.b_isinstance (by decide +kernel) (pa_cons (pv 3) (pa_cons (pe_bltn (v := .ty "tuple") (by rfl) T.b_tuple (by decide +kernel) rfl) pa_nil))))) (pw_or (pt_cmpR op_ne (pe_callB (call_len_seqK K) (by rfl) T.b_len (by decide +kernel) (pa_cons (pv 3) pa_nil)) pe_int (nomark _)) (pw_or (pt_not (pt_val (pe_cal C__law_is_name (hr.mono (by decide)) (by rfl) (pa_cons (pe_ix (ix_tupK K) (pv 3) pe_int (fun _ _ => rfl)) pa_nil)))) (pw_or1 (pt_cmpR (op_in_seqK K) (pe_ix (ix_tupK K) (pv 3) pe_int (fun _ _ => rfl)) (pv 1) (by rfl))))))) (pss_one (ps_ret (pe_lst (pa_cons (pv 2) pa_nil)))) pss_nil)
    (pss_cons (ps_if (pt_cmpR (op_neDK K hr.units) (pe_lc (own := [("_law_one", 4)]) (g := (gName 4)) rfl sc__law_fault.nd (pi_tupK K (pe_slice (sl_tupAK K) (pv 3) (po_some pe_int) po_none)) (blkOk_by (own := [("_law_one", 4)]) (N := N__law_fault) (sc := defScope s__law_fault) (by decide +kernel)) (fun _ _ _ _ _ => (pg_name (i := 4) sc__law_fault.nd rfl (by first | exact Or.inl rfl | exact Or.inr rfl))) (fun _ _ _ _ _ => (pts_one (PW.pt (pw_or (pt_not (pt_val (pe_callB (call_isiK K) (by rfl) T.b_isinstance (by decide +kernel) (pa_cons (pv 4) (pa_cons (pe_bltn (v := .ty "int") (by rfl) T.b_int (by decide +kernel) rfl) pa_nil))))) (pw_or1 (pt_val (pe_callB (call_isiK K) (by rfl) T.b_isinstance (by decide +kernel) (pa_cons (pv 4) (pa_cons (pe_bltn (v := .ty "bool") (by rfl) T.b_bool (by decide +kernel) rfl) pa_nil))))))))) (fun _ _ _ _ _ => pe_int)) (pe_lst pa_nil) (nomark _)) (pss_one (ps_ret (pe_lst (pa_cons (pv 2) pa_nil)))) pss_nil)
    (pss_one (ps_expr (pe_bm PySem.F.plainAttrs_list PySem.F.slot_list_append PySem.F.type_list_append mt_append (pv 1) (pa_cons (pe_ix (ix_tupK K) (pv 3) pe_int (fun _ _ => rfl)) pa_nil)))))))
    (pss_one (ps_ret pe_non))))), ?_⟩
  rintro _ _ ⟨x, rfl, hsm, rfl⟩
  refine sq_if (a := !okItems x) ?_ (fun q => ?_) fun q => sm_next ?_
  · cases hi : itemsOf x with
    | none =>
      have e1 : (isListD x || isTupD x) = false := by rw [items_isi, hi]; rfl
      have e2 : okItems x = false := by unfold okItems; rw [hi]
      refine et_is (et_or (b := true) (et_not (et_B (ev_cb (ea_cons (ev_var rfl) (ea_cons ev_tys ea_nil)) (rc_isiT2 (kit_list _) (kit_tup _))))) fun q => ?_) ?_
      · rw [e1] at q
        cases q
      · rw [e1, e2]
        rfl
    | some xs =>
      have e1 : (isListD x || isTupD x) = true := by rw [items_isi, hi]; rfl
      refine et_is (et_or (et_not (et_B (ev_cb (ea_cons (ev_var rfl) (ea_cons ev_tys ea_nil)) (rc_isiT2 (kit_list _) (kit_tup _))))) fun _ => et_not (et_test (ev_chain ev_int (ev_cb (ea_cons (ev_var rfl) ea_nil) (rc_lenQ (items_seq hi))) rv_le (fun _ => ev_int) fun _ => rv_le))) ?_
      rw [e1]
      unfold okItems
      rw [hi]
      rfl
  · have e : okItems x = false := by simpa using q
    refine sm_ret (ev_lst (ds := [.none]) (ea_cons ev_non ea_nil) (by decide)) ?_
    show D.p _ = D.p _
    unfold faultD frameR
    rw [if_neg (by rw [e]; decide)]
  have hok : okItems x = true := by simpa using q
  obtain ⟨xs, hi⟩ : ∃ xs, itemsOf x = some xs := by
    cases hi : itemsOf x with
    | none => unfold okItems at hok; rw [hi] at hok; cases hok
    | some xs => exact ⟨xs, rfl⟩
  have hlen : xs.length ≤ 5 := by
    unfold okItems at hok
    rw [hi] at hok
    simp only [Bool.and_eq_true, decide_eq_true_eq] at hok
    omega
  have hsx := hsm xs hi
  refine sm_hide (f := fL) (b0 := []) (R := fun a b d => d = .p (faultD x)) (fun σ H Q h => ⟨by show 0 ≤ sizeLine; decide, h⟩) (fun a => ?_) fun a b d e => .inl e
  have bad : ∀ {i : Nat}, i < xs.length → (∀ j, j < i → goodAt xs j = true) → goodAt xs i = false → faultD x = .list [.int (i : Int)] := fun h1 h2 h3 => by
    unfold faultD
    rw [frameR_bad hok hi (bad_at h1 h2 h3)]
  refine sq_for (sl := [2, 3]) (fun i b ρ => b = (xs.take i).map nameOf ∧ (∀ j, j < i → goodAt xs j = true) ∧ ∃ x2 x3 x4, ρ = [some (.p x), some (.v (.ref a)), x2, x3, x4]) (ei_enumA (items_seq hi) (ea_cons (ev_var rfl) ea_nil)) ⟨rfl, fun j hj => absurd hj (Nat.not_lt_zero _), _, _, _, rfl⟩ ?_ ?_
  · rintro i d b ρ' hd ⟨rfl, hgood, x2, x3, x4, rfl⟩
    obtain ⟨⟨t, i'⟩, ht, rfl⟩ := map_get hd
    rw [List.getElem?_zipIdx] at ht
    cases hx : xs[i]? with
    | none => rw [hx] at ht; cases ht
    | some t' =>
      rw [hx] at ht
      cases ht
      have hilt : i < xs.length := (List.getElem?_eq_some_iff.mp hx).1
      have hst : smallT t := hsx t (List.mem_of_getElem? hx)
      have hga : goodAt xs i = (isTie t && !decide (nameOf t ∈ (xs.take i).map nameOf)) := by
        unfold goodAt
        rw [hx]
      rw [Nat.zero_add]
      have lenb : ((xs.take i).map nameOf).length ≤ 5 := by rw [List.length_map, List.length_take]; omega
      refine ⟨_, eg_tup rfl (egs_cons eg_name (egs_cons eg_name egs_nil)), ?_⟩
      have ret : goodAt xs i = false → ∀ {P' : Po (List Str)}, (∀ b, P'.rt b (.p (faultD x))) → Sm (HM a fL) (tRet (tLst (tCons (tVar 2) tNil))) ((xs.take i).map nameOf) [some (.p x), some (.v (.ref a)), some (.p (.int (i : Int))), some (.p t), x4] P' := fun hb P' hP => by
        refine sm_ret (ev_lst (ds := [.int (i : Int)]) (ea_cons (ev_var rfl) ea_nil) (by show 1 ≤ 100000; decide)) ?_
        rw [← bad hilt hgood hb]
        exact hP _
      -- no tie by its form
      refine sq_ifM (PT := fun b' k => b' = (xs.take i).map nameOf ∧ (k = true → goodAt xs i = false) ∧ (k = false → ∃ s y z, t = .tuple [.str s, y, z] ∧ isWordS s = true ∧ s ∉ (xs.take i).map nameOf))
        (etm_or (PT1 := fun b' k => b' = (xs.take i).map nameOf ∧ k = !isTupD t) ((etm_of (et_not (et_B (ev_cb (ea_cons (ev_var rfl) (ea_cons ev_val ea_nil)) (rc_isi (kit_tup t)))))).imp fun b' k e => e) (fun b1 ⟨e1, e2⟩ => ?_) fun b1 ⟨e1, e2⟩ => ?_) (fun b1 ⟨e1, e2, _⟩ => ?_) fun b1 ⟨e1, _, e3⟩ => ?_
      · subst e1
        have htup : isTupD t = true := by simpa using e2.symm
        obtain ⟨l, rfl⟩ : ∃ l, t = .tuple l := by
          cases t with
          | tuple l => exact ⟨l, rfl⟩
          | _ => cases htup
        refine etm_or (PT1 := fun b' k => b' = (xs.take i).map nameOf ∧ k = !decide ((l.length : Int) = 3)) ((etm_of (et_test (ev_op (ev_cb (ea_cons (ev_var rfl) ea_nil) rc_lenT) ev_int rv_neI))).imp fun b' k e => e) (fun b1 ⟨q1, q2⟩ => ?_) fun b1 ⟨q1, q2⟩ => ?_
        · subst q1
          have hl3 : l.length = 3 := by
            have : (l.length : Int) = 3 := by simpa using q2.symm
            omega
          obtain ⟨u, y, z, rfl⟩ : ∃ u y z, l = [u, y, z] := by
            match l, hl3 with
            | [u, y, z], _ => exact ⟨u, y, z, rfl⟩
          have hu1 : smallD u := hst
          refine etm_or (PT1 := fun b' k => b' = (xs.take i).map nameOf ∧ k = !isWord u) ((etm_of (et_not (et_B (ev_call (ea_cons (ev_op (ev_var rfl) ev_int (rv_ixT (i := 0) rfl)) ea_nil) ⟨u, rfl, hu1, rfl⟩)))).imp fun b' k e => e) (fun b1 ⟨r1, r2⟩ => ?_) fun b1 ⟨r1, r2⟩ => ?_
          · subst r1
            have hw : isWord u = true := by simpa using r2.symm
            obtain ⟨s, rfl⟩ : ∃ s, u = .str s := by
              cases u with
              | str s => exact ⟨s, rfl⟩
              | _ => cases hw
            refine (etm_test ((em_hin rfl (ev_op (ev_var rfl) ev_int (rv_ixT (i := 0) rfl))).imp fun b' d ⟨v1, v2⟩ => ⟨_, v2, v1, fun v3 => ?_, fun v3 => ⟨s, y, z, rfl, hw, ?_⟩⟩))
            · rw [hga]
              show (_ && !decide (s ∈ (xs.take i).map nameOf)) = false
              rw [v3]
              simp
            · exact of_decide_eq_false v3
          · refine ⟨r1, fun _ => ?_, fun q => nomatch q⟩
            have hw : isWord u = false := by simpa using r2.symm
            rw [hga]
            show ((isWord u && (isNum y && isNum z)) && _) = false
            rw [hw]
            rfl
        · refine ⟨q1, fun _ => ?_, fun q => nomatch q⟩
          have hl3 : l.length ≠ 3 := fun h => by
            rw [h] at q2
            cases q2
          rw [hga, tie_len hl3]
          rfl
      · subst e1
        refine ⟨rfl, fun _ => ?_, fun q => nomatch q⟩
        have htup : isTupD t = false := by simpa using e2.symm
        rw [hga, tie_not htup]
        rfl
      · subst e1
        exact ret (e2 rfl) fun _ => rfl
      subst e1
      obtain ⟨s, y, z, rfl, hw, hnew⟩ := e3 rfl
      refine sm_next ?_
      have hga2 : goodAt xs i = (isNum y && isNum z) := by
        rw [hga]
        show ((isWordS s && (isNum y && isNum z)) && !decide (s ∈ (xs.take i).map nameOf)) = _
        rw [hw, decide_eq_false hnew]
        simp
      have hcut : DL.cutD [PyData.str s, y, z] (some 1) none = [y, z] := cut_from _ 1
      refine sq_if (a := !(isNum y && isNum z)) (et_is (et_test (ev_op (ev_lc (xs := [y, z]) (fun e => !isIntD e || isBoolD e) (fun _ => .int 1) (ei_tup (ev_is (ev_sl (ev_var rfl) (eo_some ev_int) eo_none rs_tup) (by rw [hcut]))) (sl := [4]) (by decide) (by show 2 ≤ 100000; decide) fun e he => ⟨_, eg_name, et_or (et_not (et_B (ev_cb (ea_cons (ev_var rfl) (ea_cons ev_val ea_nil)) (rc_isi (kit_int e))))) (fun _ => et_B (ev_cb (ea_cons (ev_var rfl) (ea_cons ev_val ea_nil)) (rc_isi (kit_bool e)))), fun _ => ev_int⟩) (ev_lst (ds := []) ea_nil (by decide)) (rv_neD (shaped_list fun v hv => ?_) (shaped_list fun v hv => nomatch hv)))) ?_) (fun q => ?_) fun q => sm_next ?_
      · obtain ⟨_, _, rfl⟩ := List.mem_map.mp hv
        trivial
      · rw [eqv_nilL, List.isEmpty_map]
        have hn : ∀ e, (!isIntD e || isBoolD e) = !isNum e := fun e => by
          unfold isNum
          cases isIntD e <;> cases isBoolD e <;> rfl
        simp only [hn]
        cases h1 : isNum y <;> cases h2 : isNum z <;> simp [h1, h2]
      · refine ret ?_ fun _ => rfl
        rw [hga2]
        revert q
        cases (isNum y && isNum z) <;> simp
      · refine sm_happ (z := s) rfl (by omega) (ev_op (ev_var rfl) ev_int (rv_ixT (i := 0) rfl)) ⟨?_, ?_, _, _, _, rfl⟩
        · rw [take_get hx, List.map_append]
          rfl
        · intro j hj
          by_cases e : j = i
          · subst e
            rw [hga2]
            simpa using q
          · exact hgood j (by omega)
  · rintro b ρ ⟨rfl, hgood, x2, x3, x4, rfl⟩
    rw [List.length_map, List.length_zipIdx] at hgood
    refine sm_ret ev_non ?_
    show D.p _ = D.p _
    unfold faultD
    rw [frameR_good hok hi (bad_none hgood)]
end
end SL
set_option Elab.async false
set_option linter.all false
set_option maxRecDepth 100000
set_option maxHeartbeats 4000000
/-! repr(..) of plain data. -/
namespace NW
open PySem PySem.Spec PyProof.Rows L2 DL SL

section
variable {P : Program} {w : World} {hid : Hid} {H : Hp} {h : Heap}
theorem kv_nil {vs : List (Key × Value)} (r : KV ([] : List (Key × V)) vs) : vs = [] := by
  cases r
  rfl
theorem pairs_nil {es : List DictEntry} (r : Pairs (mixKind P w) es ([] : List (Key × Value))) : es = [] := by
  cases r
  rfl
mutual
theorem at_repr (ok : HOk P w H h) : ∀ (d : PyData) (v : V) (u : Value), At hid H d v → RelV v u → d.showable = true → d.shown.length ≤ sizeLine → ∃ as, Reads h u d as ∧ ∃ bs, ReadAtMost h d.depth bs ∧ ReprK P w bs h d.depth u d.shown
  | .none, _, _, a, r, _, _ => by
    cases a
    cases r
    exact ⟨[], .none, [], (fun _ h => nomatch h), by simp only [PyData.shown]; exact .of_is ReprIs.none _ _ _⟩
  | .bool b, _, _, a, r, _, _ => by
    cases a
    cases r
    exact ⟨[], .bool b, [], (fun _ h => nomatch h), by simp only [PyData.shown]; exact .of_is (ReprIs.bool b) _ _ _⟩
  | .int i, _, _, a, r, hs, _ => by
    cases a
    obtain ⟨t, rfl⟩ := r
    exact ⟨[], .int i t, [], (fun _ h => nomatch h), by simp only [PyData.shown]; exact .of_is (ReprIs.int t (by simpa [PyData.showable] using hs)) _ _ _⟩
  | .str x, _, _, a, r, _, hz => by
    cases a
    obtain ⟨t, rfl⟩ := r
    exact ⟨[], .str x t, [], (fun _ h => nomatch h), by simp only [PyData.shown]; exact .of_is (ReprIs.str x t (by simpa only [PyData.shown] using hz)) _ _ _⟩
  | .list xs, _, _, a, r, hs, hz => by
    cases a with
    | @list a vs _ n e l =>
      cases r
      obtain ⟨_, its, k, rv, hob⟩ := ok a _ e
      have hz' : (listText (PyData.shownAll xs)).length ≤ sizeLine := by simpa only [PyData.shown] using hz
      obtain ⟨as, ra, bs, hb, hk⟩ := atL_repr ok xs vs its l rv (by simpa [PyData.showable] using hs) (fun t ht => Nat.le_trans (listText_mem_le ht) hz')
      have r : Reads h (.ref a) (.list xs) _ := .list hob rfl rfl ra
      have hna : a ∉ bs := not_mem_of_deeper r (by simp only [PyData.depth]; omega) hb
      refine ⟨_, r, a :: bs, ReadAtMost.cons r (by simp only [PyData.depth]; omega) hb, ?_⟩
      simp only [PyData.depth, PyData.shown]
      cases its with
      | nil =>
        have h4' : ReadsAll h [] xs _ := ra
        cases h4'
        simp only [PyData.shownAll, listText_nil]
        exact ReprK.listEmpty hob rfl rfl
      | cons x l => exact ReprK.list hob rfl rfl hna (by simpa using hk.length_eq) (fun i y e => hk.item i y (by simpa using e))
  | .tuple xs, _, _, a, r, hs, hz => by
    cases a with
    | @tuple a vs _ n e l =>
      cases r
      obtain ⟨_, its, rv, o, ho, hc, k, hd⟩ := ok a _ e
      have hz' : (tupleText (PyData.shownAll xs)).length ≤ sizeLine := by simpa only [PyData.shown] using hz
      obtain ⟨as, ra, bs, hb, hk⟩ := atL_repr ok xs vs its l rv (by simpa [PyData.showable] using hs) (fun t ht => Nat.le_trans (tupleText_mem_le ht) hz')
      have r : Reads h (.ref a) (.tuple xs) _ := .tuple ho hc hd ra
      have hna : a ∉ bs := not_mem_of_deeper r (by simp only [PyData.depth]; omega) hb
      refine ⟨_, r, a :: bs, ReadAtMost.cons r (by simp only [PyData.depth]; omega) hb, ?_⟩
      simp only [PyData.depth, PyData.shown]
      exact ReprK.tuple ho hc hd hna hk
  | .dict kvs, _, _, a, r, hs, hz => by
    cases a with
    | @dict0 a n e =>
      cases r
      obtain ⟨_, hsys, vs0, rk, o, es, ep, ho, hx, hd, _, hp, _⟩ := ok a _ e
      have e0 := kv_nil rk
      subst e0
      have e1 := pairs_nil hp
      have r : Reads h (.ref a) (.dict []) (a :: [] ++ []) := .dict ho hx.1 hd (by rw [e1]; exact .nil) (by rw [e1]; exact .nil)
      refine ⟨_, r, [a], ReadAtMost.cons (n := 0) r (Nat.zero_le _) (fun _ h => nomatch h), ?_⟩
      simp only [PyData.depth, PyData.depthKv, PyData.shown, PyData.shownKv]
      exact ReprK.dict (as := []) (ps := []) ho hx.1 hd hsys (by simp) (by rw [e1]; exact .nil)
theorem atL_repr (ok : HOk P w H h) : ∀ (ds : List PyData) (vs : List V) (us : List Value), AtL hid H ds vs → Vals vs us → PyData.showableAll ds = true → (∀ t ∈ PyData.shownAll ds, t.length ≤ sizeLine) → ∃ as, ReadsAll h us ds as ∧ ∃ bs, ReadAtMost h (PyData.depthAll ds) bs ∧ ReprAllK P w bs h (PyData.depthAll ds) us (PyData.shownAll ds)
  | [], _, _, a, r, _, _ => by
    cases a
    cases r
    exact ⟨[], .nil, [], (fun _ h => nomatch h), by simp only [PyData.shownAll]; exact .nil⟩
  | d :: ds, _, _, a, r, hs, hz => by
    cases a with
    | cons a al =>
      cases r with
      | cons r rl =>
        have hs' : d.showable = true ∧ PyData.showableAll ds = true := by simpa [PyData.showableAll] using hs
        obtain ⟨a1, r1, b1, hb1, k1⟩ := at_repr ok d _ _ a r hs'.1 (hz _ (by simp only [PyData.shownAll]; exact List.mem_cons_self ..))
        obtain ⟨a2, r2, b2, hb2, k2⟩ := atL_repr ok ds _ _ al rl hs'.2 (fun t ht => hz t (by simp only [PyData.shownAll]; exact List.mem_cons_of_mem _ ht))
        refine ⟨_, .cons r1 r2, b1 ++ b2, ?_, ?_⟩
        · intro b hm
          simp only [PyData.depthAll]
          rcases List.mem_append.mp hm with hm | hm
          · obtain ⟨d', as', r', hd'⟩ := hb1 b hm
            exact ⟨d', as', r', Nat.le_trans hd' (Nat.le_max_left _ _)⟩
          · obtain ⟨d', as', r', hd'⟩ := hb2 b hm
            exact ⟨d', as', r', Nat.le_trans hd' (Nat.le_max_right _ _)⟩
        · simp only [PyData.depthAll, PyData.shownAll]
          exact .cons ((k1.more fun b hb => List.mem_append_left _ hb).level_le (Nat.le_max_left _ _)) (k2.more_le (fun b hb => List.mem_append_right _ hb) (Nat.le_max_right _ _))
end
end
/-- repr(x) -/
def rRepr : List V → Hp → VK → Prop := fun vs H Q => ∃ (hid : Hid) (d : PyData) (v : V), vs = [v] ∧ At hid H d v ∧ d.showable = true ∧ d.depth ≤ 20 ∧ d.shown.length ≤ sizeLine ∧ Q (.str d.shown) H
theorem cr_repr {X : Cx} (hg : X.A.guards = some []) (hu : X.A.units + 64 < cLine) : CallR X (.builtin "repr") rRepr := by
  intro pins s σ H xs us Q I r h
  obtain ⟨hid, d, v, rfl, a, hs, hdp, hz, q⟩ := h
  obtain ⟨u, rfl, ru⟩ := vals1 r
  have fin : ∀ h' t tk, (∀ b o, s.heap.get? b = some o → h'.get? b = some o) → EP X pins σ Q (.str d.shown t) { s with heap := h', toks := tk } := fun h' t tk k => ⟨.str d.shown, H, I.kept k, ⟨t, rfl⟩, q⟩
  obtain ⟨as, rd, bs, hb, hk⟩ := at_repr I.hok d v u a ru hs hz
  cases a with
  | non =>
    cases ru
    exact PySem.P.repr_of_none ⟨.str _, H, I.tok _, ⟨_, rfl⟩, q⟩
  | bool b =>
    cases ru
    exact PySem.P.repr_of_bool ⟨.str _, H, I.tok _, ⟨_, rfl⟩, by cases b <;> exact q⟩
  | int i =>
    obtain ⟨t, rfl⟩ := ru
    exact PySem.P.repr_of_int (by simpa [PyData.showable] using hs) ⟨.str _, H, I.tok _, ⟨_, rfl⟩, q⟩
  | str x =>
    obtain ⟨t, rfl⟩ := ru
    exact PySem.P.repr_of_str ⟨.str _, H, I.tok _, ⟨_, rfl⟩, q⟩ (by simpa only [PyData.shown] using hz)
  | @list a vs xs n e l =>
    cases ru
    obtain ⟨_, its, k, rv, hob⟩ := I.hok a _ e
    refine call_repr_slot (by omega) (T := "list") ⟨_, hob, rfl⟩ F.slot_list_repr.toG ?_
    have hz' : (listText (PyData.shownAll xs)).length ≤ sizeLine := by simpa only [PyData.shown] using hz
    obtain ⟨as, ra, bs, hb, hk⟩ := atL_repr I.hok xs vs its l rv (by simpa [PyData.showable] using hs) (fun t ht => Nat.le_trans (listText_mem_le ht) hz')
    have r : Reads s.heap (.ref a) (.list xs) _ := .list hob rfl rfl ra
    have hna : a ∉ bs := not_mem_of_deeper r (by simp only [PyData.depth]; omega) hb
    simp only [PyData.depth] at hdp
    simp only [PyData.shown] at fin
    cases its with
    | nil =>
      have h4' : ReadsAll s.heap [] xs _ := ra
      cases h4'
      simp only [PyData.shownAll, listText_nil] at fin
      exact call_list_repr_empty ⟨_, hob, rfl⟩ hob rfl ⟨_, _, rfl, fin s.heap _ _ fun _ _ e => e⟩
    | cons x l =>
      exact call_list_reprK hob rfl rfl hna (by simpa using hk.length_eq) (fun i y e => hk.item i y (by simpa using e)) (A := X.A.in1) hg (fun b _ => Clear.nil b) (by show X.A.units + 1 + _ < cLine; omega) (fun _ _ e => e) (fun h' t tk k => ⟨_, _, rfl, fin h' t tk k⟩) hz'
  | @tuple a vs xs n e l =>
    cases ru
    obtain ⟨_, its, rv, o, ho, hc, k, hd⟩ := I.hok a _ e
    refine call_repr_slot (by omega) (T := "tuple") ⟨_, ho, hc⟩ F.slot_tuple_repr ?_
    have hz' : (tupleText (PyData.shownAll xs)).length ≤ sizeLine := by simpa only [PyData.shown] using hz
    obtain ⟨as, ra, bs, hb, hk⟩ := atL_repr I.hok xs vs its l rv (by simpa [PyData.showable] using hs) (fun t ht => Nat.le_trans (tupleText_mem_le ht) hz')
    have r : Reads s.heap (.ref a) (.tuple xs) _ := .tuple ho hc hd ra
    have hna : a ∉ bs := not_mem_of_deeper r (by simp only [PyData.depth]; omega) hb
    simp only [PyData.depth] at hdp
    simp only [PyData.shown] at fin
    exact call_tuple_reprK ho hc hd hna hk (A := X.A.in1) hg (fun b _ => Clear.nil b) (by show X.A.units + 1 + _ < cLine; omega) (fun _ _ e => e) (fun h' t tk k => ⟨_, _, rfl, fin h' t tk k⟩) hz'
  | @dict0 a n e =>
    cases ru
    obtain ⟨_, hsys, vs0, rk, o, es, ep, ho, hx, hd, _, hp, _⟩ := I.hok a _ e
    have e0 := kv_nil rk
    subst e0
    have e1 := pairs_nil hp
    refine call_repr_slot (by omega) (T := "dict") ⟨_, ho, hx.1⟩ F.slot_dict_repr ?_
    exact call_dict_reprK (as := []) (ps := []) (d := 0) ho hx.1 hd hsys (by simp) (by rw [e1]; exact .nil) (A := X.A.in1) hg (fun b _ => Clear.nil b) (by show X.A.units + 1 + 1 < cLine; omega) (fun _ _ e => e) (fun h' t tk k => ⟨_, _, rfl, fin h' t tk k⟩) (by decide)
theorem rc_repr {d : PyData} (hs : d.showable = true) (hd : d.depth ≤ 20) (hz : d.shown.length ≤ sizeLine) : Rc rRepr [.p d] (.p (.str d.shown)) := fun hid H us o a Q q => by
  cases a with
  | cons a r =>
    cases r
    exact ⟨hid, d, _, rfl, a, hs, hd, hz, q _ _ (Same.refl H) (.str _)⟩
end NW
set_option Elab.async false
set_option linter.all false
set_option maxRecDepth 100000
set_option maxHeartbeats 4000000
namespace SL
open PySem PySem.Spec PyProof.Rows L2 DL FM NW

/-- the lots without a ring -/
def goodL (T : Str → Tie) (l : List Str) : List (List Str) := (lots l).filter fun a => free (fun p => p) (a.map T)
theorem rk_sub {T : Str → Tie} {g a : List Str} (h : g.Sublist a) : rk (fun p => p) (g.map T) ≤ rk (fun p => p) (a.map T) := by
  obtain ⟨r, hr⟩ := h.exists_perm_append
  rw [rk_perm (hr.map T), List.map_append, rk_append]
  exact Nat.le_add_right _ _
theorem within_rk {T : Str → Tie} {l : List Str} (hl : l.Pairwise ltS) {a : List Str} (ha : a ∈ lots l) : rkT T a ∈ within (goodL T l) a ∧ ∀ y ∈ within (goodL T l) a, y ≤ rkT T a := by
  refine ⟨?_, fun y hy => ?_⟩
  · obtain ⟨k, hs, hf, hn⟩ := free_part (a.map T) (fun p => p)
    obtain ⟨b, hb, rfl⟩ := List.sublist_map_iff.mp hs
    rw [List.length_map] at hn
    unfold within
    refine List.mem_map.mpr ⟨b, List.mem_filter.mpr ⟨List.mem_filter.mpr ⟨mem_lots.mpr (hb.trans (mem_lots.mp ha)), hf⟩, ?_⟩, ?_⟩
    · rw [List.isEmpty_iff, List.filter_eq_nil_iff]
      intro x hx
      simp only [Bool.not_eq_true', decide_eq_false_iff_not, Decidable.not_not]
      exact hb.mem hx
    · unfold rkT
      rw [hn]
  · unfold within at hy
    obtain ⟨g, hg, rfl⟩ := List.mem_map.mp hy
    obtain ⟨hg1, hg2⟩ := List.mem_filter.mp hg
    obtain ⟨hg3, hg4⟩ := List.mem_filter.mp hg1
    rw [List.isEmpty_iff, List.filter_eq_nil_iff] at hg2
    have hsub : ∀ x ∈ g, x ∈ a := fun x hx => by
      have := hg2 x hx
      simp only [Bool.not_eq_true', decide_eq_false_iff_not, Decidable.not_not] at this
      exact this
    have hga : g.Sublist a := sub_of_sorted ltS_sto (lot_sorted hl ha) (lot_sorted hl hg3) hsub
    have h1 := rk_sub (T := T) hga
    have h2 := (free_iff _ _).mp hg4
    rw [List.length_map] at h2
    unfold rkT
    omega
end SL
set_option Elab.async false
set_option linter.all false
set_option maxRecDepth 100000
set_option maxHeartbeats 4000000
namespace SL
open PySem PySem.Spec PyProof.Rows L2 DL FM NW

/-- a thing that can be shown -/
structure Shw (n : Nat) (d : PyData) : Prop where
  sh : d.showable = true
  lf : d.leavesShort 50 = true
  bk : d.bulk ≤ n
structure ShwA (n : Nat) (ds : List PyData) : Prop where
  sh : PyData.showableAll ds = true
  lf : PyData.leavesShortAll 50 ds = true
  bk : PyData.bulkAll ds ≤ n
theorem ShwA.of {n : Nat} : ∀ {ds : List PyData}, (∀ d ∈ ds, Shw n d) → ShwA ((n + 1) * ds.length) ds
  | [], _ => ⟨rfl, rfl, Nat.zero_le _⟩
  | d :: ds, h => by
    have h1 := h d List.mem_cons_self
    have h2 := ShwA.of fun x hx => h x (List.mem_cons_of_mem _ hx)
    refine ⟨by simp [PyData.showableAll, h1.sh, h2.sh], by simp [PyData.leavesShortAll, h1.lf, h2.lf], ?_⟩
    simp only [PyData.bulkAll, List.length_cons]
    have a := h1.bk
    have b := h2.bk
    rw [Nat.mul_add, Nat.mul_one]
    omega
theorem Shw.list {n : Nat} {ds : List PyData} (h : ShwA n ds) : Shw n (.list ds) := ⟨by simpa [PyData.showable] using h.sh, by simpa only [PyData.leavesShort] using h.lf, by simpa only [PyData.bulk] using h.bk⟩
theorem Shw.tuple {n : Nat} {ds : List PyData} (h : ShwA n ds) : Shw n (.tuple ds) := ⟨by simpa [PyData.showable] using h.sh, by simpa only [PyData.leavesShort] using h.lf, by simpa only [PyData.bulk] using h.bk⟩
theorem Shw.up {n m : Nat} {d : PyData} (h : Shw n d) (l : n ≤ m) : Shw m d := ⟨h.sh, h.lf, Nat.le_trans h.bk l⟩
theorem Shw.len {n : Nat} {d : PyData} (h : Shw n d) (hn : n ≤ 300000) : d.shown.length ≤ sizeLine := by
  have h1 := PyData.shown_le_bulk 50 (by decide) d h.lf
  have h2 : (50 + 2) * d.bulk ≤ 52 * 300000 := Nat.mul_le_mul_left _ (Nat.le_trans h.bk hn)
  have h3 : 52 * 300000 + 50 ≤ sizeLine := by decide
  omega
theorem shw_int {i : Int} (h : i.natAbs < 10 ^ 40) : Shw 0 (.int i) := by
  have h1 : i.natAbs.log2 < 1920 := by
    have h2 : i.natAbs < 2 ^ 1920 := Nat.lt_of_lt_of_le h (by decide +kernel)
    by_cases h0 : i.natAbs = 0
    · rw [h0]; decide
    · exact (Nat.log2_lt h0).mpr h2
  refine ⟨by simpa [PyData.showable] using h1, ?_, Nat.le_refl 0⟩
  have h3 := int_text_length_le10 (a := i) (k := 40) (by decide) h
  have h4 : (PyData.shown (.int i)).length ≤ 41 := by
    have e : (PyData.shown (.int i)) = (Str.ofString (toString i)) := rfl
    rw [e, PySem.ofString_length]
    exact h3
  simp only [PyData.leavesShort, decide_eq_true_eq]
  omega
theorem shw_str {z : Str} (h : ∀ c ∈ z.cps.toList, c < 128) : Shw z.length (.str z) := by
  refine ⟨rfl, ?_, ?_⟩
  · simp only [PyData.leavesShort, List.all_eq_true, decide_eq_true_eq]
    exact fun c hc => Nat.lt_trans (h c hc) (by decide)
  · simp only [PyData.bulk]
    exact Nat.le_refl _
theorem Lf.shw : ∀ {d : PyData}, Lf d → Shw 40 d ∧ d.depth ≤ 1
  | .none, _ => ⟨⟨rfl, rfl, Nat.zero_le _⟩, by simp [PyData.depth]⟩
  | .bool b, _ => ⟨⟨rfl, rfl, Nat.zero_le _⟩, by simp [PyData.depth]⟩
  | .int i, h => ⟨(shw_int h).up (Nat.zero_le _), by simp [PyData.depth]⟩
  | .str z, h => ⟨(shw_str h.2).up h.1, by simp [PyData.depth]⟩
  | .dict kvs, h => by
    have e : kvs = [] := h
    subst e
    exact ⟨⟨rfl, rfl, Nat.zero_le _⟩, by simp [PyData.depth, PyData.depthKv]⟩
  | .list _, h => h.elim
  | .tuple _, h => h.elim
theorem depth_all {n : Nat} : ∀ {ds : List PyData}, (∀ d ∈ ds, d.depth ≤ n) → PyData.depthAll ds ≤ n
  | [], _ => Nat.zero_le _
  | d :: ds, h => by
    have h1 := h d List.mem_cons_self
    have h2 := depth_all fun x hx => h x (List.mem_cons_of_mem _ hx)
    simp only [PyData.depthAll]
    omega
def bkT : Nat → Nat
  | 0 => 40
  | k + 1 => (bkT k + 1) * ar (k + 1) + 40
theorem Td.shw : ∀ {k : Nat} {d : PyData}, Td k d → Shw (bkT k) d ∧ d.depth ≤ k + 1
  | 0, d, h => Lf.shw h
  | k + 1, d, h => by
    rcases h with h | ⟨l, e, hl, hx⟩
    · exact ⟨(Lf.shw h).1.up (Nat.le_add_left _ _), Nat.le_trans (Lf.shw h).2 (by omega)⟩
    · have h1 := ShwA.of fun x hm => (hx x hm).shw.1
      have h2 := depth_all fun x hm => (hx x hm).shw.2
      have h3 : (bkT k + 1) * l.length ≤ bkT (k + 1) := Nat.le_trans (Nat.mul_le_mul_left _ hl) (Nat.le_add_right _ _)
      rcases e with rfl | rfl
      · exact ⟨(Shw.list h1).up h3, by simp only [PyData.depth]; omega⟩
      · exact ⟨(Shw.tuple h1).up h3, by simp only [PyData.depth]; omega⟩
theorem bk4 : bkT 4 ≤ 300000 := by decide
/-- texts within are small -/
theorem Td.small {k : Nat} {d : PyData} (h : Td k d) : smallD d := by
  cases d with
  | str z =>
    cases k with
    | zero => exact h
    | succ k =>
      rcases h with h | ⟨l, e | e, _⟩
      · exact h
      · cases e
      · cases e
  | _ => trivial
theorem Td.elems {k : Nat} {x : PyData} {xs : List PyData} (h : Td (k + 1) x) (hi : itemsOf x = some xs) : ∀ d ∈ xs, Td k d := by
  rcases h with h | ⟨l, rfl | rfl, _, hx⟩
  · cases x with
    | list ys => exact h.elim
    | tuple ys => exact h.elim
    | _ => cases hi
  · cases hi; exact hx
  · cases hi; exact hx
theorem td_smalls {x : PyData} (h : Td 4 x) : smalls x := fun xs hi d hd => by
  have h1 := h.elems hi d hd
  cases d with
  | tuple l =>
    cases l with
    | nil => trivial
    | cons a r => exact (h1.elems rfl a List.mem_cons_self).small
  | _ => trivial
theorem td_shorts {x : PyData} (h : Td 4 x) : shorts x := fun xs hi d hd => by
  have h1 := h.elems hi d hd
  cases d with
  | tuple l =>
    match l with
    | [] => trivial
    | [_] => trivial
    | [_, _] => trivial
    | [a, b, c] =>
      have := (h1.elems rfl a List.mem_cons_self).small
      cases a with
      | str z => exact Nat.le_trans this.1 (by decide)
      | _ => trivial
    | _ :: _ :: _ :: _ :: _ => trivial
  | _ => trivial
end SL
set_option Elab.async false
set_option linter.all false
set_option maxRecDepth 100000
set_option maxHeartbeats 4000000
namespace NW
open PySem PySem.Spec PyProof.Rows L2 DL SL

theorem merge_new : ∀ (more acc : List (Key × V)), (∀ kv ∈ more, kv.1 ∉ acc.map (·.1)) → (more.map (·.1)).Nodup → mergeK acc more = acc ++ more
  | [], acc, _, _ => by
    rw [List.append_nil]
    rfl
  | kv :: r, acc, h, hn => by
    rw [List.map_cons, List.nodup_cons] at hn
    have e : mergeK acc (kv :: r) = mergeK (putK acc kv.1 kv.2) r := rfl
    rw [e, NW.putK_new (h kv List.mem_cons_self), merge_new r _ (fun x hx q => ?_) hn.2]
    · rw [List.append_assoc]
      rfl
    · rw [List.map_append] at q
      rcases List.mem_append.mp q with q | q
      · exact h x (List.mem_cons_of_mem _ hx) q
      · have : x.1 = kv.1 := by simpa using q
        exact hn.1 (by rw [← this]; exact List.mem_map.mpr ⟨x, hx, rfl⟩)
theorem pairs_at {K : PySem.W.Frag} {hid : Hid} {H : Hp} : ∀ {rows : List (Str × PyData)} {vs : List V}, AtL hid H (rows.map fun kv => .tuple [.str kv.1, kv.2]) vs → ∃ (ps : List Addr) (kvs : List (Key × V)), vs = ps.map V.ref ∧ Paired (fun p kv => SqT K H p [kV kv.1, kv.2]) ps kvs ∧ kvs.map (·.1) = rows.map (fun kv => (.inr kv.1 : Key)) ∧ AtL hid H (rows.map (·.2)) (kvs.map (·.2))
  | [], _, h => by
    cases h
    exact ⟨[], [], rfl, .nil, rfl, .nil⟩
  | kv :: r, _, h => by
    cases h with
    | cons a al =>
      obtain ⟨ps, kvs, e1, e2, e3, e4⟩ := pairs_at (K := K) al
      cases a with
      | @tuple p ws _ n e l =>
        cases l with
        | cons c1 l =>
          cases l with
          | @cons _ _ v2 _ c2 l =>
            cases l
            cases c1
            exact ⟨p :: ps, (.inr kv.1, v2) :: kvs, by rw [e1]; rfl, .cons (.of e) e2, by rw [List.map_cons, e3]; rfl, .cons c2 e4⟩
theorem rc_dictP {K : PySem.W.Frag} {rows : List (Str × PyData)} (nd : (rows.map (·.1)).Nodup) :
    Rc (fun xs H Q => ∃ (a : Addr) (ps : List Addr) (kvs : List (Key × V)), xs = [.ref a] ∧ SqL K H a (ps.map V.ref) ∧ Paired (fun p kv => SqT K H p [kV kv.1, kv.2]) ps kvs ∧ ∀ p, H p = none → Q (.ref p) (upd H p (.dK (mergeK [] kvs)))) [.p (.list (rows.map fun kv => .tuple [.str kv.1, kv.2]))] (.dk (rows.map fun kv => (.inr kv.1, kv.2))) := fun hid H us o a Q q => by
  cases a with
  | cons a r =>
    cases r
    cases a with
    | @list a0 vs _ n e l =>
      obtain ⟨ps, kvs, e1, e2, e3, e4⟩ := pairs_at (K := K) l
      subst e1
      refine ⟨a0, ps, kvs, rfl, .of e, e2, fun p hp => ?_⟩
      have hn : (kvs.map (·.1)).Nodup := by
        rw [e3]
        have : rows.map (fun kv => (.inr kv.1 : Key)) = (rows.map (·.1)).map Sum.inr := by rw [List.map_map]; rfl
        rw [this]
        exact List.Pairwise.map _ (fun a b h e => h (Sum.inr.inj e)) nd
      rw [merge_new kvs [] (fun _ _ q => nomatch q) hn, List.nil_append]
      refine q _ _ (ex_new hp) ⟨p, kvs, rfl, o.new hp, upd_same, ?_, ?_⟩
      · rw [e3, List.map_map]
        rfl
      · rw [List.map_map]
        exact e4.ex (ex_new hp)
/-! the script -/
theorem rc_listScr {K : PySem.W.Frag} {xs : List Int} : Rc (fun xs H Q => ∃ p ys, xs = [.ref p] ∧ (SqL K H p ys ∨ SqT K H p ys) ∧ ∀ l, H l = none → Q (.ref l) (upd H l (.lst ys))) [.scr K xs] (.p (.list (xs.map .int))) := fun hid H us o a Q q => by
  cases a with
  | cons a r =>
    cases r
    obtain ⟨a0, rfl, ha⟩ := a
    exact ⟨a0, _, rfl, .inl (ha hid H (Le.refl _ _)), fun p hp => q _ _ (ex_new hp) (.list (o.new hp) upd_same AtL.of_ints)⟩
theorem rc_lenScr {K : PySem.W.Frag} {xs : List Int} : Rc (fun xs H Q => ∃ p ys, xs = [.ref p] ∧ (SqL K H p ys ∨ SqT K H p ys) ∧ Q (.int ys.length) H) [.scr K xs] (.p (.int (xs.length : Int))) := fun hid H us o a Q q => by
  cases a with
  | cons a r =>
    cases r
    obtain ⟨a0, rfl, ha⟩ := a
    refine ⟨a0, _, rfl, .inl (ha hid H (Le.refl _ _)), ?_⟩
    rw [List.length_map]
    exact q _ _ (Same.refl H) (.int _)
theorem ei_scr {K : PySem.W.Frag} {ρ : DL.Env} {xs : List Int} {te : TE} (h : Ev te ρ (.scr K xs)) : EvI (iList K te) ρ (xs.map .int) := fun hid H σ o E R q => h hid H σ o E _ fun v H1 e1 a => by
  obtain ⟨a0, rfl, ha⟩ := a
  refine ⟨_, rfl, ⟨_, ha hid H1 (Le.refl _ _)⟩, q _ H1 e1 fun hid' H' le o' => ?_⟩
  have hs : SqL K H' a0 (xs.map V.int) := ha hid' H' le
  have uniq : ∀ ys, SqL K H' a0 ys → True := fun _ _ => trivial
  rw [List.length_map]
  refine ⟨fun i hi => ⟨_, V.int (xs[i]'hi), hs, by rw [List.getElem?_map, List.getElem?_eq_getElem hi]; rfl⟩, fun i hi => ⟨_, hs, by rw [List.length_map]; exact hi⟩, fun i x H'' hi y => ?_⟩
  obtain ⟨rfl, y⟩ := y
  have := y _ hs
  rw [List.getElem?_map, List.getElem?_eq_getElem hi] at this
  cases this
  exact ⟨.int (xs[i]'hi), by rw [List.getElem?_map, List.getElem?_eq_getElem hi]; rfl, Same.refl _, .int _⟩
/-- what _law_begun gives -/
def spB (K : PySem.W.Frag) : Sp := fun vs H Q _ => ∃ (hid : Hid) (xs : List Int) (v : V), vs = [v] ∧ Occ hid H ∧ ValAt hid H (.scr K xs) v ∧ xs.length ≤ 1000 ∧
  ∀ (am : Addr) (H' : Hp) (b : M5), Ex H H' → bnd 0 b → (∀ x, x = am ∨ x = b.cl ∨ x = b.lf → H x = none) → M5At am b (fun x => x = am ∨ x = b.cl ∨ x = b.lf) H' → Q (.ref am) H'
end NW
set_option Elab.async false
set_option linter.all false
set_option maxRecDepth 100000
set_option maxHeartbeats 4000000
namespace SL
open PySem PySem.Spec PyProof.Rows L2 DL FM NW

theorem lc_new {K : PySem.W.Frag} {g : TG} {tt : TT} {te : TE} {vs : List Nat} {σ : L2.St} {H : Hp} {Q' Q : VK} (h : tLc (iList K (tVar 0)) g tt te vs σ H Q') (k : ∀ DD H', H DD = none → Q' (.ref DD) H' → Q (.ref DD) H') : tLc (iList K (tVar 0)) g tt te vs σ H Q := by
  obtain ⟨v', e, a, ea, hx, hR⟩ := h
  exact ⟨v', e, a, ea, hx, fun DD hD => by
    obtain ⟨W, h0, hW⟩ := hR DD hD
    exact ⟨W, h0, fun i m H' w => (hW i m H' w).imp (fun ⟨a, b⟩ => ⟨a, k DD H' hD b⟩) id⟩⟩
section
variable {P : Program} {w : World} {K : PySem.W.Frag} {mg : Str → Option Value} {base : Heap}
abbrev N__law_begun : List Str := ["_law_script", "_law_cell"]
theorem sc__law_begun : FnScope N__law_begun ["_law_script"] (defScope s__law_begun) := ⟨rfl, rfl, rfl, by decide +kernel, rfl, by decide +kernel, by decide +kernel⟩
theorem ok_law_begun (h : Has K mg "_law_begun" s__law_begun) (T : Txt mg) : Cal P w K mg base "_law_begun" 1 ["_law_script"] (spB K) := by
  obtain ⟨f, fd, hm, F⟩ := h.ex
  refine ⟨f, fd, hm, F.kp, F.binds fun _ _ _ _ _ _ us hl => match us, hl with | [_], _ => rfl, F.ok sc__law_begun (fun vs H Q E h => ?_) fun cdv A outer s H vs Q E hr h => ⟨_, (pss_one (ps_ret (pe_disp (pps_cons pe_str (pe_callTy (call_list_ofK K) (by rfl) T.b_list (by decide +kernel) (pa_cons (pv 0) pa_nil)) (pps_cons pe_str (pe_lc (own := [("_law_cell", 1)]) (g := (gName 1)) rfl sc__law_begun.nd (pi_listK K (pv 0)) (blkOk_by (own := [("_law_cell", 1)]) (N := N__law_begun) (sc := defScope s__law_begun) (by decide +kernel)) (fun _ _ _ _ _ => (pg_name (i := 1) sc__law_begun.nd rfl (by first | exact Or.inl rfl | exact Or.inr rfl))) (fun _ _ _ _ _ => (pts_one (pt_cmpR op_ge (pv 1) (pe_op op_pow pe_int pe_int) (nomark _)))) (fun _ _ _ _ _ => (pv 1))) (pps_cons pe_str pe_int pps_nil))) (by rfl) (by rfl) (fun z => by cases z) (by decide)))), ?_⟩⟩
  · obtain ⟨_, _, v, rfl, _⟩ := h
    rfl
  · obtain ⟨hid, xs, v, rfl, o, a, hl, q⟩ := h
    obtain ⟨a0, rfl, ha⟩ := a
    have E0 : EnvAt hid H (L2.start N__law_begun [.ref a0]) [some (.scr K xs), none] := start_at (N := N__law_begun) (ds := [.scr K xs]) (.cons ⟨a0, rfl, ha⟩ .nil) (by show 1 ≤ 2; decide)
    intro p hp
    have e1 : Ex H (upd H p (.dK [])) := ex_new hp
    refine ⟨.ref a0, rfl, a0, xs.map V.int, rfl, .inl (ha hid _ (Le.of_ex e1)), fun cl hcl => ?_⟩
    have e2 : Ex (upd H p (.dK [])) (upd (upd H p (.dK [])) cl (.lst (xs.map V.int))) := ex_new hcl
    generalize hH2 : upd (upd H p (.dK [])) cl (.lst (xs.map V.int)) = H2 at *
    have hcl2 : H2 cl = some (.lst (xs.map V.int)) := by rw [← hH2]; exact upd_same
    have hp2 : H2 p = some (.dK []) := e2 _ _ upd_same
    have key := ev_lcF (cs := xs) (φ := fun n => .int n) (ρ := [some (.scr K xs), none]) (w := iList K (tVar 0)) (g := gName 1) (vs := [1]) (tt := tTest (tOp (rI0 fun i j => .bl (decide (j ≤ i))) (tVar 1) (tOp (rI CPow fun i j => .int (i ^ j.toNat)) (tC (.int 10)) (tC (.int 18))))) (te := tVar 1)
      (fun n => decide ((10 : Int) ^ (18 : Int).toNat ≤ n)) (fun n => .int n) (ei_scr (ev_var rfl)) (sl := [1]) (by decide) (by omega) (fun n _ => ⟨_, eg_name, et_test (ev_op (ev_var rfl) (ev_op ev_int ev_int (rv_pow ⟨by decide, by decide, by decide⟩)) rv_ge), fun _ => ev_var rfl⟩)
    dsimp only [tPairs, tC]
    refine lc_new (key hid H2 _ ((o.ex e1).ex e2) ((E0.ex e1).ex e2) (fun v H3 => Ex H2 H3 ∧ ValAt hid H3 (.p (.list ((xs.filter fun n => decide ((10 : Int) ^ (18 : Int).toNat ≤ n)).map .int))) v) fun v H3 e a => ⟨e, a⟩) fun DD H3 hDD ⟨e3, a3⟩ => ?_
    cases a3 with
    | @list _ ws _ nd ed al =>
      have hws := al.ints
      subst hws
      have hp3 : H3 p = some (.dK []) := e3 _ _ hp2
      have hcl3 : H3 cl = some (.lst (xs.map V.int)) := e3 _ _ hcl2
      have pc : p ≠ cl := fun e => by
        rw [← e, upd_same] at hcl
        cases hcl
      have pd : p ≠ DD := fun e => by
        rw [← e, hp2] at hDD
        cases hDD
      have cd : cl ≠ DD := fun e => by
        rw [← e, hcl2] at hDD
        cases hDD
      have fc : H cl = none := by
        rw [upd_ne pc.symm] at hcl
        exact hcl
      have fd2 : H DD = none := by
        cases hz : H DD with
        | none => rfl
        | some u =>
          have := e2 _ _ (e1 _ _ hz)
          rw [hDD] at this
          cases this
      refine ⟨hp3, [(.inr "cells", .ref cl), (.inr "left", .ref DD), (.inr "at", .int 0)], rfl, by show 3 ≤ 15; decide, ?_⟩
      refine q p _ ⟨cl, DD, xs, xs.filter fun n => decide ((10 : Int) ^ (18 : Int).toNat ≤ n), 0⟩ (fun x u hx => ?_) ⟨Int.le_refl _, Int.le_refl _, hl, Nat.le_trans (List.length_filter_le _ _) hl⟩ (fun x hx => ?_) ⟨fun x => Iff.rfl, pc, pd, cd, upd_same, (upd_ne pc.symm).trans hcl3, (upd_ne pd.symm).trans ed⟩
      · rw [upd_ne (ne_of_none hx hp)]
        exact e3 _ _ (e2 _ _ (e1 _ _ hx))
      · rcases hx with rfl | rfl | rfl
        · exact hp
        · exact fc
        · exact fd2
end
end SL
set_option Elab.async false
set_option linter.all false
set_option maxRecDepth 100000
set_option maxHeartbeats 4000000
/-! The law's own def: called at the top, no guard under way. -/
namespace NW
open PySem PySem.Spec PyProof.Rows L2 DL SL

def RunAt (P : Program) (w : World) (K : PySem.W.Frag) (mg : Str → Option Value) (base : Heap) (A : Around) (f : Addr) (fd : FuncData) (ps : List Str) (sp : Sp) : Prop :=
  ∀ (outer : List PySem.Env) (s : Shared) (H : Hp) (args : Args) (us : List Value) (vs : List V) (Q : VK) (E : XK), Env0 P w K mg base A outer s H → BindsTo s fd args (ps.zip us) → Vals vs us → sp vs H Q E →
    codeAny (model P w) A (.call (.ref f) args) (CR CX0 outer P w H s Q E) s
theorem run_at {P : Program} {w : World} {K : PySem.W.Frag} {mg : Str → Option Value} {base : Heap} {A : Around} {x qual : Str} {st : Stmt} {f : Addr} {fd : FuncData} {N ps : List Str} {k : Nat} {sp : Sp} (F : Fun K x qual st f fd) (S : FnScope N ps (defScope st)) (hr : Room (k + 1) A)
    (len : ∀ vs H Q E, sp vs H Q E → vs.length = ps.length)
    (hbody : ∀ (cdv : Value) (outer : List PySem.Env) (s : Shared) (H : Hp) (vs : List V) (Q : VK) (E : XK), Room k (A.deeper (envOfC qual (defScope st) s.heap.objs.size f cdv)) → sp vs H Q E →
      ∃ t, PSs (cxOf CX0 P w K mg base N qual (defScope st) f cdv A outer s H E).nox (defBody st) t ∧ t { nx := fun _ H' => Q .non H', rt := Q } (L2.start N vs) H) : RunAt P w K mg base A f fd ps sp := by
  obtain ⟨oc, od, kV, doc, pm, an, cdv, ct, osl, rfl, lk, hcd⟩ := F.ex
  intro outer s H args us vs Q E e0 hb r hsp
  have hl := len _ _ _ _ hsp
  have KX : K.In s.heap := e0.mod.kin.keeps fun b o e => (e0.bs b o e).1
  have lim : s.heap.NoLimit := e0.mod.nolimit.keeps fun b o e => (e0.bs b o e).1
  have hkind : ∀ y ∈ ps.zip us, (defScope st).names.lookup y.1 = some .local ∨ ((defScope st).names.lookup y.1 = some .cell ∧ ((cellsFrom (s.heap.objs.size + 1) (defScope st).names []).lookup y.1).isSome = true) := fun ⟨n, v⟩ hy => by
    rcases S.par n (List.of_mem_zip hy).1 with q | q
    · exact .inl q
    · exact .inr ⟨q, PySem.W.cellsFrom_some _ _ _ (.inl q)⟩
  refine codeAny_call_function hr.depth (KX _ _ lk) rfl S.co S.gen rfl (PySem.W.codeRec_of KX hcd) (hb _ _ _ _ ?_)
  refine wpAny_newFunctionEnv_cells S.kind hkind fun env he s1 x => ?_
  subst he
  refine ⟨lim.keeps x.toInCall.keep, codeAny_func ?_⟩
  obtain ⟨t, ht0, hq⟩ := hbody cdv outer s H vs Q E (hr.deeper _) hsp
  have ht := ht0.nox
  have I : Inv (cxOf CX0 P w K mg base N qual (defScope st) f cdv A outer s H E) [] (L2.start N vs) H s1 := inv_start S hr.hd e0 hl r x
  refine wpAny_mono (ht.run [] s1 (L2.start N vs) H _ I hq) (fun fl s' hs => ?_) fun e s' hs => hs
  have fin : ∀ {σ' : L2.St} {H' : Hp} {v : V} {u : Value}, Inv (cxOf CX0 P w K mg base N qual (defScope st) f cdv A outer s H E) [] σ' H' s' → RelV v u → Q v H' → CE outer P w H s Q u s' :=
    fun {σ' H' v u} J rv q => ⟨v, H', J.os, J.bare, J.base, J.hok, rv, q⟩
  cases fl with
  | ret u =>
    obtain ⟨v, σ', H', J, rv, q⟩ := hs
    exact fin J rv q
  | next =>
    obtain ⟨σ', H', J, q⟩ := hs
    exact fin (v := V.non) (u := Value.none) J rfl q
  | brk =>
    obtain ⟨_, _, _, q⟩ := hs
    exact False.elim q
  | cont =>
    obtain ⟨_, _, _, q⟩ := hs
    exact False.elim q
theorem law_callG {P : Program} {w : World} {K : PySem.W.Frag} {mg mb : Str → Option Value} {fa a : Addr} {fd : FuncData} {x : Str} {sp : Sp} {s₁ : Shared} {vs : List Value} {ns : List Int}
    (KX : K.In s₁.heap) (hns : s₁.heap.Ns mainGlobals mg) (hb : s₁.heap.Ns builtinsNs mb) (hbb : ∀ x : Str, x ≠ "__name__" → mb x = bootBuiltins x) (hlim : s₁.heap.NoLimit) (hg : s₁.gens = #[])
    (ha : s₁.heap.get? a = some { cls := .type "list", data := .seq vs.toArray }) (hi : IntsAre vs ns) (hl : ns.length ≤ sizeLine)
    (F : ∀ base : Heap, K.In base → base.Ns mainGlobals mg → RunAt P w K mg base callerA fa fd [x] sp) (hbind : ∀ (s : Shared) (u : Value), BindsTo s fd ⟨[u], []⟩ [(x, u)])
    (hsp : ∀ H : Hp, Only H → SqL K H a (ns.map V.int) → sp [.ref a] H (fun v _ => v = .bl true) fun _ _ _ => False) :
    codeAny (model P w) callerA (.call (.ref fa) ⟨[.ref a], []⟩) (fun r s' => r = .ok (.ret (.bool true)) ∧ OldK s₁.heap s'.heap ∧ s'.os = s₁.os ∧ AllBare s'.gens) s₁ := by
  have rv := vals_ints hi
  have lenV := hi.length
  have core : ∀ H : Hp, Only H → SqL K H a (ns.map V.int) → HOk P w H s₁.heap → (∀ b, H b ≠ none → b = a) → (H a ≠ none → K.lookup a = none) →
      codeAny (model P w) callerA (.call (.ref fa) ⟨[.ref a], []⟩) (fun r s' => r = .ok (.ret (.bool true)) ∧ OldK s₁.heap s'.heap ∧ s'.os = s₁.os ∧ AllBare s'.gens) s₁ := by
    intro H hO hS hok hA hK
    have base_of : ∀ {b : Addr} {o : Obj}, s₁.heap.get? b = some o → H b = none → (hidT s₁.heap H).get? b = some o := fun e n => hidT_get e n
    have noA : ∀ {b : Addr} {o : Obj} {es : Array DictEntry} {ep : Nat}, s₁.heap.get? b = some o → o.data = .dict es ep → H b = none := fun {b o es ep} e d => by
      cases q : H b with
      | none => rfl
      | some u =>
        have e' : b = a := hA b (by rw [q]; simp)
        subst e'
        rw [ha] at e; cases e
        have d' : Data.seq vs.toArray _ = Data.dict es ep := d
        cases d'
    have nsK : ∀ {b : Addr} {m : Str → Option Value}, s₁.heap.Ns b m → (hidT s₁.heap H).Ns b m := fun {b m} ⟨o, es, ep, e, d, r⟩ => ⟨o, es, ep, base_of e (noA e d), d, r⟩
    have hKb : K.In (hidT s₁.heap H) := fun b o e => base_of (KX b o e) (by
      cases q : H b with
      | none => rfl
      | some u =>
        have e' : b = a := hA b (by rw [q]; simp)
        subst e'
        rw [hK (by rw [q]; simp)] at e; cases e)
    have hM : Mod K mg (hidT s₁.heap H) := ⟨hKb, nsK hns, ⟨mb, nsK hb, hbb⟩, let ⟨mc, h1, h2⟩ := hlim; ⟨mc, nsK h1, h2⟩⟩
    have e0 : Env0 P w K mg (hidT s₁.heap H) callerA [] s₁ H := ⟨rfl, hM, fun b o e => of_hidT e, Nat.le_of_eq (hidT_size _ _), trivial, fun b hb => absurd (show b ∈ ([] : List Addr) from hb) (by simp), hok, .of_eq hg⟩
    refine codeAny_mono ((F _ hKb (nsK hns)) [] s₁ H ⟨[.ref a], []⟩ [.ref a] [.ref a] _ _ e0 (hbind s₁ (.ref a)) (.cons rfl .nil) (hsp H hO hS)) fun r s' h => ?_
    cases r with
    | error e => exact False.elim h
    | ok fl =>
      cases fl with
      | next => exact False.elim h
      | brk => exact False.elim h
      | cont => exact False.elim h
      | ret u =>
        obtain ⟨v, H', os, bare, un, hok', r', q⟩ := h
        have q' : v = .bl true := q
        subst q'
        obtain rfl : u = Value.bool true := r'
        refine ⟨rfl, OldK.of_keep fun b o e => ?_, os, bare⟩
        cases q : H b with
        | none => exact un.keep b o e q (by intro z; exact absurd (show b ∈ ([] : List Addr) from z) (by simp)) (by simp)
        | some u =>
          rcases hO b with z | ⟨ob, xs, z⟩
          · rw [q] at z; cases z
          · have z2 := un.frzs b ob _ z
            obtain ⟨e1, _⟩ := hok b _ z
            obtain ⟨e2, _⟩ := hok' b _ z2
            rw [e] at e1; cases e1
            exact e2
  cases hk : K.lookup a with
  | some o =>
    have e := KX a o hk
    rw [ha] at e
    cases e
    refine core (fun _ => none) (fun _ => .inl rfl) (.inr ⟨_, vs.toArray, _, hk, rfl, rfl, rfl, by rw [List.size_toArray, lenV]; exact hl, by simpa using rv⟩) (fun b u z => by have z' : (none : Option HO) = some u := z; cases z') (fun b z => absurd rfl z) fun z => absurd rfl z
  | none =>
    refine core (fun b => if b = a then some (.frz { cls := .type "list", data := .seq vs.toArray } (.lst (ns.map V.int))) else none) (fun b => ?_) (.inl (.inr ⟨{ cls := .type "list", data := .seq vs.toArray }, if_pos rfl⟩)) (fun b u z => ?_) (fun b z => ?_) fun _ => hk
    · by_cases hb : b = a
      · exact .inr ⟨_, _, if_pos hb⟩
      · exact .inl (if_neg hb)
    · by_cases hb : b = a
      · have z' := (if_pos hb).symm.trans z
        cases z'
        subst hb
        exact ⟨ha, by rw [List.length_map]; exact hl, vs, _, rv, ha⟩
      · have z' := (if_neg hb).symm.trans z
        cases z'
    · by_cases hb : b = a
      · exact hb
      · exact absurd (if_neg hb) z
theorem walk_ofG {l : PySem.W.OpenLaw} {n : Nat} {q : Program} {loose : List Str} {XP : (Str → Option Value) → Heap → Prop} {YP : World → Heap → Prop} {d : DefRec} {K : Params → PySem.W.Frag} {sp : World → Sp} {x : Str}
    (hn : l.most = some n) (hn2 : n ≤ sizeLine) (hdf : d.params.defaults = []) (hY : ∀ (w : World) (h : Heap), YP w h → (K w.params).In h)
    (F : ∀ (w : World) (mg : Str → Option Value) (fa : Addr) (h : Heap), (K w.params).In h → h.Ns mainGlobals mg → mg d.name = some (.ref fa) →
      ∃ fd : FuncData, (∀ (s : Shared) (u : Value), BindsTo s fd ⟨[u], []⟩ [(x, u)]) ∧
        ∀ base : Heap, (K w.params).In base → base.Ns mainGlobals mg → RunAt l.prog w (K w.params) mg base callerA fa fd [x] (sp w))
    (hsp : ∀ (w : World) (H : Hp) (a : Addr) (ns : List Int), ns.length ≤ n → Only H → SqL (K w.params) H a (ns.map V.int) → sp w [.ref a] H (fun v _ => v = .bl true) fun _ _ _ => False) :
    PySem.W.WalkO q loose XP YP l.row.toRowW d [] (fun f vs => PySem.call f vs) := by
  refine Att.attach_call hn hdf fun w s₀ s₁ mg mb fa o pm cd doc a vs ns G Y ho hd hcd hmg hobj hints hlen hg => ?_
  have KX := hY w _ Y
  obtain ⟨fd, hb, hF⟩ := F w mg fa _ KX G.T.g hmg
  exact law_callG KX G.T.g G.T.b G.T.builtins G.T.nolimit hg hobj hints (Nat.le_trans hlen hn2) hF hb (fun H hO hS => hsp w H a ns hlen hO hS)
/-- x = _law_begun(script), and on -/
theorem sq_begin {K : PySem.W.Frag} {i j : Nat} {u : TS} {ρ : DL.Env} {P : Po Unit} {E : XK} {xs : List Int} (hs : ρ[j]? = some (some (.scr K xs))) (hl : xs.length ≤ 1000)
    (k : ∀ am, Sm (MS am) u 0 (ρ.set i (some (.v (.ref am)))) { rt := fun _ d => P.rt () d }) : Sm Mo.emp (tSeq (tAsg (tCall (spB K) [] E (tCons (tVar j) tNil)) (gName i)) u) () ρ P := fun hid fr H σ E' w e qn qb qc qr => by
  obtain ⟨v, ev, hv⟩ := e.at_ j _ hs
  refine ⟨v, ev, ?_⟩
  dsimp only [tNil]
  rw [List.append_nil]
  refine ⟨un hid fr, xs, v, rfl, w.occ, hv, hl, fun am H' b ex hb hf hm => ?_⟩
  have nf : ∀ x, fr x → ¬ (x = am ∨ x = b.cl ∨ x = b.lf) := fun x hx q => w.ofr x hx (hf x q)
  have le1 : Le (un hid fr) H (un (fun x => x = am ∨ x = b.cl ∨ x = b.lf) fr) H' := fun x o n hx => ⟨fun q => q.elim (fun q => by
    rw [hf x q] at hx
    cases hx) fun q => n (.inr q), ex x o hx⟩
  have w1 : WOk (MS am) 0 (fun x => x = am ∨ x = b.cl ∨ x = b.lf) fr H' := ⟨⟨b, hm, hb⟩, w.ofr.ex ex, nf⟩
  have s1 : Stp hid fr H (fun x => x = am ∨ x = b.cl ∨ x = b.lf) H' := ⟨fun x hx => ex_at ex (w.ofr x hx), le1⟩
  refine k am _ fr H' _ E' w1 ((e.le le1).set i (d := .v (.ref am)) rfl) (fun _ _ _ _ _ _ _ _ p => p.elim) (fun _ _ _ _ _ _ _ _ p => p.elim) (fun _ _ _ _ _ _ _ _ p => p.elim) fun v hid' H2 b' d w' s' av p => ?_
  have less : Le (un hid' fr) H2 (un (fun _ => False) fr) H2 := .less fun x q => q.elim False.elim .inr
  exact qr v _ H2 () d ⟨fun _ q => q, w'.ofr, fun _ _ q => q⟩ ((s1.trans s').trans ⟨fun _ _ => rfl, less⟩) (av.le less) p
end NW
set_option Elab.async false
set_option linter.all false
set_option maxRecDepth 100000
set_option maxHeartbeats 4000000
namespace SL
open PySem PySem.Spec PyProof.Rows L2 DL FM NW

/-- what a frame that is told gives -/
theorem frameR_inr {x : PyData} {rows : List (Str × Int × Int)} (h : frameR x = .inr rows) : Frame x rows := by
  unfold frameR at h
  by_cases hok : okItems x = true
  · rw [if_pos hok] at h
    obtain ⟨xs, hi⟩ : ∃ xs, itemsOf x = some xs := by
      cases hi : itemsOf x with
      | none => unfold okItems at hok; rw [hi] at hok; cases hok
      | some xs => exact ⟨xs, rfl⟩
    rw [hi] at h
    have h' : (match firstBad xs with
      | some i => Sum.inl (PyData.int (i : Int))
      | none => Sum.inr (rowsFrom x)) = (Sum.inr rows : PyData ⊕ List (Str × Int × Int)) := h
    cases hb : firstBad xs with
    | some i => rw [hb] at h'; cases h'
    | none =>
      rw [hb] at h'
      cases h'
      refine good_frame hi hok fun i hlt => ?_
      have := List.find?_eq_none.mp hb i (List.mem_range.mpr hlt)
      simpa using this
  · rw [if_neg hok] at h
    cases h
theorem frameR_inl {x p : PyData} (h : frameR x = .inl p) : p = .none ∨ ∃ i : Nat, p = .int (i : Int) ∧ i < 10 := by
  unfold frameR at h
  by_cases hok : okItems x = true
  · rw [if_pos hok] at h
    obtain ⟨xs, hi⟩ : ∃ xs, itemsOf x = some xs := by
      cases hi : itemsOf x with
      | none => unfold okItems at hok; rw [hi] at hok; cases hok
      | some xs => exact ⟨xs, rfl⟩
    rw [hi] at h
    have h' : (match firstBad xs with
      | some i => Sum.inl (PyData.int (i : Int))
      | none => Sum.inr (rowsFrom x)) = (Sum.inl p : PyData ⊕ List (Str × Int × Int)) := h
    cases hb : firstBad xs with
    | some i =>
      rw [hb] at h'
      cases h'
      have h1 := List.mem_range.mp (List.mem_of_find?_eq_some hb)
      unfold okItems at hok
      rw [hi] at hok
      simp only [Bool.and_eq_true, decide_eq_true_eq] at hok
      exact .inr ⟨i, rfl, by omega⟩
    | none => rw [hb] at h'; cases h'
  · rw [if_neg hok] at h
    cases h
    exact .inl rfl
theorem word_asc {z : Str} (h : isWordS z = true) : ∀ c ∈ z.cps.toList, c < 128 := fun c hc => by
  unfold isWordS at h
  have h2 := List.all_eq_true.mp (Bool.and_eq_true_iff.mp h).2 c hc
  have hl : ∀ c ∈ letters.cps.toList, c < 128 := by decide +kernel
  exact hl c (of_decide_eq_true h2)
theorem names_word {x : PyData} {rows : List (Str × Int × Int)} (F : Frame x rows) {z : Str} (h : z ∈ namesL rows) : isWordS z = true := by
  obtain ⟨r, hr, rfl⟩ := List.mem_map.mp (names_mem.mp h)
  exact F.wd r hr
theorem told_shw {x : PyData} : Shw 300000 (toldD x) ∧ (toldD x).depth ≤ 20 := by
  unfold toldD
  cases h : frameR x with
  | inl p =>
    have hp : Shw 40 p ∧ p.depth ≤ 1 := by
      rcases frameR_inl h with rfl | ⟨i, rfl, hi⟩
      · exact Lf.shw (d := .none) trivial
      · refine Lf.shw (d := .int (i : Int)) ?_
        show ((i : Int)).natAbs < 10 ^ 40
        have : (10 : Nat) < 10 ^ 40 := by decide
        omega
    refine ⟨(Shw.list (ShwA.of (n := 40) (ds := [p]) fun d hd => ?_)).up (by show 41 * 1 ≤ 300000; decide), ?_⟩
    · rw [List.mem_singleton.mp hd]; exact hp.1
    · simp only [PyData.depth, PyData.depthAll]
      have := hp.2
      omega
  | inr rows =>
    have F := frameR_inr h
    have hnl := names_len rows
    have hlen : (lots (namesL rows)).length ≤ 32 := by
      rw [lots_len]
      exact Nat.le_trans (Nat.pow_le_pow_right (by decide) (show (namesL rows).length ≤ 5 by have := F.l5; omega)) (by decide)
    have h1 : Shw 300 (lotD (namesL rows)) := by
      refine (Shw.tuple (ShwA.of (n := 40) fun d hd => ?_)).up ?_
      · obtain ⟨z, hz, rfl⟩ := List.mem_map.mp hd
        have hw := names_word F hz
        exact (shw_str (word_asc hw)).up (Nat.le_trans (word_short hw) (by decide))
      · rw [List.length_map]
        have h5 := F.l5
        have h6 : (40 + 1) * (namesL rows).length ≤ 41 * 5 := Nat.mul_le_mul_left _ (show (namesL rows).length ≤ 5 by omega)
        omega
    have h2 : Shw 300 (.tuple ((lots (namesL rows)).map fun a => PyData.int (rkT (tieOf rows) a))) := by
      refine (Shw.tuple (ShwA.of (n := 0) fun d hd => ?_)).up ?_
      · obtain ⟨a, ha, rfl⟩ := List.mem_map.mp hd
        refine shw_int ?_
        have h3 : rk (fun p => p) (a.map (tieOf rows)) ≤ (a.map (tieOf rows)).length := rk_le _ _
        have h4 := (mem_lots.mp ha).length_le
        rw [List.length_map] at h3
        unfold rkT
        have : (10 : Nat) < 10 ^ 40 := by decide
        have := F.l5
        omega
      · rw [List.length_map]
        omega
    refine ⟨(Shw.tuple (ShwA.of (n := 300) (ds := [lotD (namesL rows), .tuple ((lots (namesL rows)).map fun a => PyData.int (rkT (tieOf rows) a))]) fun d hd => ?_)).up (by show 301 * 2 ≤ 300000; decide), ?_⟩
    · rcases List.mem_cons.mp hd with e | e
      · rw [e]; exact h1
      · rw [List.mem_singleton.mp e]; exact h2
    · have d1 : (lotD (namesL rows)).depth ≤ 2 := by
        show (PyData.tuple _).depth ≤ 2
        have := depth_all (n := 1) (ds := (namesL rows).map PyData.str) fun d hd => by
          obtain ⟨z, _, rfl⟩ := List.mem_map.mp hd
          simp [PyData.depth]
        simp only [PyData.depth]
        omega
      have d2 : (PyData.tuple ((lots (namesL rows)).map fun a => PyData.int (rkT (tieOf rows) a))).depth ≤ 2 := by
        have := depth_all (n := 1) (ds := (lots (namesL rows)).map fun a => PyData.int (rkT (tieOf rows) a)) fun d hd => by
          obtain ⟨z, _, rfl⟩ := List.mem_map.mp hd
          simp [PyData.depth]
        simp only [PyData.depth]
        omega
      have := depth_all (n := 2) (ds := [lotD (namesL rows), .tuple ((lots (namesL rows)).map fun a => PyData.int (rkT (tieOf rows) a))]) fun d hd => by
        rcases List.mem_cons.mp hd with e | e
        · rw [e]; exact d1
        · rw [List.mem_singleton.mp e]; exact d2
      show (PyData.tuple _).depth ≤ 20
      simp only [PyData.depth] at this ⊢
      omega
theorem td_rep {x : PyData} (h : Td 4 x) : x.showable = true ∧ x.depth ≤ 20 ∧ x.shown.length ≤ sizeLine := by
  obtain ⟨h1, h2⟩ := h.shw
  exact ⟨h1.sh, by omega, h1.len bk4⟩
theorem told_rep {x : PyData} : (toldD x).showable = true ∧ (toldD x).depth ≤ 20 ∧ (toldD x).shown.length ≤ sizeLine := by
  obtain ⟨h1, h2⟩ := told_shw (x := x)
  exact ⟨h1.sh, h2, h1.len (Nat.le_refl _)⟩
end SL
set_option Elab.async false
set_option linter.all false
set_option maxRecDepth 100000
set_option maxHeartbeats 8000000
namespace SL
open PySem PySem.Spec PyProof.Rows L2 DL FM NW

theorem sub_nil : Sub [] [] := ⟨rfl, fun i d h => h⟩
theorem sub_none {ρ' ρ : DL.Env} {x : Option D} (h : Sub ρ' ρ) : Sub (none :: ρ') (x :: ρ) := ⟨by rw [List.length_cons, List.length_cons, h.1], fun i d e => by
  cases i with
  | zero => cases e
  | succ i => exact h.2 i d e⟩
theorem sub_same {ρ' ρ : DL.Env} {x : Option D} (h : Sub ρ' ρ) : Sub (x :: ρ') (x :: ρ) := ⟨by rw [List.length_cons, List.length_cons, h.1], fun i d e => by
  cases i with
  | zero => exact e
  | succ i => exact h.2 i d e⟩
theorem sub_set {ρ' ρ : DL.Env} {i : Nat} {x : Option D} (h : Sub ρ' ρ) (hn : ρ'[i]? = some none) : Sub ρ' (ρ.set i x) := ⟨by rw [List.length_set, h.1], fun j d e => by
  by_cases q : i = j
  · subst q
    rw [hn] at e
    cases e
  · rw [List.getElem?_set_ne q]
    exact h.2 j d e⟩
theorem sub_set2 {ρ' ρ : DL.Env} {i : Nat} {x : Option D} (h : Sub ρ' ρ) : Sub (ρ'.set i x) (ρ.set i x) := ⟨by rw [List.length_set, List.length_set, h.1], fun j d e => by
  by_cases q : i = j
  · subst q
    have hi : i < ρ'.length := by
      have := (List.getElem?_eq_some_iff.mp e).1
      rwa [List.length_set] at this
    rw [List.getElem?_set_self hi] at e
    rw [List.getElem?_set_self (by rw [h.1] at hi; exact hi)]
    exact e
  · rw [List.getElem?_set_ne q] at e ⊢
    exact h.2 j d e⟩
def t3 (s : Str) (i j : Int) : PyData := .tuple [.str s, .int i, .int j]
theorem ev_t3 {ρ : DL.Env} {s : Str} {i j : Int} : Ev (tTup (tCons (tC (.str s)) (tCons (tC (.int i)) (tCons (tC (.int j)) tNil)))) ρ (.p (t3 s i j)) := ev_tup (ds := [.str s, .int i, .int j]) (ea_cons ev_str (ea_cons ev_int (ea_cons ev_int ea_nil))) (by show 3 ≤ 100000; decide)
def rows4 : List PyData := [t3 "a" 1 2, t3 "b" 2 3, t3 "c" 3 4, t3 "d" 4 5]
theorem rows_td : Td 4 (.list (rows4 ++ [t3 "e" 5 6])) ∧ Td 4 (.list (rows4 ++ [t3 "e" 5 1])) := ⟨tdB_ok (by decide +kernel), tdB_ok (by decide +kernel)⟩
/-- a, b = x, y of names, by way of a tuple -/
theorem sq_asg2 {β : Type} {M : Mo β} {b : β} {ρ : DL.Env} {P : Po β} {K : PySem.W.Frag} {ta : TA} {u : TS} {i j : Nat} {x y : D} (h : EvA ta ρ [x, y]) (k : Sm M u b ((ρ.set i (some x)).set j (some y)) P) : Sm M (tSeq (tAsg (tTup ta) (gTup K 2 (gCons (gName i) (gCons (gName j) gNil)))) u) b ρ P := fun hid fr H σ E w e qn qb qc qr =>
  h (un hid fr) H σ w.occ e _ fun vs H1 e1 a => by
    cases a with
    | @cons _ _ v1 _ a1 r =>
      cases r with
      | @cons _ _ v2 _ a2 r =>
        cases r
        refine ⟨by show 2 ≤ sizeLine; decide, fun p hp => ?_⟩
        have ex := ex_new hp (o := .tup [v1, v2])
        have e12 := e1.trans ex
        refine ⟨p, _, rfl, .of upd_same, rfl, _, _, rfl, _, _, rfl, rfl, ?_⟩
        exact k hid fr _ _ E (w.ex e12) (((e.ex e12).set i (a1.le (.of_ex ex))).set j (a2.le (.of_ex ex))) (fun σ2 h2 H2 b2 ρ2 w2 s2 => qn σ2 h2 H2 b2 ρ2 w2 ((w.stp e12).trans s2)) (fun σ2 h2 H2 b2 ρ2 w2 s2 => qb σ2 h2 H2 b2 ρ2 w2 ((w.stp e12).trans s2))
          (fun σ2 h2 H2 b2 ρ2 w2 s2 => qc σ2 h2 H2 b2 ρ2 w2 ((w.stp e12).trans s2)) (fun v h2 H2 b2 d w2 s2 => qr v h2 H2 b2 d w2 ((w.stp e12).trans s2))
def spL (K : PySem.W.Frag) : Sp := fun vs H Q _ => ∃ (a : Addr) (ns : List Int), vs = [.ref a] ∧ ns.length ≤ 63 ∧ SqL K H a (ns.map V.int) ∧ ∀ H', Q (.bl true) H'
theorem scr_at {K : PySem.W.Frag} {H : Hp} {a : Addr} {ns : List Int} (h : SqL K H a (ns.map V.int)) : ValAt (fun _ => False) H (.scr K ns) (.ref a) := ⟨a, rfl, fun hid' H' le => by
  rcases h with (h | ⟨o, h⟩) | h
  · exact .inl (.inl (le _ _ (fun q => q) h).2)
  · exact .inl (.inr ⟨o, (le _ _ (fun q => q) h).2⟩)
  · exact .inr h⟩
theorem val_ends {rows : List (Str × Int × Int)} {x : Str} (h : x ∈ rows.map (·.1)) : valD (rows.map fun r => ((.inr r.1 : Key), pairD r.2)) (.inr x : Key) = some (pairD (tieOf rows x)) := by
  unfold tieOf rowOf valD
  rw [List.find?_map, Option.map_map]
  have e : ((fun kv : Key × PyData => decide (kv.1 = (.inr x : Key))) ∘ fun r : Str × Int × Int => ((.inr r.1 : Key), pairD r.2)) = fun r => decide (r.1 = x) := by
    funext r
    show decide ((.inr r.1 : Key) = .inr x) = decide (r.1 = x)
    by_cases q : r.1 = x
    · rw [decide_eq_true q, decide_eq_true (by rw [q])]
    · rw [decide_eq_false q, decide_eq_false fun e => q (Sum.inr.inj e)]
  rw [e]
  cases hf : rows.find? fun r => decide (r.1 = x) with
  | none =>
    obtain ⟨r, hr, e⟩ := List.mem_map.mp h
    have := List.find?_eq_none.mp hf r hr
    simp [e] at this
  | some r => rfl
section
variable {P : Program} {w : World} {K : PySem.W.Frag} {mg : Str → Option Value} {base : Heap}
abbrev N_law : List Str := ["_law_script", "_law_m", "_law_turn", "_law_names_here", "_law_ties", "_law_some", "_law_row_here", "_law_k", "_law_at", "_law_thing", "_law_fault_here", "_law_kept", "_law_due", "_law_ends", "_law_many", "_law_good", "_law_one", "_law_lot", "_law_tie"]
theorem sc_law : FnScope N_law ["_law_script"] (defScope s_law) := ⟨rfl, rfl, rfl, by decide +kernel, rfl, by decide +kernel, by decide +kernel⟩
theorem run_law {f : Addr} {fd : FuncData} (F : Fun K "law" "law" s_law f fd) (T : Txt mg) (C__law_begun : Cal P w K mg base "_law_begun" 1 ["_law_script"] (spB K)) (C__law_next : Cal P w K mg base "_law_next" 1 ["_law_m", "_law_many"] (spS 1 pre_next R_next)) (C__law_names : Cal P w K mg base "_law_names" 2 ["_law_m", "_law_many"] (spS 11 pre_names R_names))
    (C__law_odd : Cal P w K mg base "_law_odd" 2 ["_law_m"] (spS 1 (fun ds => ds = []) R_odd)) (C__law_bent2 : Cal P w K mg base "_law_bent" 4 ["_law_m", "_law_thing"] (spS 15 (pre_bent 2) (R_bent 2))) (C__law_bent3 : Cal P w K mg base "_law_bent" 5 ["_law_m", "_law_thing"] (spS 20 (pre_bent 3) (R_bent 3)))
    (C__law_fault : Cal P w K mg base "_law_fault" 2 ["_law_ties"] (spD R_fault)) (C__law_lots : Cal P w K mg base "_law_lots" 1 ["_law_many"] (spD R_law_lots)) (C__law_no_ring : Cal P w K mg base "_law_no_ring" 1 ["_law_ties"] (spD R_no_ring)) (C__law_row : Cal P w K mg base "_law_row" 2 ["_law_many", "_law_table"] (spD R_law_row))
    (C__law_counted : Cal P w K mg base "_law_counted" 2 ["_law_many", "_law_good"] (spD R_law_counted)) (C__law_told : Cal P w K mg base "_law_told" 9 ["_law_ties"] (spD R_told)) : RunAt P w K mg base callerA f fd ["_law_script"] (spL K) := by
  refine run_at (k := 12) F sc_law ⟨rfl, by decide, by decide⟩ (fun vs H Q E h => by obtain ⟨a, ns, rfl, _⟩ := h; rfl) fun cdv outer s H vs Q E hr h => ?_
  have hu := hu_of hr
  have hg : (callerA.deeper (envOfC "law" (defScope s_law) s.heap.objs.size f cdv)).guards = some [] := rfl
  refine ⟨_, (pss_cons (ps_set (i := 1) sc_law.nd rfl (by first | exact Or.inl rfl | exact Or.inr rfl) (pe_cal C__law_begun (hr.mono (by decide)) (by rfl) (pa_cons (pv 0) pa_nil)))
    (pss_cons (ps_for PassesOwn.never rfl (pi_range1 (by rfl) T.b_range (pa_cons (pe_op op_add pe_int (pe_callB (call_min2 rfl) (by rfl) T.b_min (by decide +kernel) (pa_cons (pe_callB (call_len_seqK K) (by rfl) T.b_len (by decide +kernel) (pa_cons (pv 0) pa_nil)) (pa_cons pe_int pa_nil)))) pa_nil)) (pg_name (i := 2) sc_law.nd rfl (by first | exact Or.inl rfl | exact Or.inr rfl)) (pss_cons (ps_set (i := 3) sc_law.nd rfl (by first | exact Or.inl rfl | exact Or.inr rfl) (pe_cal C__law_names (hr.mono (by decide)) (by rfl) (pa_cons (pv 1) (pa_cons (pe_op op_add pe_int (pe_cal C__law_next (hr.mono (by decide)) (by rfl) (pa_cons (pv 1) (pa_cons pe_int pa_nil)))) pa_nil))))
    (pss_cons (ps_setLc (i := 4) (own := [("_law_one", 16)]) (g := (gName 16)) rfl sc_law.nd rfl rfl (sw_true rfl rfl rfl (by decide +kernel)) (pi_listK K (pv 3)) (blkOk_by (own := [("_law_one", 16)]) (N := N_law) (sc := defScope s_law) (by decide +kernel)) (fun _ _ _ _ _ => (pg_name (i := 16) sc_law.nd rfl (by first | exact Or.inl rfl | exact Or.inr rfl))) (fun _ _ _ _ _ => pts_nil) (fun _ _ _ _ _ => (pe_tup (pa_cons (pv 16) (pa_cons (pe_cal C__law_next (hr.mono (by decide)) (by rfl) (pa_cons (pv 1) (pa_cons pe_int pa_nil))) (pa_cons (pe_ix (ix_listK K) (pe_lst (pa_cons (pe_cal C__law_next (hr.mono (by decide)) (by rfl) (pa_cons (pv 1) (pa_cons pe_int pa_nil))) (pa_cons (pe_un un_neg (pe_op op_pow pe_int pe_int)) pa_nil))) (pe_callTy call_int1 (by rfl) T.b_int (by decide +kernel) (pa_cons (pe_cmpR op_eq (pe_cal C__law_next (hr.mono (by decide)) (by rfl) (pa_cons (pv 1) (pa_cons pe_int pa_nil))) pe_int (nomark _)) pa_nil)) (fun _ _ => rfl)) pa_nil))))))
    (pss_cons (ps_set (i := 5) sc_law.nd rfl (by first | exact Or.inl rfl | exact Or.inr rfl) (pe_lst (pa_cons (pv 4) (pa_cons (pe_callTy (call_tuple_ofK K) (by rfl) T.b_tuple (by decide +kernel) (pa_cons (pv 4) pa_nil)) (pa_cons (pe_revLK K (pv 4)) (pa_cons (pe_op op_cat (pv 4) (pe_slice (sl_listK K) (pv 4) po_none (po_some pe_int))) (pa_cons (pe_lst pa_nil) (pa_cons (pe_tup pa_nil) (pa_cons pe_non (pa_cons pe_int (pa_cons pe_dnewK (pa_cons (pe_op op_rep (pv 4) pe_int) (pa_cons (pe_cal C__law_odd (hr.mono (by decide)) (by rfl) (pa_cons (pv 1) pa_nil)) pa_nil)))))))))))))
    (pss_cons (ps_set (i := 6) sc_law.nd rfl (by first | exact Or.inl rfl | exact Or.inr rfl) (pe_lst (pa_cons (pe_tup (pa_cons pe_str (pa_cons pe_int (pa_cons pe_int pa_nil)))) (pa_cons (pe_tup (pa_cons pe_str (pa_cons pe_int (pa_cons pe_int pa_nil)))) (pa_cons (pe_tup (pa_cons pe_str (pa_cons pe_int (pa_cons pe_int pa_nil)))) (pa_cons (pe_tup (pa_cons pe_str (pa_cons pe_int (pa_cons pe_int pa_nil)))) pa_nil))))))
    (pss_cons (ps_set (i := 5) sc_law.nd rfl (by first | exact Or.inl rfl | exact Or.inr rfl) (pe_op op_cat (pv 5) (pe_lst (pa_cons (pe_op op_cat (pv 6) (pe_lst (pa_cons (pe_tup (pa_cons pe_str (pa_cons pe_int (pa_cons pe_int pa_nil)))) pa_nil))) (pa_cons (pe_op op_cat (pv 6) (pe_lst (pa_cons (pe_tup (pa_cons pe_str (pa_cons pe_int (pa_cons pe_int pa_nil)))) pa_nil))) pa_nil)))))
    (pss_cons (ps_for PassesOwn.never rfl (pi_range1 (by rfl) T.b_range (pa_cons pe_int pa_nil)) (pg_name (i := 7) sc_law.nd rfl (by first | exact Or.inl rfl | exact Or.inr rfl)) (pss_cons (ps_set (i := 8) sc_law.nd rfl (by first | exact Or.inl rfl | exact Or.inr rfl) (pe_cal C__law_next (hr.mono (by decide)) (by rfl) (pa_cons (pv 1) (pa_cons (pe_callB (call_len_seqK K) (by rfl) T.b_len (by decide +kernel) (pa_cons (pv 4) pa_nil)) pa_nil))))
    (pss_one (ps_set (i := 5) sc_law.nd rfl (by first | exact Or.inl rfl | exact Or.inr rfl) (pe_op op_cat (pv 5) (pe_lst (pa_cons (pe_op op_cat (pe_op op_cat (pe_slice (sl_listK K) (pv 4) po_none (po_some (pv 8))) (pe_lst (pa_cons (pe_cal C__law_bent2 (hr.mono (by decide)) (by rfl) (pa_cons (pv 1) (pa_cons (pe_ix (ix_listK K) (pv 4) (pv 8) (fun _ _ => rfl)) pa_nil))) pa_nil))) (pe_slice (sl_listK K) (pv 4) (po_some (pe_op op_add (pv 8) pe_int)) po_none)) (pa_cons (pe_cal C__law_bent3 (hr.mono (by decide)) (by rfl) (pa_cons (pv 1) (pa_cons (pe_callTy (call_tuple_ofK K) (by rfl) T.b_tuple (by decide +kernel) (pa_cons (pv 4) pa_nil)) pa_nil))) pa_nil))))))))
    (pss_one (ps_for PassesOwn.never rfl (pi_listK K (pv 5)) (pg_name (i := 9) sc_law.nd rfl (by first | exact Or.inl rfl | exact Or.inr rfl)) (pss_cons (ps_par (i := 10) (j := 11) (by rfl) sc_law.nd rfl rfl (by decide) rfl rfl (pa_cons (pe_cal C__law_fault (hr.mono (by decide)) (by rfl) (pa_cons (pv 9) pa_nil)) (pa_cons (pe_callB (cr_repr hg hr.units) (by rfl) T.b_repr (by decide +kernel) (pa_cons (pv 9) pa_nil)) pa_nil)) (by rfl))
    (pss_cons (ps_if (pt_cmpR op_notN (pv 10) pe_non (nomark _)) (pss_one (ps_set (i := 12) sc_law.nd rfl (by first | exact Or.inl rfl | exact Or.inr rfl) (pv 10))) (pss_cons (ps_asg (pe_tup (pa_cons (pe_callTy (call_dictP rfl) (by rfl) T.b_dict (by decide +kernel) (pa_cons (pe_lc (own := [("_law_tie", 18)]) (g := (gName 18)) rfl sc_law.nd (pi_seqK K (pv 9)) (blkOk_by (own := [("_law_tie", 18)]) (N := N_law) (sc := defScope s_law) (by decide +kernel)) (fun _ _ _ _ _ => (pg_name (i := 18) sc_law.nd rfl (by first | exact Or.inl rfl | exact Or.inr rfl))) (fun _ _ _ _ _ => pts_nil) (fun _ _ _ _ _ => (pe_tup (pa_cons (pe_ix (ix_tupK K) (pv 18) pe_int (fun _ _ => rfl)) (pa_cons (pe_slice (sl_tupAK K) (pv 18) (po_some pe_int) po_none) pa_nil))))) pa_nil)) (pa_cons (pe_callTy (call_tuple_ofK K) (by rfl) T.b_tuple (by decide +kernel) (pa_cons (pe_callB (cr_sortedSK K) (by rfl) T.b_sorted (by decide +kernel) (pa_cons (pe_lc (own := [("_law_tie", 18)]) (g := (gName 18)) rfl sc_law.nd (pi_seqK K (pv 9)) (blkOk_by (own := [("_law_tie", 18)]) (N := N_law) (sc := defScope s_law) (by decide +kernel)) (fun _ _ _ _ _ => (pg_name (i := 18) sc_law.nd rfl (by first | exact Or.inl rfl | exact Or.inr rfl))) (fun _ _ _ _ _ => pts_nil) (fun _ _ _ _ _ => (pe_ix (ix_tupK K) (pv 18) pe_int (fun _ _ => rfl)))) pa_nil)) pa_nil)) pa_nil))) (pg_tupK K rfl (pgs_cons (pg_name (i := 13) sc_law.nd rfl (by first | exact Or.inl rfl | exact Or.inr rfl)) (pgs_cons (pg_name (i := 14) sc_law.nd rfl (by first | exact Or.inl rfl | exact Or.inr rfl)) pgs_nil))))
    (pss_cons (ps_setLc (i := 15) (own := [("_law_lot", 17)]) (g := (gName 17)) rfl sc_law.nd rfl rfl (sw_true rfl rfl rfl (by decide +kernel)) (pi_listK K (pe_cal C__law_lots (hr.mono (by decide)) (by rfl) (pa_cons (pv 14) pa_nil))) (blkOk_by (own := [("_law_lot", 17)]) (N := N_law) (sc := defScope s_law) (by decide +kernel)) (fun _ _ _ _ _ => (pg_name (i := 17) sc_law.nd rfl (by first | exact Or.inl rfl | exact Or.inr rfl))) (fun _ _ _ _ _ => (pts_one (pt_val (pe_cal C__law_no_ring (hr.mono (by decide)) (by rfl) (pa_cons (pe_lc (own := [("_law_one", 16)]) (g := (gName 16)) rfl sc_law.nd (pi_tupK K (pv 17)) (blkOk_by (own := [("_law_one", 16)]) (N := N_law) (sc := relS _ (defScope s_law)) (by decide +kernel)) (fun _ _ _ _ _ => (pg_name (i := 16) sc_law.nd rfl (by first | exact Or.inl rfl | exact Or.inr rfl))) (fun _ _ _ _ _ => pts_nil) (fun _ _ _ _ _ => (pe_dget hu (pv 13) (pv 16) (fun _ _ => rfl)))) pa_nil))))) (fun _ _ _ _ _ => (pv 17)))
    (pss_one (ps_set (i := 12) sc_law.nd rfl (by first | exact Or.inl rfl | exact Or.inr rfl) (pe_tup (pa_cons (pv 14) (pa_cons (pe_cal C__law_row (hr.mono (by decide)) (by rfl) (pa_cons (pv 14) (pa_cons (pe_cal C__law_counted (hr.mono (by decide)) (by rfl) (pa_cons (pv 14) (pa_cons (pv 15) pa_nil))) pa_nil))) pa_nil))))))))
    (pss_one (ps_if (PW.pt (pw_or (pt_cmpR op_ne (pe_callB (cr_repr hg hr.units) (by rfl) T.b_repr (by decide +kernel) (pa_cons (pe_cal C__law_told (hr.mono (by decide)) (by rfl) (pa_cons (pv 9) pa_nil)) pa_nil)) (pe_callB (cr_repr hg hr.units) (by rfl) T.b_repr (by decide +kernel) (pa_cons (pv 12) pa_nil)) (nomark _)) (pw_or1 (pt_cmpR op_ne (pe_callB (cr_repr hg hr.units) (by rfl) T.b_repr (by decide +kernel) (pa_cons (pv 9) pa_nil)) (pv 11) (nomark _))))) (pss_one (ps_ret pe_bl)) pss_nil)))))))))))))
    (pss_one (ps_ret pe_bl)))), ?_⟩
  obtain ⟨a, ns, rfl, hns, hsq, hq⟩ := h
  have key : ∀ t, Sm Mo.emp t () [some (.scr K ns), none, none, none, none, none, none, none, none, none, none, none, none, none, none, none, none, none, none] { rt := fun _ d => d = .p (.bool true) } → t { nx := fun _ H' => Q .non H', rt := Q } (L2.start N_law [.ref a]) H := fun t hs => by
    refine hs (fun _ => False) (fun _ => False) H _ _ ⟨fun _ q => q, fun _ q => q.elim, fun _ q => q.elim⟩ ((start_at (N := N_law) (ds := [.scr K ns]) (.cons (scr_at hsq) .nil) (by show 1 ≤ 19; decide)).le (.less fun x q => q.elim id id)) (fun _ _ _ _ _ _ _ _ p => p.elim) (fun _ _ _ _ _ _ _ _ p => p.elim) (fun _ _ _ _ _ _ _ _ p => p.elim) fun v hid' H' b' d w' s' av p => ?_
    subst p
    cases av
    exact hq H'
  refine key _ ?_
  refine sq_begin rfl (by omega) fun am => ?_
  -- the turns
  let B0 : DL.Env := [some (.scr K ns), some (.v (.ref am)), none, none, none, none, none, none, none, none, none, none, none, none, none, none, none, none, none]
  refine sq_for (sl := [2]) (fun i n ρ => n ≤ 1000 * i ∧ Sub B0 ρ) (ei_range (n := 3 + min ns.length 8) (ea_cons (ev_is (ev_op ev_int (ev_cb (ea_cons (ev_cb (ea_cons (ev_var rfl) ea_nil) rc_lenScr) (ea_cons ev_int ea_nil)) rc_min2) rv_add) ?_) ea_nil) (by omega)) ⟨Nat.zero_le _, ⟨rfl, fun j d h => h⟩⟩ ?_ ?_
  · show D.p (.int _) = D.p (.int _)
    congr 2
    split <;> omega
  rotate_left
  · rintro n ρ ⟨_, _⟩
    exact sm_ret ev_bl rfl
  rintro i d n0 ρ' hd ⟨hn0, sb⟩
  have hi11 : i < 11 := by
    have := (List.getElem?_eq_some_iff.mp hd).1
    simp at this
    omega
  refine ⟨_, eg_name, Sm.sub (sub_set sb rfl) ?_⟩
  -- names
  refine sq_setM (Post := fun n1 d => n1 ≤ n0 + 12 ∧ ∃ xs : List Str, 1 ≤ xs.length ∧ xs.length ≤ 5 ∧ (∀ x ∈ xs, nm x) ∧ d = .p (.list (xs.map .str))) (em_callS rfl (ema_one (em_opR ev_int (em_nextI rfl (by show n0 + 1 ≤ 2 ^ 50; omega) fun r hr => ⟨_, rv_add, ?_⟩)))) ?_
  · have e : (1 + (r : Int)) = ((r + 1 : Nat) : Int) := by omega
    rw [e]
    refine ⟨by show n0 + 1 + 11 ≤ 2 ^ 50; omega, ⟨r + 1, by omega, by omega, rfl⟩, ?_⟩
    rintro d ⟨k, xs, e1, hk, hx, rfl⟩
    cases e1
    exact ⟨by omega, xs, by omega, by omega, hx, rfl⟩
  rintro n1 _ ⟨hn1, names, hnm1, hnm5, hnm, rfl⟩
  -- the ties
  refine sq_setM (Post := fun n2 d => n2 ≤ n0 + 30 ∧ ∃ ts : List PyData, 1 ≤ ts.length ∧ ts.length ≤ 5 ∧ (∀ t ∈ ts, InB 2 t) ∧ d = .p (.list ts)) ((em_lc (b := n1) (fun i n2 acc => n2 ≤ n1 + 3 * i ∧ acc.length = i ∧ ∀ t ∈ acc, InB 2 t) (ei_list (ev_var rfl)) (sl := [16]) (by decide) (by rw [List.length_map]; omega) ⟨Nat.le_refl _, rfl, fun t h => nomatch h⟩ ?_).imp ?_) ?_
  · rintro j d n2 acc hd2 ⟨h1, h2, h3⟩
    obtain ⟨z, hz, rfl⟩ := map_get hd2
    have hzn : nm z := hnm z (List.mem_of_getElem? hz)
    have hj : j < names.length := (List.getElem?_eq_some_iff.mp hz).1
    refine ⟨_, true, eg_name, et_yes, fun _ => ?_, fun q => nomatch q⟩
    refine em_tup (ema_evcons (ev_var rfl) (ema_cons (P1 := fun n3 d => n3 = n2 + 1 ∧ ∃ r : Nat, r < 4 ∧ d = .p (.int (r : Int))) (em_nextI rfl (by show n2 + 1 ≤ 2 ^ 50; omega) fun r hr => ⟨rfl, r, by omega, rfl⟩) ?_))
    rintro n3 _ ⟨rfl, r1, hr1, rfl⟩
    refine ema_one (em_op (P1 := fun n4 d => n4 = n2 + 2 ∧ ∃ r : Nat, r < 4 ∧ d = .p (.list [.int (r : Int), .int (-(10 ^ (20 : Int).toNat))])) (em_lst (ema_cons (P1 := fun n4 d => n4 = n2 + 2 ∧ ∃ r2 : Nat, r2 < 4 ∧ d = .p (.int (r2 : Int))) (em_nextI rfl (by show n2 + 1 + 1 ≤ 2 ^ 50; omega) fun r hr => ⟨rfl, r, by omega, rfl⟩) ?_)) ?_)
    · rintro n4 _ ⟨rfl, r2, hr2, rfl⟩
      exact ema_evcons (ev_un (ev_op ev_int ev_int (rv_pow ⟨by decide, by decide, by decide⟩)) ru_neg) (ema_nil ⟨[.int (r2 : Int), .int (-(10 ^ (20 : Int).toNat))], rfl, by show 2 ≤ 100000; decide, rfl, r2, hr2, rfl⟩)
    · rintro n4 _ ⟨rfl, r2, hr2, rfl⟩
      refine em_cb (ema_one (em_opL (em_nextI rfl (by show n2 + 2 + 1 ≤ 2 ^ 50; omega) fun r hr => ⟨_, _, ev_int, rv_eqI, _, rc_intB, ?_⟩)))
      have fin : ∀ v : Int, v.natAbs < 10 ^ 30 → ∃ ds : List PyData, [D.p (.str z), D.p (.int (r1 : Int)), D.p (.int v)] = ds.map .p ∧ ds.length ≤ 100000 ∧ ∃ x, D.p (.tuple ds) = .p x ∧ n2 + 2 + 1 ≤ n1 + 3 * (j + 1) ∧ (acc ++ [x]).length = j + 1 ∧ ∀ t ∈ acc ++ [x], InB 2 t := fun v hv => by
        refine ⟨[.str z, .int (r1 : Int), .int v], rfl, by show 3 ≤ 100000; decide, _, rfl, by omega, by rw [List.length_append, List.length_singleton, h2], fun t ht => ?_⟩
        rcases List.mem_append.mp ht with q | q
        · exact h3 t q
        · rw [List.mem_singleton.mp q]
          refine ⟨_, rfl, by show 3 ≤ 5; decide, fun y hy => ?_⟩
          have hy' : y = .str z ∨ y = .int (r1 : Int) ∨ y = .int v := by simpa using hy
          rcases hy' with rfl | rfl | rfl
          · exact .inl ⟨z, rfl, hzn.1, hzn.2⟩
          · refine .inr ⟨_, rfl, ?_⟩
            have : (4 : Nat) < 10 ^ 30 := by decide
            omega
          · exact .inr ⟨_, rfl, hv⟩
      by_cases c : (r : Int) = 0
      · rw [decide_eq_true c]
        exact ⟨_, rv_ixL (i := 1) rfl, fin _ (by decide)⟩
      · rw [decide_eq_false c]
        refine ⟨_, rv_ixL (i := 0) rfl, fin _ ?_⟩
        have : (4 : Nat) < 10 ^ 30 := by decide
        omega
  · rintro n2 d ⟨ys, rfl, h1, h2, h3⟩
    rw [List.length_map] at h1 h2
    exact ⟨by omega, ys, by omega, by omega, h3, rfl⟩
  rintro n2 _ ⟨hn2, ts, ht1, ht5, hts, rfl⟩
  have htd : ∀ t ∈ ts, Td 2 t := fun t h => (hts t h).td
  have hl5 : ts.length ≤ 5 := ht5
  have sz2 : ∀ {a b : List PyData}, a.length ≤ 40 → b.length ≤ 40 → a.length + b.length ≤ sizeLine := fun h1 h2 => sz_small (by omega)
  have lsT : ∀ {l : List PyData}, l.length ≤ 6 → (∀ x ∈ l, Td 2 x) → Td 4 (.list l) := fun h1 h2 => (Td.lst (by omega) h1 h2).up1
  -- the things
  refine sq_setM (Post := fun n3 d => n3 ≤ n0 + 31 ∧ ∃ ls : List PyData, ls.length = 11 ∧ (∀ x ∈ ls, Td 4 x) ∧ d = .p (.list ls)) (em_lst (ema_evcons (ev_var rfl) (ema_evcons (ev_cb (ea_cons (ev_var rfl) ea_nil) rc_tupL) (ema_evcons (ev_revL (ev_var rfl)) (ema_evcons (ev_op (ev_var rfl) (ev_sl (ev_var rfl) eo_none (eo_some ev_int) rs_list) (rv_cat (sz2 (by omega) (Nat.le_trans (cutD_len _ _ _) (by omega))))) (ema_evcons (ev_lst (ds := []) ea_nil (by decide)) (ema_evcons (ev_tup (ds := []) ea_nil (by decide)) (ema_evcons ev_non (ema_evcons ev_int (ema_evcons ev_dnew0 (ema_evcons (ev_op (ev_var rfl) ev_int (rv_rep (k := 3) (by decide) (sz_small (by omega)))) (ema_one (em_callS rfl (ema_nil ⟨by show n2 + 1 ≤ 2 ^ 50; omega, rfl, fun d ⟨y, e, hy⟩ => ?_⟩)))))))))))))) ?_
  · subst e
    refine ⟨[.list ts, .tuple ts, .list ts.reverse, .list (ts ++ DL.cutD ts none (some 1)), .list [], .tuple [], .none, .int 5, .dict [], .list (List.replicate 3 ts).flatten, y], rfl, by show 11 ≤ 100000; decide, by omega, _, rfl, fun x hx => ?_, rfl⟩
    have hx' : x = .list ts ∨ x = .tuple ts ∨ x = .list ts.reverse ∨ x = .list (ts ++ DL.cutD ts none (some 1)) ∨ x = .list [] ∨ x = .tuple [] ∨ x = .none ∨ x = .int 5 ∨ x = .dict [] ∨ x = .list (List.replicate 3 ts).flatten ∨ x = y := by simpa only [List.mem_cons, List.not_mem_nil, or_false] using hx
    rcases hx' with rfl | rfl | rfl | rfl | rfl | rfl | rfl | rfl | rfl | rfl | rfl
    · exact lsT (by omega) htd
    · exact (Td.tup (by omega) (by omega) htd).up1
    · exact lsT (by rw [List.length_reverse]; omega) fun x hx => htd x (List.mem_reverse.mp hx)
    · refine lsT ?_ fun x hx => (List.mem_append.mp hx).elim (htd x) fun q => htd x (cutD_mem q)
      have : DL.cutD ts none (some 1) = ts.take 1 := cut_to ts 1
      rw [this, List.length_append, List.length_take]
      omega
    · exact lsT (by decide) fun x hx => nomatch hx
    · exact (Td.tup (k := 2) (l := []) (by omega) (by decide) fun x hx => nomatch hx).up1
    · exact Td.leaf (d := .none) trivial
    · exact Td.leaf (d := .int 5) (by show (5 : Int).natAbs < 10 ^ 40; decide)
    · exact Td.leaf (d := .dict []) rfl
    · refine .inr ⟨_, .inl rfl, ?_, fun x hx => ?_⟩
      · simp only [List.replicate, List.flatten_cons, List.flatten_nil, List.length_append, List.length_nil]
        show _ ≤ 20
        omega
      · obtain ⟨l, hl, hx⟩ := List.mem_flatten.mp hx
        rw [(List.mem_replicate.mp hl).2] at hx
        exact (htd x hx).up1
    · exact hy.up (by omega)
  rintro n3 _ ⟨hn3, ls, hls, hlt, rfl⟩
  refine sq_set (d := .p (.list rows4)) (ev_lst (ds := rows4) (ea_cons ev_t3 (ea_cons ev_t3 (ea_cons ev_t3 (ea_cons ev_t3 ea_nil)))) (by decide)) ?_
  refine sq_set (d := .p (.list (ls ++ [.list (rows4 ++ [t3 "e" 5 6]), .list (rows4 ++ [t3 "e" 5 1])]))) (ev_op (ev_var rfl) (ev_lst (ds := [.list (rows4 ++ [t3 "e" 5 6]), .list (rows4 ++ [t3 "e" 5 1])]) (ea_cons (ev_op (ev_var rfl) (ev_lst (ds := [t3 "e" 5 6]) (ea_cons ev_t3 ea_nil) (by decide)) (rv_cat (by decide))) (ea_cons (ev_op (ev_var rfl) (ev_lst (ds := [t3 "e" 5 1]) (ea_cons ev_t3 ea_nil) (by decide)) (rv_cat (by decide))) ea_nil)) (by decide)) (rv_cat (by rw [hls]; decide))) ?_
  let B1 : List PyData → DL.Env := fun zs => [some (.scr K ns), some (.v (.ref am)), none, none, some (.p (.list ts)), some (.p (.list zs)), none, none, none, none, none, none, none, none, none, none, none, none, none]
  refine sq_for (sl := [7]) (fun j n ρ => n ≤ n0 + 31 + 50 * j ∧ ∃ zs : List PyData, zs.length ≤ 13 + 2 * j ∧ (∀ x ∈ zs, Td 4 x) ∧ Sub (B1 zs) ρ) (ei_range (n := 5) (ea_cons ev_int ea_nil) (by decide)) ⟨hn3, ls ++ [.list (rows4 ++ [t3 "e" 5 6]), .list (rows4 ++ [t3 "e" 5 1])], by rw [List.length_append, hls]; decide, fun x hx => ?_, by repeat (first | exact sub_nil | apply sub_same | apply sub_none)⟩ ?_ ?_
  · rcases List.mem_append.mp hx with q | q
    · exact hlt x q
    · rcases List.mem_cons.mp q with e | e
      · rw [e]; exact rows_td.1
      · rw [List.mem_singleton.mp e]; exact rows_td.2
  · rintro j d n ρ2 hd2 ⟨hn, zs, hz1, hz2, sb2⟩
    have hj : j < 5 := by
      have := (List.getElem?_eq_some_iff.mp hd2).1
      simpa using this
    refine ⟨_, eg_name, Sm.sub (sub_set sb2 rfl) ?_⟩
    refine sq_setM (Post := fun n4 d => n4 = n + 1 ∧ ∃ at0 : Nat, at0 < ts.length ∧ d = .p (.int (at0 : Int))) (em_next rfl ((ev_cb (ea_cons (ev_var rfl) ea_nil) rc_lenL).em.imp ?_)) ?_
    · rintro n4 d ⟨rfl, rfl⟩
      exact ⟨_, by omega, by omega, rfl, by show n4 + 1 ≤ 2 ^ 50; omega, fun r hr => ⟨rfl, r, by omega, rfl⟩⟩
    rintro n4 _ ⟨rfl, at0, hat, rfl⟩
    have e1 : (DL.cutD ts none (some (at0 : Int))).length = at0 := by rw [cut_to, List.length_take]; omega
    have e2 : (DL.cutD ts (some ((at0 : Int) + 1)) none).length = ts.length - (at0 + 1) := by rw [show ((at0 : Int) + 1) = ((at0 + 1 : Nat) : Int) from rfl, cut_from, List.length_drop]
    refine sm_setM (Post := fun n5 d => n5 ≤ n + 50 ∧ ∃ y1 y2 : PyData, Td 4 y1 ∧ Td 4 y2 ∧ d = .p (.list (zs ++ [y1, y2]))) (em_opR (ev_var rfl) (em_lst (ema_cons (P1 := fun n5 d => n5 = n + 16 ∧ ∃ y, Td 4 y ∧ d = .p y) (em_opL (em_opR (ev_sl (ev_var rfl) eo_none (eo_some (ev_var rfl)) rs_list) (em_lst (ema_one (em_callS rfl (ema_evcons (ev_op (ev_var rfl) (ev_var rfl) (rv_ixL (List.getElem?_eq_getElem hat))) (ema_nil ⟨by show n + 1 + 15 ≤ 2 ^ 50; omega, ⟨_, rfl, hts _ (List.getElem_mem hat)⟩, fun d ⟨y, e, hy⟩ => ?_⟩))))))) ?_))) ?_
    · subst e
      refine ⟨[y], rfl, by show 1 ≤ 100000; decide, _, rv_cat (sz2 (by omega) (by show 1 ≤ 40; decide)), _, _, ev_sl (ev_var rfl) (eo_some (ev_op (ev_var rfl) ev_int rv_add)) eo_none rs_list, rv_cat (sz2 (by rw [List.length_append, List.length_singleton]; omega) (by omega)), by omega, _, .inr ⟨_, .inl rfl, ?_, fun x hx => ?_⟩, rfl⟩
      · rw [List.length_append, List.length_append, List.length_singleton]
        show _ ≤ 20
        omega
      · rcases List.mem_append.mp hx with q | q
        · rcases List.mem_append.mp q with q | q
          · exact (htd x (cutD_mem q)).up1
          · rw [List.mem_singleton.mp q]; exact hy
        · exact (htd x (cutD_mem q)).up1
    · rintro n5 _ ⟨rfl, y1, hy1, rfl⟩
      refine ema_one (em_callS rfl (ema_evcons (ev_cb (ea_cons (ev_var rfl) ea_nil) rc_tupL) (ema_nil ⟨by show n + 16 + 20 ≤ 2 ^ 50; omega, ⟨_, rfl, ts, rfl, ht5, hts⟩, fun d ⟨y, e, hy⟩ => ?_⟩)))
      subst e
      exact ⟨[y1, y], rfl, by show 2 ≤ 100000; decide, _, rv_cat (sz2 (by omega) (by show 2 ≤ 40; decide)), by omega, y1, y, hy1, hy, rfl⟩
    · rintro n5 _ ⟨hn5, y1, y2, hy1, hy2, rfl⟩
      refine ⟨by omega, zs ++ [y1, y2], by rw [List.length_append]; show _ + 2 ≤ _; omega, fun x hx => ?_, by repeat (first | exact sub_nil | apply sub_same | apply sub_none)⟩
      rcases List.mem_append.mp hx with q | q
      · exact hz2 x q
      · rcases List.mem_cons.mp q with e | e
        · rw [e]; exact hy1
        · rw [List.mem_singleton.mp e]; exact hy2
  rintro n6 ρ6 ⟨hn6, zs, hz1, hz2, sb6⟩
  rw [List.length_map, List.length_range] at hn6
  refine Sm.sub sb6 ?_
  refine sm_for (sl := [9]) (fun j n ρ => n ≤ 1000 * (i + 1) ∧ Sub B0 ρ) (ei_list (ev_var rfl)) ⟨by omega, by repeat (first | exact sub_nil | apply sub_same | apply sub_none)⟩ ?_ fun n ρ h => h
  rintro j x n7 ρ7 hx7 ⟨hn7, sb7⟩
  have hx4 : Td 4 x := hz2 x (List.mem_of_getElem? hx7)
  refine ⟨_, eg_name, Sm.sub (sub_set2 sb7) ?_⟩
  obtain ⟨rp1, rp2, rp3⟩ := td_rep hx4
  obtain ⟨rt1, rt2, rt3⟩ := told_rep (x := x)
  refine sq_par (x := .p (faultD x)) (y := .p (.str x.shown)) (ea_cons (ev_call (ea_cons (ev_var rfl) ea_nil) ⟨x, rfl, td_smalls hx4, rfl⟩) (ea_cons (ev_cb (ea_cons (ev_var rfl) ea_nil) (rc_repr rp1 rp2 rp3)) ea_nil)) ?_
  let B3 : DL.Env := [some (.scr K ns), some (.v (.ref am)), none, none, none, none, none, none, none, some (.p x), none, some (.p (.str x.shown)), some (.p (toldD x)), none, none, none, none, none, none]
  refine sm_seq (Mid := fun n ρ => n ≤ 1000 * (i + 1) ∧ Sub B3 ρ) (sm_if (et_test (ev_op (ev_var rfl) ev_non rv_notN)) (fun q => ?_) fun q => ?_) ?_
  · have e : faultD x = toldD x := by
      unfold faultD at q ⊢
      unfold toldD
      cases hf : frameR x with
      | inl p => rfl
      | inr rows =>
        rw [hf] at q
        cases q
    refine sm_set (d := .p (toldD x)) (ev_is (ev_var rfl) (by rw [e])) ⟨hn7, by repeat (first | exact sub_nil | apply sub_same | apply sub_none)⟩
  · obtain ⟨rows, hf⟩ : ∃ rows, frameR x = .inr rows := by
      unfold faultD at q
      cases hf : frameR x with
      | inl p =>
        rw [hf] at q
        cases q
      | inr rows => exact ⟨rows, rfl⟩
    have Fr := frameR_inr hf
    have hr5 := Fr.l5
    have hnl := names_len rows
    have hst : (namesL rows).Pairwise ltS := sortS_strict Fr.nd
    have hl32 : (lots (namesL rows)).length ≤ 32 := by
      rw [lots_len]
      exact Nat.le_trans (Nat.pow_le_pow_right (by decide) (show (namesL rows).length ≤ 5 by omega)) (by decide)
    have hln5 : (namesL rows).length ≤ 5 := by omega
    refine sq_asg2 (x := .dk (rows.map fun r => ((.inr r.1 : Key), pairD r.2))) (y := .p (lotD (namesL rows)))
      (ea_cons (ev_is (ev_cb (ea_cons (ev_is (ev_lcM (cs := rows) (φ := rowD) (fun r => .tuple [.str r.1, pairD r.2]) (ei_seq Fr.sq (ev_var rfl)) (sl := [18]) (by decide) (by omega) fun r hr => ⟨_, eg_name, ev_tup (ds := [.str r.1, pairD r.2]) (ea_cons (ev_op (ev_var rfl) ev_int (rv_ixT (i := 0) rfl)) (ea_cons (ev_is (ev_sl (ev_var rfl) (eo_some ev_int) eo_none rs_tup) ?_) ea_nil)) (by show 2 ≤ 100000; decide)⟩) ?_) ea_nil) (rc_dictP (rows := rows.map fun r => (r.1, pairD r.2)) ?_)) ?_)
        (ea_cons (ev_cb (ea_cons (ev_cb (ea_cons (ev_is (ev_lcM (cs := rows) (φ := rowD) (fun r => .str r.1) (ei_seq Fr.sq (ev_var rfl)) (sl := [18]) (by decide) (by omega) fun r hr => ⟨_, eg_name, ev_op (ev_var rfl) ev_int (rv_ixT (i := 0) rfl)⟩) ?_) ea_nil) (rc_sortedS (xs := rows.map (·.1)) (by rw [List.length_map]; omega))) ea_nil) rc_tupL) ea_nil)) ?_
    · have : DL.cutD [PyData.str r.1, .int r.2.1, .int r.2.2] (some 1) none = [.int r.2.1, .int r.2.2] := cut_from _ 1
      show D.p (.tuple (DL.cutD [PyData.str r.1, .int r.2.1, .int r.2.2] (some 1) none)) = _
      rw [this]
      rfl
    · rw [List.map_map]
      rfl
    · rw [List.map_map]
      exact Fr.nd
    · rw [List.map_map]
      rfl
    · rw [List.map_map]
      rfl
    refine sq_set (d := .p (.list (lotsD (goodL (tieOf rows) (namesL rows))))) (ev_lcF (cs := lots (namesL rows)) (φ := lotD) (fun a => free (fun p => p) (a.map (tieOf rows))) lotD (ei_list (ev_call (ea_cons (ev_var rfl) ea_nil) ⟨namesL rows, rfl, hln5, hst, rfl⟩)) (sl := [17]) (by decide) (by omega) fun a ha => ?_) ?_
    · have hal : a.length ≤ 5 := Nat.le_trans (mem_lots.mp ha).length_le hln5
      refine ⟨_, eg_name, et_B (ev_call (ea_cons (ev_is (ev_lcM (cs := a) (φ := .str) (fun z => pairD (tieOf rows z)) (ei_tup (ev_var rfl)) (sl := [16]) (by decide) (by omega) fun z hz => ⟨_, eg_name, ev_dgetK (k := .inr z) (ev_var rfl) (ev_var rfl) (val_ends (names_mem.mp ((mem_lots.mp ha).mem hz)))⟩) ?_) ea_nil) ⟨a.map (tieOf rows), rfl, by rw [List.length_map]; exact hal, rfl⟩), fun _ => ev_var rfl⟩
      rw [List.map_map]
      rfl
    have hgood : (goodL (tieOf rows) (namesL rows)).length ≤ 1000 := Nat.le_trans (List.length_filter_le _ _) (by omega)
    refine sm_set (d := .p (toldD x)) (ev_is (ev_tup (ds := [lotD (namesL rows), .tuple ((lots (namesL rows)).map fun a => .int (rkT (tieOf rows) a))]) (ea_cons (ev_var rfl) (ea_cons (ev_call (ea_cons (ev_var rfl) (ea_cons (ev_call (ea_cons (ev_var rfl) (ea_cons (ev_var rfl) ea_nil)) ⟨namesL rows, goodL (tieOf rows) (namesL rows), rkT (tieOf rows), rfl, hln5, hst, hgood, fun g hg2 => ?_, fun a ha => within_rk hst ha, rfl⟩) ea_nil)) ⟨namesL rows, rkT (tieOf rows), rfl, hln5, hst, rfl⟩) ea_nil)) (by show 2 ≤ 100000; decide)) ?_) ⟨hn7, by repeat (first | exact sub_nil | apply sub_same | apply sub_none)⟩
    · have hg3 : g ∈ lots (namesL rows) := (List.mem_filter.mp hg2).1
      exact ⟨Nat.le_trans (mem_lots.mp hg3).length_le (by omega), fun z hz => word_asc (names_word Fr ((mem_lots.mp hg3).mem hz))⟩
    · show D.p _ = D.p (toldD x)
      unfold toldD
      rw [hf]
  · rintro n8 ρ8 ⟨hn8, sb8⟩
    refine Sm.sub sb8 ?_
    refine sm_if (a := false) (et_is (et_or (et_test (ev_op (ev_cb (ea_cons (ev_call (ea_cons (ev_var rfl) ea_nil) ⟨x, rfl, td_shorts hx4, rfl⟩) ea_nil) (rc_repr rt1 rt2 rt3)) (ev_cb (ea_cons (ev_var rfl) ea_nil) (rc_repr rt1 rt2 rt3)) rv_neS)) fun _ => et_test (ev_op (ev_cb (ea_cons (ev_var rfl) ea_nil) (rc_repr rp1 rp2 rp3)) (ev_var rfl) rv_neS)) ?_) (fun q => nomatch q) fun _ => sm_next ⟨hn8, by repeat (first | exact sub_nil | apply sub_same | apply sub_none)⟩
    simp
end
end SL
set_option Elab.async false
set_option linter.all false
set_option maxRecDepth 100000
set_option maxHeartbeats 8000000
namespace SL
open PySem PySem.Spec PyProof.Rows L2 DL FM NW

theorem has_mk {K : PySem.W.Frag} {h : Heap} {mg : Str → Option Value} {x : Str} {st : Stmt} {f : Addr} {od an : Option Addr} {sl : Array (Option Value)} {oc kV dc pm cd ct : Value} (X : K.In h) (G : h.Ns mainGlobals mg) (a : PySem.W.nsIn K mainGlobals x = some (some (.ref f)))
    (l : K.lookup f = some ⟨oc, od, .func (PySem.W.fnOf x x (defArgs st) (defBody st) (defScope st) .none kV dc pm an cd ct), sl⟩) (c : PySem.W.codeIn K cd x = true) (k : PySem.W.keepIn K (.ref f) = true) : Has K mg x st := ⟨f, _, PySem.W.mg_of X G a, fun_mk l c k⟩
theorem fam_mk {K : PySem.W.Frag} {h : Heap} {mg : Str → Option Value} {C f : Addr} {od an : Option Addr} {sl : Array (Option Value)} {oc kV dc pm cd ct : Value} (X : K.In h) (G : h.Ns mainGlobals mg) (a : PySem.W.nsIn K mainGlobals "Family" = some (some (.ref C)))
    (i : PySem.W.findIn K (.ref C) "__init__" = some (some (.ref f))) (l : K.lookup f = some ⟨oc, od, .func (PySem.W.fnOf "__init__" "Family.__init__" (defArgs s_Family___init__) (defBody s_Family___init__) (defScope s_Family___init__) .none kV dc pm an cd ct), sl⟩) (c : PySem.W.codeIn K cd "Family.__init__" = true) (k : PySem.W.keepIn K (.ref f) = true)
    (pg : PySem.W.plainGet K C Str.empty = true) (hd : PySem.W.hasDictIn K C = true) (po : PySem.W.plainOver K C = true) (sa : PySem.W.findIn K (.ref C) "__setattr__" = some (some (.builtin "object.__setattr__"))) (mk : PySem.W.makesIn K C = true) (fn : PySem.W.isFn K (.ref f) = true) (kc : PySem.W.keepIn K (.ref C) = true)
    (n1 : PySem.W.findIn K (.ref C) "things" = some none) (n2 : PySem.W.findIn K (.ref C) "counts" = some none) : FamC K mg C := ⟨⟨f, _, PySem.W.mg_of X G a, ⟨mk, i, fn, kc⟩, fun_mk l c k⟩, ⟨pg, hd, po, sa⟩, n1, n2⟩
theorem txt_mk {K : PySem.W.Frag} {h : Heap} {mg : Str → Option Value} (X : K.In h) (G : h.Ns mainGlobals mg) {t1 t2 t3 t4 t5 t6 : Tok}
    (b : ∀ x ∈ (["len", "isinstance", "all", "max", "min", "sorted", "repr", "tuple", "list", "dict", "int", "str", "bool", "range", "zip", "enumerate", "super"] : List Str), PySem.W.nsIn K mainGlobals x = some none)
    (g1 : PySem.W.nsIn K mainGlobals "MOST_THINGS" = some (some (.int 5 t1))) (g2 : PySem.W.nsIn K mainGlobals "MOST_LETTERS" = some (some (.int 8 t2))) (g3 : PySem.W.nsIn K mainGlobals "LETTERS" = some (some (.str "abcdefghijklmnopqrstuvwxyz" t3)))
    (g4 : PySem.W.nsIn K mainGlobals "NONE" = some (some (.str "none" t4))) (g5 : PySem.W.nsIn K mainGlobals "STEP" = some (some (.str "step" t5))) (g6 : PySem.W.nsIn K mainGlobals "PAIR" = some (some (.str "pair" t6))) : Txt mg := by
  have n : ∀ x ∈ (["len", "isinstance", "all", "max", "min", "sorted", "repr", "tuple", "list", "dict", "int", "str", "bool", "range", "zip", "enumerate", "super"] : List Str), mg x = none := fun x hx => PySem.W.mg_none_of X G (b x hx)
  exact { b_len := n _ (by simp), b_isinstance := n _ (by simp), b_all := n _ (by simp), b_max := n _ (by simp), b_min := n _ (by simp), b_sorted := n _ (by simp), b_repr := n _ (by simp), b_tuple := n _ (by simp), b_list := n _ (by simp), b_dict := n _ (by simp), b_int := n _ (by simp), b_str := n _ (by simp), b_bool := n _ (by simp), b_range := n _ (by simp), b_zip := n _ (by simp), b_enumerate := n _ (by simp), b_super := n _ (by simp),
          g_MOST_THINGS := ⟨_, PySem.W.mg_of X G g1⟩, g_MOST_LETTERS := ⟨_, PySem.W.mg_of X G g2⟩, g_LETTERS := ⟨_, PySem.W.mg_of X G g3⟩, g_NONE := ⟨_, PySem.W.mg_of X G g4⟩, g_STEP := ⟨_, PySem.W.mg_of X G g5⟩, g_PAIR := ⟨_, PySem.W.mg_of X G g6⟩ }
theorem exm_self {K : PySem.W.Frag} {S : Addr} (h1 : PySem.W.subIn K (.ref S) (.type "BaseException") = some true) (h2 : PySem.W.isClsIn K S = true) (h3 : PySem.W.typeIn K (.ref S) = some (.type "type")) (h4 : PySem.W.subIn K (.ref S) (.ref S) = some true) :
    PySem.W.exmOne K (.ref S) (.ref S) = some true := by
  have e1 : (PySem.W.subIn K (.ref S) (.type "BaseException") == some true) = true := by rw [h1] <;> rfl
  have e2 : ((PySem.W.clsIn K S).isSome && PySem.W.typeIn K (.ref S) == some (.type "type")) = true := by
    have h2' : (PySem.W.clsIn K S).isSome = true := h2
    rw [h2', h3] <;> rfl
  show (if (PySem.W.subIn K (.ref S) (.type "BaseException") == some true) = true then (if ((PySem.W.clsIn K S).isSome && PySem.W.typeIn K (.ref S) == some (.type "type")) = true then PySem.W.subIn K (.ref S) (.ref S) else none) else none) = some true
  rw [if_pos e1, if_pos e2]
  exact h4
structure BadC (K : PySem.W.Frag) (mg : Str → Option Value) (main : Str) (CB fI cda cc : Addr) : Prop where
  B : SupC K main CB fI cda cc "__init__" "BadMaker.__init__" "place" s_BadMaker___init__
  bad : mg "BadMaker" = some (.ref CB)
  te : PySem.W.exmOne K (.ref CB) (.ref CB) = some true
  xf : XfC K CB
theorem bad_mk {K : PySem.W.Frag} {h : Heap} {mg : Str → Option Value} {main : Str} {C fI cda cc : Addr} (X : K.In h) (G : h.Ns mainGlobals mg) {nm q : Str} {N : Addr} {bs bm : List Value} {sn : List Str} {sub : List Value} {ab : Bool} {col : Option Bool} {dd : Option Addr} {m0 m1 m2 m3 m5 : Option Value}
    {od an cdd cld : Option Addr} {sl ccs csl : Array (Option Value)} {oc kV dc pm ct ccl cl : Value} {vs : Array Value} {t : Tok} {cd : ClassData}
    (a : PySem.W.nsIn K mainGlobals "BadMaker" = some (some (.ref C))) (xL : K.lookup C = some (excClassObj nm q C N bs bm true sn sub ab col dd m0 m1 m2 m3 m5 "ValueError.__new__")) (rf : PySem.HandSPX.refsVE bm = true)
    (sa : PySem.W.findIn K (.ref C) "__setattr__" = some (some (.builtin "object.__setattr__"))) (eC : PySem.W.subIn K (.ref C) (.type "BaseException") = some true) (tC : PySem.W.typeIn K (.ref C) = some (.type "type")) (kC : PySem.W.keepIn K (.ref C) = true)
    (iC : PySem.W.findIn K (.ref C) "__init__" = some (some (.ref fI))) (tI : PySem.W.typeIn K (.ref fI) = some (.type "function"))
    (fn : K.lookup fI = some ⟨oc, od, .func (PySem.W.ksFn "__init__" "BadMaker.__init__" (defArgs s_BadMaker___init__) (defBody s_BadMaker___init__) (defScope s_BadMaker___init__) .none kV dc pm an (.ref cda) ct cc), sl⟩) (code : PySem.W.codeIn K (.ref cda) "BadMaker.__init__" = true)
    (file : K.lookup cda = some ⟨ccl, cdd, .fields vs, ccs⟩) (file2 : vs[2]? = some (.str main t)) (cell : K.lookup cc = some ⟨cl, cld, .cell (some (.ref C)), csl⟩) (cls : PySem.W.clsIn K C = some cd) (self : PySem.W.mroIn K C (.ref C) = some true)
    (sup : PySem.W.ks_superIn K C C "__init__" = some (some (.builtin "ValueError.__init__"))) (exc : PySem.W.excInitIn K C [.type "ValueError", .type "Exception", .type "BaseException", .type "object"] "ValueError.__new__" = true) (below : PySem.W.subIn K (.ref C) (.type "ValueError") = some true)
    (any : PySem.W.nsIn K cStatics "thirdparty.any" = some none) (no : PySem.W.findIn K (.ref C) "place" = some none) (is : PySem.W.isClsIn K C = true) (sC : PySem.W.subIn K (.ref C) (.ref C) = some true) (ga : PySem.W.findIn K (.ref C) "__getattribute__" = some (some (.builtin "BaseException.__getattribute__"))) (gg : PySem.W.findIn K (.ref C) "__getattr__" = some none) (hC : PySem.W.hasDictIn K C = true) : BadC K mg main C fI cda cc :=
  ⟨⟨⟨⟨nm, q, N, bs, bm, sn, sub, ab, col, dd, m0, m1, m2, m3, m5, xL, rf⟩, sa, eC, tC, kC⟩, iC, tI, ⟨oc, od, kV, dc, pm, an, ct, sl, fn⟩, code, ⟨ccl, cdd, vs, ccs, t, file, file2⟩, ⟨cl, cld, csl, cell⟩, ⟨cd, cls⟩, self, sup, ⟨_, exc, PySem.F.excBase_ValueError⟩, below, any, no⟩, PySem.W.mg_of X G a, exm_self eC is tC sC, ⟨ga, gg, eC, hC⟩⟩
theorem all_ok {P : Program} {w : World} {K : PySem.W.Frag} {h : Heap} {mg : Str → Option Value} {fa C CB fI cda cc : Addr} (hfa : mg "law" = some (.ref fa)) (T : Txt mg) (FC : FamC K mg C) (B : BadC K mg P.main.file CB fI cda cc) (h_top : (P.main.scope.names.lookup ("super" : Str)).isSome = false)
    (H1 : Has K mg "is_number" s_is_number) (H2 : Has K mg "is_word" s_is_word) (H3 : Has K mg "are_ascending" s_are_ascending) (H4 : Has K mg "need_things" s_need_things) (H5 : Has K mg "without" s_without) (H6 : Has K mg "joined" s_joined) (H7 : Has K mg "steps" s_steps) (H8 : Has K mg "corners" s_corners) (H9 : Has K mg "rules" s_rules) (H10 : Has K mg "all_lots" s_all_lots)
    (H11 : Has K mg "is_tie" s_is_tie) (H12 : Has K mg "table_of" s_table_of) (H13 : Has K mg "is_kept" s_is_kept) (H14 : Has K mg "tie_count" s_tie_count) (H15 : Has K mg "counted" s_counted) (H16 : Has K mg "need_items" s_need_items) (H17 : Has K mg "of_frame" s_of_frame)
    (H18 : Has K mg "_law_begun" s__law_begun) (H19 : Has K mg "_law_next" s__law_next) (H20 : Has K mg "_law_names" s__law_names) (H21 : Has K mg "_law_odd" s__law_odd) (H22 : Has K mg "_law_bent" s__law_bent) (H23 : Has K mg "_law_is_name" s__law_is_name) (H24 : Has K mg "_law_less" s__law_less) (H25 : Has K mg "_law_lots" s__law_lots)
    (H26 : Has K mg "_law_row" s__law_row) (H27 : Has K mg "_law_counted" s__law_counted) (H28 : Has K mg "_law_no_ring" s__law_no_ring) (H29 : Has K mg "_law_fault" s__law_fault) (H30 : Has K mg "_law_told" s__law_told) (H31 : Has K mg "law" s_law) :
    ∃ fd : FuncData, (∀ (s : Shared) (u : Value), BindsTo s fd ⟨[u], []⟩ [("_law_script", u)]) ∧ ∀ base : Heap, K.In base → base.Ns mainGlobals mg → RunAt P w K mg base callerA fa fd ["_law_script"] (spL K) := by
  obtain ⟨f, fd, hm, F⟩ := H31.ex
  have e := hm.symm.trans hfa
  cases e
  have F' := F
  obtain ⟨oc, od, kV, doc, pm, an, cdv, ct, osl, rfl, lk, hcd⟩ := F.ex
  refine ⟨PySem.W.fnOf "law" "law" (defArgs s_law) (defBody s_law) (defScope s_law) .none kV doc pm an cdv ct, fun s u => .of_eq rfl, fun base _ _ => ?_⟩
  have C1 := ok_is_number (P := P) (w := w) (base := base) H1 T
  have C2 := ok_is_word (P := P) (w := w) (base := base) H2 T
  have C3 := ok_are_ascending H3 T C2
  have C4 := ok_need_things H4 T C3
  have C5 := ok_without (P := P) (w := w) (base := base) H5 T
  have C6 := ok_joined (P := P) (w := w) (base := base) H6 T
  have C10 := ok_all_lots (P := P) (w := w) (base := base) H10 T
  have C7 := ok_steps H7 C10 C5
  have C8 := ok_corners H8 C7 C5
  have C9 := ok_rules H9 T C7 C8
  have C11 := ok_is_tie H11 T C2 C1
  have C12 := ok_table_of H12 T C10
  have C13 := ok_is_kept H13 T C6
  have CF := ok_Family FC T C4 C10 C1 C12 C9 C13
  have C14 := ok_tie_count (P := P) (w := w) (base := base) H14 T
  obtain ⟨ftc, fdtc, g_tc, k_tc, b_tc, F_tc⟩ := C14.ex
  have C15 := ok_counted H15 T C10 CF k_tc b_tc F_tc
  obtain ⟨fn, fdn, m_ni, F_ni⟩ := H16.ex
  have b_ni : Binds K fdn ["thing"] [] := F_ni.binds fun _ _ _ _ _ _ us hl => match us, hl with | [_], _ => rfl
  have G_ni := ok_need_items (P := P) (w := w) (base := base) F_ni T B.B T.b_super h_top B.bad
  obtain ⟨fo, fdo, m_of, F_of⟩ := H17.ex
  have b_of : Binds K fdo ["ties"] [] := F_of.binds fun _ _ _ _ _ _ us hl => match us, hl with | [_], _ => rfl
  have G_of := ok_of_frame F_of T B.B T.b_super h_top B.bad G_ni m_ni F_ni.kp b_ni g_tc C11 C15
  have C30 := ok_told H30 G_of m_of F_of.kp b_of B.bad B.te B.xf B.B.no FC.cls FC.n1 FC.n2
  have C18 := ok_law_begun (P := P) (w := w) (base := base) H18 T
  have C19 := ok_law_next (P := P) (w := w) (base := base) H19 T
  have C20 := ok_law_names H20 T C19
  have C21 := ok_law_odd H21 T C19
  have C22 := ok_law_bent H22 T C19 C21
  have C23 := ok_law_is_name (P := P) (w := w) (base := base) H23 T
  have C24 := ok_law_less (P := P) (w := w) (base := base) H24 T
  have C25 := ok_law_lots (P := P) (w := w) (base := base) H25 T
  have C26 := ok_law_row H26 T C25
  have C27 := ok_law_counted H27 T C25 C24
  have C28 := ok_law_no_ring (P := P) (w := w) (base := base) H28 T
  have C29 := ok_law_fault H29 T C23
  exact run_law F' T C18 C19 C20 C21 (C22 2 (by decide)) (C22 3 (by decide)) C29 C25 C28 C26 C27 C30
end SL
set_option Elab.async false
set_option maxRecDepth 100000
set_option pp.maxSteps 60
set_option pp.deepTerms false
set_option pp.deepTerms.threshold 3
open PySem PySem.W PyProof.Rows
set_option maxHeartbeats 0 in
theorem PySem.Challenge.cw_standlots_k08_whole_frames_holds : PySem.Challenge.rw_standlots_k08_whole_frames.Holds := by
  w_on; o_law; k_head; (case hw => w_witness2)
  k_fill
  refine NW.walk_ofG (l := PySem.Challenge.rw_standlots_k08_whole_frames) (n := 63) (x := "_law_script") (sp := fun w => SL.spL _) rfl (by decide) rfl (fun w h Y => PySem.W.kIn_of Y) ?F (fun _ _ a ns hl _ hS => ⟨a, ns, rfl, hl, hS, fun _ => rfl⟩)
  case F =>
    intro w mg fa h KX G hmg
    have T : SL.Txt mg := by
      refine' SL.txt_mk KX G ?b ?g1 ?g2 ?g3 ?g4 ?g5 ?g6
      (case b => intro x hx; simp only [List.mem_cons, List.not_mem_nil, or_false] at hx; rcases hx with rfl | rfl | rfl | rfl | rfl | rfl | rfl | rfl | rfl | rfl | rfl | rfl | rfl | rfl | rfl | rfl | rfl <;> k_is)
      (case g1 => k_is); (case g2 => k_is); (case g3 => k_is); (case g4 => k_is); (case g5 => k_is); (case g6 => k_is)
    have FC : ∃ C, SL.FamC (L2.KOf KX) mg C := by
      delta L2.KOf
      refine' ⟨_, SL.fam_mk KX G ?a ?i ?l ?c ?k ?pg ?hd ?po ?sa ?mk ?fn ?kc ?n1 ?n2⟩
      (case a => k_is); (case i => k_is); (case l => k_is); (case c => k_is); (case k => k_is); (case pg => k_is); (case hd => k_is); (case po => k_is); (case sa => k_is); (case mk => k_is); (case fn => k_is); (case kc => k_is); (case n1 => k_is); (case n2 => k_is)
    have BC : ∃ CB fI cda cc, SL.BadC (L2.KOf KX) mg (PySem.Challenge.rw_standlots_k08_whole_frames).prog.main.file CB fI cda cc := by
      delta L2.KOf
      refine' ⟨_, _, _, _, SL.bad_mk KX G ?a ?xL ?rf ?sa ?eC ?tC ?kC ?iC ?tI ?fn ?code ?file ?file2 ?cell ?cls ?self ?sup ?exc ?below ?any ?no ?is ?sC ?ga ?gg ?hC⟩
      (case a => k_is); (case xL => k_is); (case rf => decide +kernel); (case sa => k_is); (case eC => k_is); (case tC => k_is); (case kC => k_is); (case iC => k_is); (case tI => k_is); (case fn => k_is); (case code => k_is)
      (case file => k_is); (case file2 => first | rfl | k_is); (case cell => k_is); (case cls => k_is); (case self => first | rfl | k_is); (case sup => ks_is); (case exc => kx_is); (case below => k_is); (case any => k_is); (case no => k_is); (case is => k_is); (case sC => first | rfl | k_is); (case ga => k_is); (case gg => k_is); (case hC => k_is)
    obtain ⟨C, FC⟩ := FC
    obtain ⟨CB, fI, cda, cc, BC⟩ := BC
    have H1 : SL.Has (L2.KOf KX) mg "is_number" SL.s_is_number := by
      delta L2.KOf
      refine' SL.has_mk KX G ?a ?l ?c ?k
      (case a => k_is); (case l => k_is); (case c => k_is); (case k => k_is)
    have H2 : SL.Has (L2.KOf KX) mg "is_word" SL.s_is_word := by
      delta L2.KOf
      refine' SL.has_mk KX G ?a ?l ?c ?k
      (case a => k_is); (case l => k_is); (case c => k_is); (case k => k_is)
    have H3 : SL.Has (L2.KOf KX) mg "are_ascending" SL.s_are_ascending := by
      delta L2.KOf
      refine' SL.has_mk KX G ?a ?l ?c ?k
      (case a => k_is); (case l => k_is); (case c => k_is); (case k => k_is)
    have H4 : SL.Has (L2.KOf KX) mg "need_things" SL.s_need_things := by
      delta L2.KOf
      refine' SL.has_mk KX G ?a ?l ?c ?k
      (case a => k_is); (case l => k_is); (case c => k_is); (case k => k_is)
    have H5 : SL.Has (L2.KOf KX) mg "without" SL.s_without := by
      delta L2.KOf
      refine' SL.has_mk KX G ?a ?l ?c ?k
      (case a => k_is); (case l => k_is); (case c => k_is); (case k => k_is)
    have H6 : SL.Has (L2.KOf KX) mg "joined" SL.s_joined := by
      delta L2.KOf
      refine' SL.has_mk KX G ?a ?l ?c ?k
      (case a => k_is); (case l => k_is); (case c => k_is); (case k => k_is)
    have H7 : SL.Has (L2.KOf KX) mg "steps" SL.s_steps := by
      delta L2.KOf
      refine' SL.has_mk KX G ?a ?l ?c ?k
      (case a => k_is); (case l => k_is); (case c => k_is); (case k => k_is)
    have H8 : SL.Has (L2.KOf KX) mg "corners" SL.s_corners := by
      delta L2.KOf
      refine' SL.has_mk KX G ?a ?l ?c ?k
      (case a => k_is); (case l => k_is); (case c => k_is); (case k => k_is)
    have H9 : SL.Has (L2.KOf KX) mg "rules" SL.s_rules := by
      delta L2.KOf
      refine' SL.has_mk KX G ?a ?l ?c ?k
      (case a => k_is); (case l => k_is); (case c => k_is); (case k => k_is)
    have H10 : SL.Has (L2.KOf KX) mg "all_lots" SL.s_all_lots := by
      delta L2.KOf
      refine' SL.has_mk KX G ?a ?l ?c ?k
      (case a => k_is); (case l => k_is); (case c => k_is); (case k => k_is)
    have H11 : SL.Has (L2.KOf KX) mg "is_tie" SL.s_is_tie := by
      delta L2.KOf
      refine' SL.has_mk KX G ?a ?l ?c ?k
      (case a => k_is); (case l => k_is); (case c => k_is); (case k => k_is)
    have H12 : SL.Has (L2.KOf KX) mg "table_of" SL.s_table_of := by
      delta L2.KOf
      refine' SL.has_mk KX G ?a ?l ?c ?k
      (case a => k_is); (case l => k_is); (case c => k_is); (case k => k_is)
    have H13 : SL.Has (L2.KOf KX) mg "is_kept" SL.s_is_kept := by
      delta L2.KOf
      refine' SL.has_mk KX G ?a ?l ?c ?k
      (case a => k_is); (case l => k_is); (case c => k_is); (case k => k_is)
    have H14 : SL.Has (L2.KOf KX) mg "tie_count" SL.s_tie_count := by
      delta L2.KOf
      refine' SL.has_mk KX G ?a ?l ?c ?k
      (case a => k_is); (case l => k_is); (case c => k_is); (case k => k_is)
    have H15 : SL.Has (L2.KOf KX) mg "counted" SL.s_counted := by
      delta L2.KOf
      refine' SL.has_mk KX G ?a ?l ?c ?k
      (case a => k_is); (case l => k_is); (case c => k_is); (case k => k_is)
    have H16 : SL.Has (L2.KOf KX) mg "need_items" SL.s_need_items := by
      delta L2.KOf
      refine' SL.has_mk KX G ?a ?l ?c ?k
      (case a => k_is); (case l => k_is); (case c => k_is); (case k => k_is)
    have H17 : SL.Has (L2.KOf KX) mg "of_frame" SL.s_of_frame := by
      delta L2.KOf
      refine' SL.has_mk KX G ?a ?l ?c ?k
      (case a => k_is); (case l => k_is); (case c => k_is); (case k => k_is)
    have H18 : SL.Has (L2.KOf KX) mg "_law_begun" SL.s__law_begun := by
      delta L2.KOf
      refine' SL.has_mk KX G ?a ?l ?c ?k
      (case a => k_is); (case l => k_is); (case c => k_is); (case k => k_is)
    have H19 : SL.Has (L2.KOf KX) mg "_law_next" SL.s__law_next := by
      delta L2.KOf
      refine' SL.has_mk KX G ?a ?l ?c ?k
      (case a => k_is); (case l => k_is); (case c => k_is); (case k => k_is)
    have H20 : SL.Has (L2.KOf KX) mg "_law_names" SL.s__law_names := by
      delta L2.KOf
      refine' SL.has_mk KX G ?a ?l ?c ?k
      (case a => k_is); (case l => k_is); (case c => k_is); (case k => k_is)
    have H21 : SL.Has (L2.KOf KX) mg "_law_odd" SL.s__law_odd := by
      delta L2.KOf
      refine' SL.has_mk KX G ?a ?l ?c ?k
      (case a => k_is); (case l => k_is); (case c => k_is); (case k => k_is)
    have H22 : SL.Has (L2.KOf KX) mg "_law_bent" SL.s__law_bent := by
      delta L2.KOf
      refine' SL.has_mk KX G ?a ?l ?c ?k
      (case a => k_is); (case l => k_is); (case c => k_is); (case k => k_is)
    have H23 : SL.Has (L2.KOf KX) mg "_law_is_name" SL.s__law_is_name := by
      delta L2.KOf
      refine' SL.has_mk KX G ?a ?l ?c ?k
      (case a => k_is); (case l => k_is); (case c => k_is); (case k => k_is)
    have H24 : SL.Has (L2.KOf KX) mg "_law_less" SL.s__law_less := by
      delta L2.KOf
      refine' SL.has_mk KX G ?a ?l ?c ?k
      (case a => k_is); (case l => k_is); (case c => k_is); (case k => k_is)
    have H25 : SL.Has (L2.KOf KX) mg "_law_lots" SL.s__law_lots := by
      delta L2.KOf
      refine' SL.has_mk KX G ?a ?l ?c ?k
      (case a => k_is); (case l => k_is); (case c => k_is); (case k => k_is)
    have H26 : SL.Has (L2.KOf KX) mg "_law_row" SL.s__law_row := by
      delta L2.KOf
      refine' SL.has_mk KX G ?a ?l ?c ?k
      (case a => k_is); (case l => k_is); (case c => k_is); (case k => k_is)
    have H27 : SL.Has (L2.KOf KX) mg "_law_counted" SL.s__law_counted := by
      delta L2.KOf
      refine' SL.has_mk KX G ?a ?l ?c ?k
      (case a => k_is); (case l => k_is); (case c => k_is); (case k => k_is)
    have H28 : SL.Has (L2.KOf KX) mg "_law_no_ring" SL.s__law_no_ring := by
      delta L2.KOf
      refine' SL.has_mk KX G ?a ?l ?c ?k
      (case a => k_is); (case l => k_is); (case c => k_is); (case k => k_is)
    have H29 : SL.Has (L2.KOf KX) mg "_law_fault" SL.s__law_fault := by
      delta L2.KOf
      refine' SL.has_mk KX G ?a ?l ?c ?k
      (case a => k_is); (case l => k_is); (case c => k_is); (case k => k_is)
    have H30 : SL.Has (L2.KOf KX) mg "_law_told" SL.s__law_told := by
      delta L2.KOf
      refine' SL.has_mk KX G ?a ?l ?c ?k
      (case a => k_is); (case l => k_is); (case c => k_is); (case k => k_is)
    have H31 : SL.Has (L2.KOf KX) mg "law" SL.s_law := by
      delta L2.KOf
      refine' SL.has_mk KX G ?a ?l ?c ?k
      (case a => k_is); (case l => k_is); (case c => k_is); (case k => k_is)
    exact SL.all_ok (h := h) (P := (PySem.Challenge.rw_standlots_k08_whole_frames).prog) hmg T FC BC (by decide +kernel) H1 H2 H3 H4 H5 H6 H7 H8 H9 H10 H11 H12 H13 H14 H15 H16 H17 H18 H19 H20 H21 H22 H23 H24 H25 H26 H27 H28 H29 H30 H31
