import PyProof.Rows.All
import Wide.All
import OpenK.AllK
import Wide.FinOn
import HandS.ForMost
import HandS.Exc
import HandS.TryOnly
import HandS.TryMany
import HandS.ExcOwn
import HandS.ExcInit
import HandS.WordsExc
import HandS.Small
import HandS.IsInst
import HandS.Wide
import HandS.Slots
import HandS.SlotsOwn
import HandS.Zip
import HandS.ExcField
import HandS.ExcIs
import KE.KExcIs
import HandS.TupAny
import HandS.Style
import HandS.Text
import KE.KRevSl
import HandS.TupSets
import KE.GoesMore
import HandS.Iter
import HandS.ExcValue
import HandS.ExcCtx
import HandS.Hot
import PyProof.RangeIter
import HandS.Star
import HandS.RaiseMore
import PyProof.StrOps2
import KE.KDictOf
import KE.KDictCopyH
import HandS.Dict
import HandS.Property
import OpenK.KOps
import PySem.Challenge.RW_ringsquares_k10_whole_painters
set_option Elab.async false
set_option linter.all false
set_option maxRecDepth 100000
set_option maxHeartbeats 4000000
/-! RqA: deep values, their relation to the abstract heap, growth of heaps, expressions. -/
namespace RQ
open PySem PySem.Spec PyProof.Rows L2

/-- a table: numbers by cells -/
abbrev Tab := List ((Int × Int) × Int)
def keyT (x : Int × Int) : List Key := [.inl x.1, .inl x.2]
def kvT (l : Tab) : List (List Key × L2.V) := l.map fun x => (keyT x.1, .int x.2)
inductive D where
  | non | bl (b : Bool) | int (i : Int) | str (x : Str) | tup (xs : List D) | lst (xs : List D) | fil (s p t : D) | raw (v : V) | dct (ks : List Str) (ds : List D) | tbl (l : Tab)

/-! ### the relation -/
section
variable (K : PySem.W.Frag) (C : Addr) (S : Hp)
mutual
def R : D → V → Prop
  | .non, v => v = .non
  | .bl b, v => v = .bl b
  | .int i, v => v = .int i
  | .str x, v => v = .str x
  | .tup ds, v => ∃ a xs, v = .ref a ∧ SqT K S a xs ∧ RL ds xs
  | .lst ds, v => ∃ a xs, v = .ref a ∧ S a = some (.lst xs) ∧ RL ds xs
  | .fil s p t, v => ∃ a dx x y z, v = .ref a ∧ SlX.Slt S a C dx [some x, some z, some y] ∧ R s x ∧ R p y ∧ R t z
  | .raw x, v => v = x
  | .dct ks ds, v => ∃ a kvs, v = .ref a ∧ Rd S a (.dK kvs) ∧ kvs.map (·.1) = ks.map Sum.inr ∧ RL ds (kvs.map (·.2))
  | .tbl l, v => ∃ a, v = .ref a ∧ S a = some (.dT (kvT l))
def RL : List D → List V → Prop
  | [], xs => xs = []
  | d :: ds, xs => ∃ x r, xs = x :: r ∧ R d x ∧ RL ds r
end
end
section
variable {K : PySem.W.Frag} {C : Addr} {S S' H H' : Hp}
theorem Same.seqT {a : Addr} {xs : List V} (e : Same H H') (h : SqT K H a xs) : SqT K H' a xs := by
  rcases h with (h | ⟨o, h⟩) | h
  · exact .inl (.inl (e _ _ h))
  · exact .inl (.inr ⟨o, e _ _ h⟩)
  · exact .inr h
theorem Same.rd {a : Addr} {u : HO} (e : Same H H') (h : Rd H a u) : Rd H' a u := by
  rcases h with h | ⟨o, h⟩
  · exact .inl (e _ _ h)
  · exact .inr ⟨o, e _ _ h⟩
theorem Same.slt {a C dx : Addr} {vs : List (Option V)} (e : Same H H') (h : SlX.Slt H a C dx vs) : SlX.Slt H' a C dx vs := by
  rcases h with ⟨h, q⟩ | ⟨h, q⟩
  · exact .inl ⟨e _ _ h, q⟩
  · exact .inr ⟨e _ _ h, e _ _ q⟩
mutual
theorem R.mono (e : Same S S') : ∀ {d : D} {v : V}, R K C S d v → R K C S' d v
  | .non, v, h => by simp only [R] at h ⊢; exact h
  | .bl b, v, h => by simp only [R] at h ⊢; exact h
  | .int i, v, h => by simp only [R] at h ⊢; exact h
  | .str x, v, h => by simp only [R] at h ⊢; exact h
  | .raw x, v, h => by simp only [R] at h ⊢; exact h
  | .dct ks ds, v, h => by
    simp only [R] at h ⊢
    obtain ⟨a, kvs, e1, e2, e3, e4⟩ := h
    exact ⟨a, kvs, e1, Same.rd e e2, e3, RL.mono e e4⟩
  | .tbl l, v, h => by
    simp only [R] at h ⊢
    obtain ⟨a, e1, e2⟩ := h
    exact ⟨a, e1, e _ _ e2⟩
  | .tup ds, v, h => by
    simp only [R] at h ⊢
    obtain ⟨a, xs, e1, e2, e3⟩ := h
    exact ⟨a, xs, e1, Same.seqT e e2, RL.mono e e3⟩
  | .lst ds, v, h => by
    simp only [R] at h ⊢
    obtain ⟨a, xs, e1, e2, e3⟩ := h
    exact ⟨a, xs, e1, e _ _ e2, RL.mono e e3⟩
  | .fil s p t, v, h => by
    simp only [R] at h ⊢
    obtain ⟨a, dx, x, y, z, e1, e2, e3, e4, e5⟩ := h
    exact ⟨a, dx, x, y, z, e1, Same.slt e e2, R.mono e e3, R.mono e e4, R.mono e e5⟩
theorem RL.mono (e : Same S S') : ∀ {ds : List D} {xs : List V}, RL K C S ds xs → RL K C S' ds xs
  | [], xs, h => by simp only [RL] at h ⊢; exact h
  | d :: ds, xs, h => by
    simp only [RL] at h ⊢
    obtain ⟨x, r, e1, e2, e3⟩ := h
    exact ⟨x, r, e1, R.mono e e2, RL.mono e e3⟩
end
theorem R.non_iff {v : V} : R K C S .non v ↔ v = .non := by simp only [R]
theorem R.bl_iff {b : Bool} {v : V} : R K C S (.bl b) v ↔ v = .bl b := by simp only [R]
theorem R.int_iff {i : Int} {v : V} : R K C S (.int i) v ↔ v = .int i := by simp only [R]
theorem R.str_iff {i : Str} {v : V} : R K C S (.str i) v ↔ v = .str i := by simp only [R]
theorem R.raw_iff {i : V} {v : V} : R K C S (.raw i) v ↔ v = i := by simp only [R]
theorem R.tup_iff {ds : List D} {v : V} : R K C S (.tup ds) v ↔ ∃ a xs, v = .ref a ∧ SqT K S a xs ∧ RL K C S ds xs := by simp only [R]
theorem R.dct_iff {ks : List Str} {ds : List D} {v : V} : R K C S (.dct ks ds) v ↔ ∃ a kvs, v = .ref a ∧ Rd S a (.dK kvs) ∧ kvs.map (·.1) = ks.map Sum.inr ∧ RL K C S ds (kvs.map (·.2)) := by simp only [R]
theorem R.tbl_iff {l : Tab} {v : V} : R K C S (.tbl l) v ↔ ∃ a, v = .ref a ∧ S a = some (.dT (kvT l)) := by simp only [R]
theorem R.lst_at {ds : List D} {v : V} : R K C S (.lst ds) v ↔ ∃ a xs, v = .ref a ∧ S a = some (.lst xs) ∧ RL K C S ds xs := by simp only [R]
theorem R.lstL {ds : List D} {v : V} (h : R K C S (.lst ds) v) : ∃ a xs, v = .ref a ∧ SqL K S a xs ∧ RL K C S ds xs := by
  obtain ⟨a, xs, e1, e2, e3⟩ := R.lst_at.mp h
  exact ⟨a, xs, e1, SqL.of e2, e3⟩
theorem R.fil_iff {s p t : D} {v : V} : R K C S (.fil s p t) v ↔ ∃ a dx x y z, v = .ref a ∧ SlX.Slt S a C dx [some x, some z, some y] ∧ R K C S s x ∧ R K C S p y ∧ R K C S t z := by simp only [R]
theorem RL.nil_iff {xs : List V} : RL K C S [] xs ↔ xs = [] := by simp only [RL]
theorem RL.cons_iff {d : D} {ds : List D} {xs : List V} : RL K C S (d :: ds) xs ↔ ∃ x r, xs = x :: r ∧ R K C S d x ∧ RL K C S ds r := by simp only [RL]
theorem RL.nil : RL K C S [] [] := RL.nil_iff.mpr rfl
theorem RL.cons {d : D} {ds : List D} {x : V} {xs : List V} (h : R K C S d x) (t : RL K C S ds xs) : RL K C S (d :: ds) (x :: xs) := RL.cons_iff.mpr ⟨x, xs, rfl, h, t⟩
theorem RL.length : ∀ {ds : List D} {xs : List V}, RL K C S ds xs → xs.length = ds.length
  | [], xs, h => by rw [RL.nil_iff] at h; subst h; rfl
  | d :: ds, xs, h => by
    obtain ⟨x, r, e, _, t⟩ := RL.cons_iff.mp h
    subst e
    show r.length + 1 = ds.length + 1
    rw [RL.length t]
theorem RL.get : ∀ {ds : List D} {xs : List V} {i : Nat} {d : D}, RL K C S ds xs → ds[i]? = some d → ∃ x, xs[i]? = some x ∧ R K C S d x
  | [], _, _, _, _, e => by simp at e
  | d :: ds, xs, 0, d', h, e => by
    obtain ⟨x, r, e1, h1, t⟩ := RL.cons_iff.mp h
    subst e1
    have e2 : d = d' := by simpa using e
    subst e2
    exact ⟨x, rfl, h1⟩
  | d :: ds, xs, i + 1, d', h, e => by
    obtain ⟨x, r, e1, h1, t⟩ := RL.cons_iff.mp h
    subst e1
    obtain ⟨y, h2, h3⟩ := RL.get (i := i) (d := d') t (by simpa using e)
    exact ⟨y, by simpa using h2, h3⟩
theorem RL.get' : ∀ {ds : List D} {xs : List V} {i : Nat} {x : V}, RL K C S ds xs → xs[i]? = some x → ∃ d, ds[i]? = some d ∧ R K C S d x
  | [], xs, _, _, h, e => by rw [RL.nil_iff] at h; subst h; simp at e
  | d :: ds, xs, 0, x', h, e => by
    obtain ⟨x, r, e1, h1, t⟩ := RL.cons_iff.mp h
    subst e1
    have e2 : x = x' := by simpa using e
    subst e2
    exact ⟨d, rfl, h1⟩
  | d :: ds, xs, i + 1, x', h, e => by
    obtain ⟨x, r, e1, h1, t⟩ := RL.cons_iff.mp h
    subst e1
    obtain ⟨y, h2, h3⟩ := RL.get' (i := i) (x := x') t (by simpa using e)
    exact ⟨y, by simpa using h2, h3⟩
theorem RL.append : ∀ {ds es : List D} {xs ys : List V}, RL K C S ds xs → RL K C S es ys → RL K C S (ds ++ es) (xs ++ ys)
  | [], es, xs, ys, h, g => by rw [RL.nil_iff] at h; subst h; exact g
  | d :: ds, es, xs, ys, h, g => by
    obtain ⟨x, r, e1, h1, t⟩ := RL.cons_iff.mp h
    subst e1
    exact RL.cons h1 (RL.append t g)
theorem RL.snoc {ds : List D} {xs : List V} {d : D} {x : V} (h : RL K C S ds xs) (g : R K C S d x) : RL K C S (ds ++ [d]) (xs ++ [x]) := RL.append h (RL.cons g RL.nil)
theorem RL.take : ∀ {ds : List D} {xs : List V} (n : Nat), RL K C S ds xs → RL K C S (ds.take n) (xs.take n)
  | _, _, 0, _ => RL.nil
  | [], xs, _ + 1, h => by rw [RL.nil_iff] at h; subst h; exact RL.nil
  | d :: ds, xs, n + 1, h => by
    obtain ⟨x, r, e1, h1, t⟩ := RL.cons_iff.mp h
    subst e1
    exact RL.cons h1 (RL.take n t)
theorem RL.drop : ∀ {ds : List D} {xs : List V} (n : Nat), RL K C S ds xs → RL K C S (ds.drop n) (xs.drop n)
  | _, _, 0, h => h
  | [], xs, _ + 1, h => by rw [RL.nil_iff] at h; subst h; exact RL.nil
  | d :: ds, xs, n + 1, h => by
    obtain ⟨x, r, e1, h1, t⟩ := RL.cons_iff.mp h
    subst e1
    exact RL.drop n t
theorem RL.set {d : D} {x : V} (g : R K C S d x) : ∀ {ds : List D} {xs : List V} (i : Nat), RL K C S ds xs → RL K C S (ds.set i d) (xs.set i x)
  | [], xs, i, h => by rw [RL.nil_iff] at h; subst h; exact RL.nil
  | d' :: ds, xs, 0, h => by
    obtain ⟨y, r, e1, h1, t⟩ := RL.cons_iff.mp h
    subst e1
    exact RL.cons g t
  | d' :: ds, xs, i + 1, h => by
    obtain ⟨y, r, e1, h1, t⟩ := RL.cons_iff.mp h
    subst e1
    exact RL.cons h1 (RL.set g i t)
theorem RL.reverse : ∀ {ds : List D} {xs : List V}, RL K C S ds xs → RL K C S ds.reverse xs.reverse
  | [], xs, h => by rw [RL.nil_iff] at h; subst h; exact RL.nil
  | d' :: ds, xs, h => by
    obtain ⟨y, r, e1, h1, t⟩ := RL.cons_iff.mp h
    subst e1
    rw [List.reverse_cons, List.reverse_cons]
    exact RL.snoc (RL.reverse t) h1
theorem RL.ints : ∀ (ns : List Int), RL K C S (ns.map D.int) (ns.map V.int)
  | [] => RL.nil
  | n :: ns => RL.cons (R.int_iff.mpr rfl) (RL.ints ns)
theorem RL.of_ints : ∀ {ns : List Int} {xs : List V}, RL K C S (ns.map D.int) xs → xs = ns.map V.int
  | [], xs, h => RL.nil_iff.mp h
  | n :: ns, xs, h => by
    obtain ⟨y, r, e1, h1, t⟩ := RL.cons_iff.mp (show RL K C S (D.int n :: ns.map D.int) xs from h)
    rw [R.int_iff] at h1
    subst e1 h1
    rw [RL.of_ints t]; rfl
theorem RL.of_strs : ∀ {ns : List Str} {xs : List V}, RL K C S (ns.map D.str) xs → xs = ns.map V.str
  | [], xs, h => RL.nil_iff.mp h
  | n :: ns, xs, h => by
    obtain ⟨y, r, e1, h1, t⟩ := RL.cons_iff.mp (show RL K C S (D.str n :: ns.map D.str) xs from h)
    rw [R.str_iff] at h1
    subst e1 h1
    rw [RL.of_strs t]; rfl
theorem RL.of_bls : ∀ {ns : List Bool} {xs : List V}, RL K C S (ns.map D.bl) xs → xs = ns.map V.bl
  | [], xs, h => RL.nil_iff.mp h
  | n :: ns, xs, h => by
    obtain ⟨y, r, e1, h1, t⟩ := RL.cons_iff.mp (show RL K C S (D.bl n :: ns.map D.bl) xs from h)
    rw [R.bl_iff] at h1
    subst e1 h1
    rw [RL.of_bls t]; rfl
theorem RL.strs : ∀ (ns : List Str), RL K C S (ns.map D.str) (ns.map V.str)
  | [] => RL.nil
  | n :: ns => RL.cons (R.str_iff.mpr rfl) (RL.strs ns)
theorem R.mkT {a : Addr} {ds : List D} {xs : List V} (h : S a = some (.tup xs)) (r : RL K C S ds xs) : R K C S (.tup ds) (.ref a) := R.tup_iff.mpr ⟨a, xs, rfl, SqT.of h, r⟩
theorem R.mkL {a : Addr} {ds : List D} {xs : List V} (h : S a = some (.lst xs)) (r : RL K C S ds xs) : R K C S (.lst ds) (.ref a) := R.lst_at.mpr ⟨a, xs, rfl, h, r⟩
end

/-! ### growth: S the part that stands, H the heap; M the places that may be changed -/
structure Gr (M : Addr → Prop) (S H S' H' : Hp) : Prop where
  s : Same S S'
  sub : Same S' H'
  h : ∀ p o, ¬ M p → H p = some o → H' p = some o
  m : ∀ p o, H p = some o → ∃ o', H' p = some o'
  n : ∀ p o, H p = some o → S p = none → S' p = none
abbrev M0 : Addr → Prop := fun _ => False
section
variable {M M' : Addr → Prop} {S H S1 H1 S2 H2 : Hp}
theorem Gr.refl (e : Same S H) : Gr M S H S H := ⟨.refl S, e, fun _ _ _ h => h, fun _ o h => ⟨o, h⟩, fun _ _ _ h => h⟩
theorem Gr.trans (a : Gr M S H S1 H1) (b : Gr M S1 H1 S2 H2) : Gr M S H S2 H2 where
  s := a.s.trans b.s
  sub := b.sub
  h := fun p o n e => b.h p o n (a.h p o n e)
  m := fun p o e => by
    obtain ⟨o', e'⟩ := a.m p o e
    exact b.m p o' e'
  n := fun p o e n => by
    obtain ⟨o', e'⟩ := a.m p o e
    exact b.n p o' e' (a.n p o e n)
theorem Gr.up (a : Gr M S H S1 H1) (h : ∀ p, M p → M' p) : Gr M' S H S1 H1 := ⟨a.s, a.sub, fun p o n e => a.h p o (fun z => n (h p z)) e, a.m, a.n⟩
theorem Gr.up0 (a : Gr M0 S H S1 H1) : Gr M S H S1 H1 := a.up fun _ z => z.elim
theorem Gr.same (a : Gr M0 S H S1 H1) : Same H H1 := fun p o e => a.h p o (fun z => z) e
/-- a new object, standing -/
theorem Gr.new {p : Addr} {o : HO} (e : Same S H) (h : H p = none) : Gr M S H (upd S p o) (upd H p o) := by
  have hs : S p = none := by
    cases q : S p with
    | none => rfl
    | some u => rw [e p u q] at h; cases h
  refine ⟨fun b u q => by rw [upd_ne (ne_of_none q hs)]; exact q, fun b u q => ?_, fun b u _ q => by rw [upd_ne (ne_of_none q h)]; exact q, fun b u q => ⟨u, by rw [upd_ne (ne_of_none q h)]; exact q⟩, fun b u q n => by rw [upd_ne (ne_of_none q h)]; exact n⟩
  by_cases hb : b = p
  · subst hb; rw [upd_same] at q ⊢; exact q
  · rw [upd_ne hb] at q ⊢; exact e b u q
/-- a new object, one's own -/
theorem Gr.mine {p : Addr} {o : HO} (e : Same S H) (h : H p = none) : Gr M S H S (upd H p o) :=
  ⟨.refl S, fun b u q => by rw [upd_ne (ne_of_none (e b u q) h)]; exact e b u q, fun b u _ q => by rw [upd_ne (ne_of_none q h)]; exact q, fun b u q => ⟨u, by rw [upd_ne (ne_of_none q h)]; exact q⟩, fun _ _ _ n => n⟩
theorem Gr.sube (a : Gr M S H S1 H1) : Same S H1 := a.s.trans a.sub
end

structure Vo where
  M : Addr → Prop
  J : Hp → Hp → Prop
  th : ∀ S H p, J S H → M p → (∃ o, H p = some o) ∧ S p = none
  st : ∀ S H S' H', J S H → Same S S' → Same S' H' → (∀ p, M p → H' p = H p) → (∀ p, M p → S' p = none) → J S' H'
/-- nothing that changes -/
def V0 : Vo := ⟨M0, fun _ _ => True, fun _ _ _ _ h => h.elim, fun _ _ _ _ _ _ _ _ _ => trivial⟩
theorem Vo.gr0 (V : Vo) {S H S' H' : Hp} (g : Gr M0 S H S' H') (j : V.J S H) : V.J S' H' := V.st S H S' H' j g.s g.sub (fun p m => by
  obtain ⟨⟨o, e⟩, _⟩ := V.th S H p j m
  rw [e]
  exact g.h p o (fun z => z) e) (fun p m => by
  obtain ⟨⟨o, e⟩, n⟩ := V.th S H p j m
  exact g.n p o e n)
/-- one's own object changes: it is new since H -/
theorem Gr.mut {M : Addr → Prop} {S H S' H' : Hp} {L : Addr} {o : HO} (g : Gr M S H S' H') (hs : S' L = none) (hn : H L = none) : Gr M S H S' (upd H' L o) where
  s := g.s
  sub := fun p u e => by rw [upd_ne (ne_of_none e hs)]; exact g.sub p u e
  h := fun p u n e => by rw [upd_ne (ne_of_none e hn)]; exact g.h p u n e
  m := fun p u e => by rw [upd_ne (ne_of_none e hn)]; exact g.m p u e
  n := g.n
/-- one's own object is let stand -/
theorem Gr.rel {M : Addr → Prop} {S H S' H' : Hp} {L : Addr} {o : HO} (g : Gr M S H S' H') (hs : S' L = none) (hn : H L = none) (hL : H' L = some o) : Gr M S H (upd S' L o) H' where
  s := fun p u e => by
    rw [upd_ne (ne_of_none (g.s p u e) hs)]; exact g.s p u e
  sub := fun p u e => by
    by_cases hp : p = L
    · subst hp; rw [upd_same] at e; rw [← e]; exact hL
    · rw [upd_ne hp] at e; exact g.sub p u e
  h := g.h
  m := g.m
  n := fun p u e z => by rw [upd_ne (ne_of_none e hn)]; exact g.n p u e z
theorem Vo.mut (V : Vo) {S H : Hp} {L : Addr} {o : HO} (hm : ¬ V.M L) (hs : S L = none) (e : Same S H) (j : V.J S H) : V.J S (upd H L o) := V.st S H S _ j (.refl S) (fun p u q => by rw [upd_ne (ne_of_none q hs)]; exact e p u q)
  (fun p m => upd_ne (fun z => hm (by rw [← z]; exact m))) fun p m => (V.th S H p j m).2
theorem Vo.rel (V : Vo) {S H : Hp} {L : Addr} {o : HO} (hm : ¬ V.M L) (hs : S L = none) (hL : H L = some o) (e : Same S H) (j : V.J S H) : V.J (upd S L o) H := V.st S H _ H j (fun p u q => by rw [upd_ne (ne_of_none q hs)]; exact q) (fun p u q => by
    by_cases hp : p = L
    · subst hp; rw [upd_same] at q; rw [← q]; exact hL
    · rw [upd_ne hp] at q; exact e p u q) (fun p m => rfl) fun p m => by
  rw [upd_ne (fun z => hm (by rw [← z]; exact m))]
  exact (V.th S H p j m).2
theorem Vo.new (V : Vo) {S H : Hp} {L : Addr} (hL : H L = none) (j : V.J S H) : ¬ V.M L := fun m => by
  obtain ⟨⟨o, e⟩, _⟩ := V.th S H L j m
  rw [e] at hL; cases hL

/-! ### the slots -/
inductive En where | un | d (x : D)
def EnR (K : PySem.W.Frag) (C : Addr) (S : Hp) : Option V → En → Prop
  | _, .un => True
  | o, .d x => ∃ v, o = some v ∧ R K C S x v
def RS (K : PySem.W.Frag) (C : Addr) (S : Hp) : L2.St → List En → Prop
  | [], env => env = []
  | o :: σ, env => ∃ e r, env = e :: r ∧ EnR K C S o e ∧ RS K C S σ r
section
variable {K : PySem.W.Frag} {C : Addr} {S S' H H' : Hp}
theorem EnR.mono (h : Same S S') : ∀ {o : Option V} {e : En}, EnR K C S o e → EnR K C S' o e
  | _, .un, _ => True.intro
  | _, .d _, ⟨v, e, r⟩ => ⟨v, e, r.mono h⟩
theorem RS.mono (h : Same S S') : ∀ {σ : L2.St} {env : List En}, RS K C S σ env → RS K C S' σ env
  | [], _, q => q
  | _ :: _, _, ⟨e, r, q, a, b⟩ => ⟨e, r, q, a.mono h, RS.mono h b⟩
theorem RS.length : ∀ {σ : L2.St} {env : List En}, RS K C S σ env → env.length = σ.length
  | [], _, q => by cases q; rfl
  | _ :: _, _, ⟨e, r, q, a, b⟩ => by subst q; simp only [List.length_cons, RS.length b]
theorem RS.get : ∀ {σ : L2.St} {env : List En} {i : Nat} {e : En}, RS K C S σ env → env[i]? = some e → ∃ o, σ[i]? = some o ∧ EnR K C S o e
  | [], _, i, _, q, h => by cases q; simp at h
  | o :: _, _, 0, e', ⟨e, r, q, a, b⟩, h => by
    subst q
    have e2 : e = e' := by simpa using h
    subst e2
    exact ⟨o, rfl, a⟩
  | o :: _, _, i + 1, e', ⟨e, r, q, a, b⟩, h => by
    subst q
    obtain ⟨o', h1, h2⟩ := RS.get (i := i) b (by simpa using h)
    exact ⟨o', by simpa using h1, h2⟩
theorem RS.getD {σ : L2.St} {env : List En} {i : Nat} {x : D} (h : RS K C S σ env) (e : env[i]? = some (.d x)) : ∃ v, σ[i]? = some (some v) ∧ R K C S x v := by
  obtain ⟨o, h1, v, h2, h3⟩ := h.get e
  exact ⟨v, by rw [h1, h2], h3⟩
theorem RS.set {o : Option V} {e : En} (q : EnR K C S o e) : ∀ {σ : L2.St} {env : List En} (i : Nat), RS K C S σ env → RS K C S (σ.set i o) (env.set i e)
  | [], _, _, h => by cases h; rfl
  | _ :: _, _, 0, ⟨e', r, z, a, b⟩ => by subst z; exact ⟨e, r, rfl, q, b⟩
  | _ :: _, _, i + 1, ⟨e', r, z, a, b⟩ => by subst z; exact ⟨e', _, rfl, a, RS.set q i b⟩
theorem RS.setD {σ : L2.St} {env : List En} {x : D} {v : V} (h : RS K C S σ env) (i : Nat) (r : R K C S x v) : RS K C S (σ.set i (some v)) (env.set i (.d x)) := RS.set (o := some v) (e := .d x) ⟨v, rfl, r⟩ i h
def wipeE (env : List En) : List Nat → List En
  | [] => env
  | v :: vs => (wipeE env vs).set v .un
theorem RS.wipe {σ : L2.St} {env : List En} (h : RS K C S σ env) : ∀ vs : List Nat, RS K C S (L2.wipe σ vs) (wipeE env vs)
  | [] => h
  | v :: vs => RS.set (o := none) (e := .un) True.intro v (RS.wipe h vs)
theorem RS.start {ds : List D} {vs : List V} : ∀ (n : Nat), RL K C S ds vs → RS K C S (vs.map some ++ List.replicate n none) (ds.map En.d ++ List.replicate n En.un) := by
  intro n
  induction ds generalizing vs with
  | nil =>
    intro h
    rw [RL.nil_iff] at h
    subst h
    show RS K C S (List.replicate n none) (List.replicate n En.un)
    induction n with
    | zero => rfl
    | succ n ih => exact ⟨.un, List.replicate n .un, rfl, True.intro, ih⟩
  | cons d ds ih =>
    intro h
    obtain ⟨x, r, e, h1, h2⟩ := RL.cons_iff.mp h
    subst e
    exact ⟨.d d, _, rfl, ⟨x, rfl, h1⟩, ih h2⟩
end
structure Ok (K : PySem.W.Frag) (C : Addr) (V : Vo) (S H : Hp) (σ : L2.St) (env : List En) : Prop where
  sub : Same S H
  j : V.J S H
  rs : RS K C S σ env
theorem Ok.gr {K : PySem.W.Frag} {C : Addr} {V : Vo} {S H S' H' : Hp} {σ : L2.St} {env : List En} (h : Ok K C V S H σ env) (g : Gr V.M S H S' H') (j : V.J S' H') : Ok K C V S' H' σ env := ⟨g.sub, j, h.rs.mono g.s⟩
theorem Ok.gr0 {K : PySem.W.Frag} {C : Addr} {V : Vo} {S H S' H' : Hp} {σ : L2.St} {env : List En} (h : Ok K C V S H σ env) (g : Gr M0 S H S' H') : Ok K C V S' H' σ env := ⟨g.sub, V.gr0 g h.j, h.rs.mono g.s⟩

/-! ### expressions -/
section
variable (K : PySem.W.Frag) (C : Addr) (V : Vo) (env : List En)
def tJ (Φ : D → Prop) : TE := fun σ H Q => ∃ S, Ok K C V S H σ env ∧ ∀ d v S' H', Φ d → Gr V.M S H S' H' → V.J S' H' → R K C S' d v → Q v H'
def tJT (Φ : Bool → Prop) : TT := fun σ H Q => ∃ S, Ok K C V S H σ env ∧ ∀ b S' H', Φ b → Gr V.M S H S' H' → V.J S' H' → Q b H'
def tJA (Φ : List D → Prop) : TA := fun σ H Q => ∃ S, Ok K C V S H σ env ∧ ∀ ds vs S' H', Φ ds → Gr V.M S H S' H' → V.J S' H' → RL K C S' ds vs → Q vs H'
end
abbrev JE (X : Cx) (C : Addr) (V : Vo) (env : List En) (e : Expr) (Φ : D → Prop) : Prop := PE X e (tJ X.K C V env Φ)
abbrev JT (X : Cx) (C : Addr) (V : Vo) (env : List En) (e : Expr) (Φ : Bool → Prop) : Prop := PT X e (tJT X.K C V env Φ)
abbrev JW (X : Cx) (C : Addr) (V : Vo) (env : List En) (e : Expr) (Φ : Bool → Prop) : Prop := PW X e (tJT X.K C V env Φ)
abbrev JA (X : Cx) (C : Addr) (V : Vo) (env : List En) (es : List Expr) (Φ : List D → Prop) : Prop := PA X es (tJA X.K C V env Φ)
theorem _root_.L2.PE.weak {X : Cx} {e : Expr} {t t' : TE} (h : PE X e t) (w : ∀ σ H Q, t' σ H Q → t σ H Q) : PE X e t' := ⟨fun pins s σ H Q I q => h.run pins s σ H Q I (w σ H Q q)⟩
theorem _root_.L2.PT.weak {X : Cx} {e : Expr} {t t' : TT} (h : PT X e t) (w : ∀ σ H Q, t' σ H Q → t σ H Q) : PT X e t' := ⟨fun pins s σ H Q I q => h.run pins s σ H Q I (w σ H Q q)⟩
theorem _root_.L2.PW.weak {X : Cx} {e : Expr} {t t' : TT} (h : PW X e t) (w : ∀ σ H Q, t' σ H Q → t σ H Q) : PW X e t' := ⟨fun wh pins s σ H Q I q => h.run wh pins s σ H Q I (w σ H Q q)⟩
theorem _root_.L2.PA.weak {X : Cx} {es : List Expr} {t t' : TA} (h : PA X es t) (w : ∀ σ H Q, t' σ H Q → t σ H Q) : PA X es t' := ⟨fun p pins s σ H Q I q => h.run p pins s σ H Q I (w σ H Q q)⟩
theorem _root_.L2.PS.weak {X : Cx} {e : Stmt} {t t' : TS} (h : PS X e t) (w : ∀ D σ H, t' D σ H → t D σ H) : PS X e t' := ⟨fun pins s σ H D I q => h.run pins s σ H D I (w D σ H q)⟩
theorem _root_.L2.PSs.weak {X : Cx} {e : List Stmt} {t t' : TS} (h : PSs X e t) (w : ∀ D σ H, t' D σ H → t D σ H) : PSs X e t' := ⟨fun pins s σ H D I q => h.run pins s σ H D I (w D σ H q)⟩

section
variable {X : Cx} {C : Addr} {V : Vo} {env : List En} {e a b : Expr} {Φ Ψ Φa Φb : D → Prop} {Θ Θa Θb : Bool → Prop} {pos : Pos} {x y z : D}
theorem JE.imp (h : JE X C V env e Φ) (w : ∀ d, Φ d → Ψ d) : JE X C V env e Ψ := h.weak fun σ H Q ⟨S, o, k⟩ => ⟨S, o, fun d v S' H' p => k d v S' H' (w d p)⟩
theorem JE.to (h : JE X C V env e (· = x)) (w : x = y) : JE X C V env e (· = y) := h.imp fun d p => p.trans w
theorem JT.imp {Θ' : Bool → Prop} (h : JT X C V env e Θ) (w : ∀ d, Θ d → Θ' d) : JT X C V env e Θ' := h.weak fun σ H Q ⟨S, o, k⟩ => ⟨S, o, fun d S' H' p => k d S' H' (w d p)⟩
theorem JT.to {p q : Bool} (h : JT X C V env e (· = p)) (w : p = q) : JT X C V env e (· = q) := h.imp fun d z => z.trans w
theorem je_var {i : Nat} {n : Str} (he : env[i]? = some (.d x)) (h : PE X (.Name n pos) (tVar i)) : JE X C V env (.Name n pos) (· = x) := h.weak fun σ H Q ⟨S, o, k⟩ => by
  obtain ⟨v, h1, h2⟩ := o.rs.getD he
  exact ⟨v, h1, k x v S H rfl (.refl o.sub) o.j h2⟩
/-- a constant -/
theorem je_c {v : L2.V} (hr : ∀ S, R X.K C S x v) (h : PE X e (tC v)) : JE X C V env e (· = x) := h.weak fun σ H Q ⟨S, o, k⟩ => k x v S H rfl (.refl o.sub) o.j (hr S)
theorem je_int {i : Int} {j} : JE X C V env (.Constant (.int i) j pos) (· = .int i) := je_c (fun S => R.int_iff.mpr rfl) pe_int
theorem je_bl {i : Bool} {j} : JE X C V env (.Constant (.bool i) j pos) (· = .bl i) := je_c (fun S => R.bl_iff.mpr rfl) pe_bl
theorem je_non {j} : JE X C V env (.Constant .none j pos) (· = .non) := je_c (fun S => R.non_iff.mpr rfl) pe_non
theorem je_str {i : Str} {j} : JE X C V env (.Constant (.str i) j pos) (· = .str i) := je_c (fun S => R.str_iff.mpr rfl) pe_str
/-- an operation of two values -/
def O2 (K : PySem.W.Frag) (C : Addr) (r : R2) (x y z : D) : Prop := ∀ S H u v, Same S H → R K C S x u → R K C S y v → ∀ Q : VK, (∀ w S' H', Gr M0 S H S' H' → R K C S' z w → Q w H') → r u v H Q
theorem op2 {r : R2} (hd : ∀ x y, Φa x → Φb y → ∃ z, Φ z ∧ O2 X.K C r x y z) : ∀ σ H Q, tJ X.K C V env Φ σ H Q → tOp r (tJ X.K C V env Φa) (tJ X.K C V env Φb) σ H Q := fun σ H Q ⟨S, o, k⟩ =>
  ⟨S, o, fun dx u S1 H1 p1 g1 j1 r1 => ⟨S1, o.gr g1 j1, fun dy v S2 H2 p2 g2 j2 r2 => by
    obtain ⟨dz, pz, hz⟩ := hd dx dy p1 p2
    exact hz S2 H2 u v g2.sub (r1.mono g2.s) r2 Q fun w S3 H3 g3 r3 => k dz w S3 H3 pz ((g1.trans g2).trans g3.up0) (V.gr0 g3 j2) r3⟩⟩
theorem je_op {op : Operator} {r : R2} (ho : OpR X (binaryOp op) r) (ha : JE X C V env a Φa) (hb : JE X C V env b Φb) (hd : ∀ x y, Φa x → Φb y → ∃ z, Φ z ∧ O2 X.K C r x y z) : JE X C V env (.BinOp a op b pos) Φ :=
  (pe_op ho ha hb).weak (op2 hd)
theorem je_cmp {op : CmpOp} {r : R2} (ho : OpR X (compareOp op) r) (ha : JE X C V env a Φa) (hb : JE X C V env b Φb) (hd : ∀ x y, Φa x → Φb y → ∃ z, Φ z ∧ O2 X.K C r x y z) (hm : behindInMarks op b = false) : JE X C V env (.Compare a [op] [b] pos) Φ :=
  (pe_cmpR ho ha hb hm).weak (op2 hd)
theorem jt_cmp {op : CmpOp} {r : R2} (ho : OpR X (compareOp op) r) (ha : JE X C V env a Φa) (hb : JE X C V env b Φb) (hd : ∀ x y, Φa x → Φb y → ∃ c, Θ c ∧ O2 X.K C r x y (.bl c)) (hm : behindInMarks op b = false) : JT X C V env (.Compare a [op] [b] pos) Θ :=
  (pt_cmpR ho ha hb hm).weak fun σ H Q ⟨S, o, k⟩ => by
    refine op2 (Φ := fun d => ∃ c, d = .bl c ∧ Θ c) (V := V) (fun x y p q => ?_) σ H _ ⟨S, o, fun d v S' H' ⟨c, e, p⟩ g j r => ?_⟩
    · obtain ⟨c, h1, h2⟩ := hd x y p q
      exact ⟨.bl c, ⟨c, rfl, h1⟩, h2⟩
    · subst e
      exact ⟨c, R.bl_iff.mp r, k c S' H' p g j⟩
theorem je_ix {r : R2} (hr : IxR X r) (ha : JE X C V env a Φa) (hb : JE X C V env b Φb) (hs : PlainIx b) (hd : ∀ x y, Φa x → Φb y → ∃ z, Φ z ∧ O2 X.K C r x y z) : JE X C V env (.Subscript a b pos) Φ :=
  (pe_ix hr ha hb hs).weak (op2 hd)
/-- a test of a value that is a bool -/
theorem jt_val (h : JE X C V env e (fun d => ∃ c, d = .bl c ∧ Θ c)) (he : ∀ whole, isTrue e X.env whole = (do let v ← whole; standAt e.pos; holding [v] (truthy v)) := by intro _; rfl) : JT X C V env e Θ :=
  (pt_val h he).weak fun σ H Q ⟨S, o, k⟩ => ⟨S, o, fun d v S' H' ⟨c, ec, p⟩ g j r => by
    subst ec
    exact ⟨c, R.bl_iff.mp r, k c S' H' p g j⟩⟩
theorem jt_valE {c : Bool} (h : JE X C V env e (· = .bl c)) (he : ∀ whole, isTrue e X.env whole = (do let v ← whole; standAt e.pos; holding [v] (truthy v)) := by intro _; rfl) : JT X C V env e (· = c) :=
  jt_val (h.imp fun d p => ⟨c, p, rfl⟩) he
theorem jt_not {c : Bool} (h : JT X C V env a (· = c)) : JT X C V env (.UnaryOp .Not a pos) (· = !c) := (pt_not h).weak fun σ H Q ⟨S, o, k⟩ => ⟨S, o, fun b S' H' p g j => k _ S' H' (by rw [p]) g j⟩
theorem jt_notR (h : JT X C V env a Θ) : JT X C V env (.UnaryOp .Not a pos) (fun b => Θ (!b)) := (pt_not h).weak fun σ H Q ⟨S, o, k⟩ => ⟨S, o, fun b S' H' p g j => k _ S' H' (by simpa using p) g j⟩
theorem je_not {c : Bool} (h : JE X C V env a (· = .bl c)) : JE X C V env (.UnaryOp .Not a pos) (· = .bl (!c)) := (pe_not h).weak fun σ H Q ⟨S, o, k⟩ => ⟨S, o, fun b v S' H' p g j r => by
  subst p
  exact ⟨c, R.bl_iff.mp r, k _ _ S' H' rfl g j (R.bl_iff.mpr rfl)⟩⟩
/-- and, or as tests -/
theorem jw_and1 (h : JT X C V env a Θ) : JW X C V env (.BoolOp .And [a] pos) Θ := pw_and1 h
theorem jw_or1 (h : JT X C V env a Θ) : JW X C V env (.BoolOp .Or [a] pos) Θ := pw_or1 h
theorem jw_and {rest : List Expr} {p q : Bool} (ha : JT X C V env a (· = p)) (hb : p = true → JW X C V env (.BoolOp .And (b :: rest) pos) (· = q)) : JW X C V env (.BoolOp .And (a :: b :: rest) pos) (· = (p && q)) := by
  cases p with
  | true => exact (pw_and ha (hb rfl)).weak fun σ H Q ⟨S, o, k⟩ => ⟨S, o, fun c S' H' p g j => by subst p; exact iteT ⟨S', o.gr g j, fun c' S2 H2 p2 g2 j2 => k c' S2 H2 p2 (g.trans g2) j2⟩⟩
  | false =>
    refine ⟨fun wh pins s σ H Q I h => ?_⟩
    refine isTrue_and (thn (ha.run pins s σ H (fun c H1 => c = false ∧ Q false H1) I ?_) fun c s1 ⟨H1, I1, q1⟩ => ?_)
    · obtain ⟨S, o, k⟩ := h
      exact ⟨S, o, fun c S' H' p g j => ⟨p, k false S' H' rfl g j⟩⟩
    · obtain ⟨q0, q1⟩ := q1
      subst q0
      exact ⟨H1, I1, q1⟩
theorem jw_or {rest : List Expr} {p q : Bool} (ha : JT X C V env a (· = p)) (hb : p = false → JW X C V env (.BoolOp .Or (b :: rest) pos) (· = q)) : JW X C V env (.BoolOp .Or (a :: b :: rest) pos) (· = (p || q)) := by
  cases p with
  | false => exact (pw_or ha (hb rfl)).weak fun σ H Q ⟨S, o, k⟩ => ⟨S, o, fun c S' H' p g j => by subst p; exact iteF ⟨S', o.gr g j, fun c' S2 H2 p2 g2 j2 => k c' S2 H2 p2 (g.trans g2) j2⟩⟩
  | true =>
    refine ⟨fun wh pins s σ H Q I h => ?_⟩
    refine isTrue_or (thn (ha.run pins s σ H (fun c H1 => c = true ∧ Q true H1) I ?_) fun c s1 ⟨H1, I1, q1⟩ => ?_)
    · obtain ⟨S, o, k⟩ := h
      exact ⟨S, o, fun c S' H' p g j => ⟨p, k true S' H' rfl g j⟩⟩
    · obtain ⟨q0, q1⟩ := q1
      subst q0
      exact ⟨H1, I1, q1⟩
theorem jt_w (h : JW X C V env e Θ) : JT X C V env e Θ := h.pt
/-- .. as values, all of them bools -/
theorem je_one {op} (h : JE X C V env a Φ) : JE X C V env (.BoolOp op [a] pos) Φ := pe_one h
theorem je_and {rest : List Expr} {p q : Bool} (ha : JE X C V env a (· = .bl p)) (hb : p = true → JE X C V env (.BoolOp .And (b :: rest) pos) (· = .bl q)) : JE X C V env (.BoolOp .And (a :: b :: rest) pos) (· = .bl (p && q)) := by
  cases p with
  | true => exact (pe_and ha (hb rfl)).weak fun σ H Q ⟨S, o, k⟩ => ⟨S, o, fun c v S' H' p g j r => by
      subst p
      exact ⟨true, R.bl_iff.mp r, iteT ⟨S', o.gr g j, fun c' v S2 H2 p2 g2 j2 r2 => k c' v S2 H2 p2 (g.trans g2) j2 r2⟩⟩⟩
  | false =>
    refine ⟨fun pins s σ H Q I h => ?_⟩
    refine BoolOp_and (thn (ha.run pins s σ H (fun v H1 => v = .bl false ∧ Q (.bl false) H1) I ?_) fun v s1 ⟨x, H1, I1, r1, q1⟩ => ?_)
    · obtain ⟨S, o, k⟩ := h
      exact ⟨S, o, fun c v S' H' p g j r => by
        subst p
        have r' := R.bl_iff.mp r
        subst r'
        exact ⟨rfl, k _ _ S' H' rfl g j r⟩⟩
    · obtain ⟨q0, q1⟩ := q1
      subst q0
      cases r1
      exact wpAny_truthy_bool ⟨.bl false, H1, I1, rfl, q1⟩
theorem je_or {rest : List Expr} {p q : Bool} (ha : JE X C V env a (· = .bl p)) (hb : p = false → JE X C V env (.BoolOp .Or (b :: rest) pos) (· = .bl q)) : JE X C V env (.BoolOp .Or (a :: b :: rest) pos) (· = .bl (p || q)) := by
  cases p with
  | false => exact (pe_or ha (hb rfl)).weak fun σ H Q ⟨S, o, k⟩ => ⟨S, o, fun c v S' H' p g j r => by
      subst p
      exact ⟨false, R.bl_iff.mp r, iteF ⟨S', o.gr g j, fun c' v S2 H2 p2 g2 j2 r2 => k c' v S2 H2 p2 (g.trans g2) j2 r2⟩⟩⟩
  | true =>
    refine ⟨fun pins s σ H Q I h => ?_⟩
    refine BoolOp_or (thn (ha.run pins s σ H (fun v H1 => v = .bl true ∧ Q (.bl true) H1) I ?_) fun v s1 ⟨x, H1, I1, r1, q1⟩ => ?_)
    · obtain ⟨S, o, k⟩ := h
      exact ⟨S, o, fun c v S' H' p g j r => by
        subst p
        have r' := R.bl_iff.mp r
        subst r'
        exact ⟨rfl, k _ _ S' H' rfl g j r⟩⟩
    · obtain ⟨q0, q1⟩ := q1
      subst q0
      cases r1
      exact wpAny_truthy_bool ⟨.bl true, H1, I1, rfl, q1⟩
/-- a if t else b -/
theorem je_if {c : Expr} (hc : JT X C V env c Θ) (ha : (∃ h, Θ h ∧ h = true) → JE X C V env a Φ) (hb : (∃ h, Θ h ∧ h = false) → JE X C V env b Φ) : JE X C V env (.IfExp c a b pos) Φ := by
  refine ⟨fun pins s σ H Q I h => ?_⟩
  obtain ⟨S, o, k⟩ := h
  refine wpAny_IfExp (thn (hc.run pins s σ H (fun c H1 => Θ c ∧ tJ X.K C V env Φ σ H1 Q) I ⟨S, o, fun c S' H' p g j => ⟨p, S', o.gr g j, fun d v S2 H2 p2 g2 j2 r2 => k d v S2 H2 p2 (g.trans g2) j2 r2⟩⟩) fun d s1 ⟨H1, I1, q1⟩ => ?_)
  obtain ⟨q0, q1⟩ := q1
  cases d with
  | true => exact (ha ⟨_, q0, rfl⟩).run pins s1 σ H1 Q I1 q1
  | false => exact (hb ⟨_, q0, rfl⟩).run pins s1 σ H1 Q I1 q1
theorem je_ifE {c : Expr} {p : Bool} (hc : JT X C V env c (· = p)) (ha : p = true → JE X C V env a (· = x)) (hb : p = false → JE X C V env b (· = y)) : JE X C V env (.IfExp c a b pos) (· = if p then x else y) := by
  refine je_if hc (fun ⟨h, e1, e2⟩ => ?_) (fun ⟨h, e1, e2⟩ => ?_)
  · have e : p = true := e1.symm.trans e2
    subst e
    exact ha rfl
  · have e : p = false := e1.symm.trans e2
    subst e
    exact hb rfl
/-! arguments -/
theorem ja_nil : JA X C V env [] (· = []) := pa_nil.weak fun σ H Q ⟨S, o, k⟩ => k [] [] S H rfl (.refl o.sub) o.j RL.nil
theorem ja_consR {es : List Expr} {Φs : List D → Prop} (ha : JE X C V env e Φ) (hr : JA X C V env es Φs) (hs : starEach (e :: es) X.env = (false, eval e X.env) :: starEach es X.env := by rfl) : JA X C V env (e :: es) (fun l => ∃ d ds, l = d :: ds ∧ Φ d ∧ Φs ds) :=
  (pa_cons ha hr hs).weak fun σ H Q ⟨S, o, k⟩ => ⟨S, o, fun d v S1 H1 p1 g1 j1 r1 => ⟨S1, o.gr g1 j1, fun ds vs S2 H2 p2 g2 j2 r2 => k (d :: ds) (v :: vs) S2 H2 ⟨d, ds, rfl, p1, p2⟩ (g1.trans g2) j2 (RL.cons (r1.mono g2.s) r2)⟩⟩
theorem ja_cons {es : List Expr} {xs : List D} (ha : JE X C V env e (· = x)) (hr : JA X C V env es (· = xs)) (hs : starEach (e :: es) X.env = (false, eval e X.env) :: starEach es X.env := by rfl) : JA X C V env (e :: es) (· = x :: xs) :=
  (ja_consR ha hr hs).weak fun σ H Q ⟨S, o, k⟩ => ⟨S, o, fun ds vs S' H' p g j r => k ds vs S' H' (by obtain ⟨d, ds', e, e1, e2⟩ := p; rw [e, e1, e2]) g j r⟩
theorem JA.imp {es : List Expr} {Φs Ψs : List D → Prop} (h : JA X C V env es Φs) (w : ∀ d, Φs d → Ψs d) : JA X C V env es Ψs := h.weak fun σ H Q ⟨S, o, k⟩ => ⟨S, o, fun d v S' H' p => k d v S' H' (w d p)⟩
theorem small {n : Nat} (h : n ≤ 1000000) : n ≤ sizeLine := Nat.le_trans h (by rw [sizeLine_eq]; decide)
theorem je_tupR {es : List Expr} {Φs : List D → Prop} {k} (h : JA X C V env es Φs) (hz : ∀ ds, Φs ds → ds.length ≤ 1000000 ∧ Φ (.tup ds)) : JE X C V env (.Tuple es k pos) Φ :=
  (pe_tup h).weak fun σ H Q ⟨S, o, k⟩ => ⟨S, o, fun ds vs S' H' p g j r => ⟨by rw [r.length]; exact small (hz ds p).1, fun q hq => by
    have g2 : Gr M0 S' H' (upd S' q (.tup vs)) (upd H' q (.tup vs)) := .new g.sub hq
    exact k (.tup ds) (.ref q) _ _ (hz ds p).2 (g.trans g2.up0) (V.gr0 g2 j) (R.mkT upd_same (r.mono g2.s))⟩⟩
theorem je_tup {es : List Expr} {xs : List D} {k} (h : JA X C V env es (· = xs)) (hz : xs.length ≤ 1000000 := by exact Nat.le_of_ble_eq_true rfl) : JE X C V env (.Tuple es k pos) (· = .tup xs) := je_tupR h fun ds e => by subst e; exact ⟨hz, rfl⟩
theorem je_lstR {es : List Expr} {Φs : List D → Prop} (h : JA X C V env es Φs) (hz : ∀ ds, Φs ds → ds.length ≤ 1000000 ∧ Φ (.lst ds)) : JE X C V env (.List es pos) Φ :=
  (pe_lst h).weak fun σ H Q ⟨S, o, k⟩ => ⟨S, o, fun ds vs S' H' p g j r => ⟨by rw [r.length]; exact small (hz ds p).1, fun q hq => by
    have g2 : Gr M0 S' H' (upd S' q (.lst vs)) (upd H' q (.lst vs)) := .new g.sub hq
    exact k (.lst ds) (.ref q) _ _ (hz ds p).2 (g.trans g2.up0) (V.gr0 g2 j) (R.mkL upd_same (r.mono g2.s))⟩⟩
theorem je_lst {es : List Expr} {xs : List D} (h : JA X C V env es (· = xs)) (hz : xs.length ≤ 1000000 := by exact Nat.le_of_ble_eq_true rfl) : JE X C V env (.List es pos) (· = .lst xs) := je_lstR h fun ds e => by subst e; exact ⟨hz, rfl⟩
end
end RQ

/-! RqB: targets, walked things, statements, loops, comprehensions, calls, defs. -/
namespace RQ
open PySem PySem.Spec PyProof.Rows L2

/-! ### errors -/
structure Err where
  k : Nat
  fs : List D
structure Tx where
  cl : Nat → Addr
  fn : Nat → List Str
/-- an error as it lies: its class, its own dict -/
def RX (K : PySem.W.Frag) (C : Addr) (T : Tx) (S H : Hp) (er : Err) (cls : Value) (dd : Option Addr) : Prop :=
  cls = .ref (T.cl er.k) ∧ ((er.fs = [] ∧ dd = none) ∨ ∃ a xs vs, dd = some a ∧ S a = some (.xd xs) ∧ RL K C S er.fs vs ∧ ∀ (i : Nat) (f : Str) (v : V), (T.fn er.k)[i]? = some f → vs[i]? = some v → xs.lookup f = some v)

/-! ### statements -/
section
variable (K : PySem.W.Frag) (C : Addr) (T : Tx) (V : Vo) (env : List En) (N : List En → Prop) (Rt : D → Prop) (W : WX) (Et : Err → Prop)
def tS : TS := fun D σ H => ∃ S, Ok K C V S H σ env ∧ (∀ env' σ' S' H', N env' → Gr V.M S H S' H' → V.J S' H' → RS K C S' σ' env' → D.nx σ' H') ∧
  (∀ d v S' H', Rt d → Gr V.M S H S' H' → V.J S' H' → R K C S' d v → D.rt v H') ∧
  (∀ er cls dd σ' S' H', Et er → Gr V.M S H S' H' → V.J S' H' → RX K C T S' H' er cls dd → W cls dd σ' H')
end
abbrev JS (X : Cx) (C : Addr) (T : Tx) (V : Vo) (env : List En) (sts : List Stmt) (N : List En → Prop) (Rt : D → Prop) (W : WX) (Et : Err → Prop) : Prop := PSs X sts (tS X.K C T V env N Rt W Et)
abbrev JSt (X : Cx) (C : Addr) (T : Tx) (V : Vo) (env : List En) (st : Stmt) (N : List En → Prop) (Rt : D → Prop) (W : WX) (Et : Err → Prop) : Prop := PS X st (tS X.K C T V env N Rt W Et)
theorem nxeta (D : Ends) : ({ nx := D.nx, rt := D.rt, bk := D.bk, ct := D.ct } : Ends) = D := rfl
section
variable {X : Cx} {C : Addr} {T : Tx} {V : Vo} {env : List En} {e a b : Expr} {Φ Ψ Φa Φb : D → Prop} {Θ : Bool → Prop} {pos : Pos} {x y z : D} {N N1 N' : List En → Prop} {Rt Rt' : D → Prop} {W : WX} {Et Et' : Err → Prop} {st : Stmt} {rest sts : List Stmt}
theorem tS.imp {K : PySem.W.Frag} {D : Ends} {σ : L2.St} {H : Hp} (h : tS K C T V env N Rt W Et D σ H) (h1 : ∀ e, N' e → N e) (h2 : ∀ d, Rt' d → Rt d) (h3 : ∀ d, Et' d → Et d) : tS K C T V env N' Rt' W Et' D σ H := by
  obtain ⟨S, o, k1, k2, k3⟩ := h
  exact ⟨S, o, fun env' σ' S' H' p => k1 env' σ' S' H' (h1 _ p), fun d v S' H' p => k2 d v S' H' (h2 _ p), fun er cls dd σ' S' H' p => k3 er cls dd σ' S' H' (h3 _ p)⟩
theorem JS.imp (h : JS X C T V env sts N Rt W Et) (h1 : ∀ e, N e → N' e) (h2 : ∀ d, Rt d → Rt' d) (h3 : ∀ d, Et d → Et' d) : JS X C T V env sts N' Rt' W Et' := h.weak fun D σ H q => q.imp h1 h2 h3
theorem JSt.imp (h : JSt X C T V env st N Rt W Et) (h1 : ∀ e, N e → N' e) (h2 : ∀ d, Rt d → Rt' d) (h3 : ∀ d, Et d → Et' d) : JSt X C T V env st N' Rt' W Et' := h.weak fun D σ H q => q.imp h1 h2 h3
/-- a family of readings -/
theorem pss_fam {α : Type} {P : α → Prop} {t : α → TS} (h : ∀ a, P a → PSs X sts (t a)) : PSs X sts (fun D σ H => ∃ a, P a ∧ t a D σ H) := ⟨fun pins s σ H D I ⟨a, p, q⟩ => (h a p).run pins s σ H D I q⟩
theorem ps_fam {α : Type} {P : α → Prop} {t : α → TS} (h : ∀ a, P a → PS X st (t a)) : PS X st (fun D σ H => ∃ a, P a ∧ t a D σ H) := ⟨fun pins s σ H D I ⟨a, p, q⟩ => (h a p).run pins s σ H D I q⟩
theorem pt_fam {α : Type} {P : α → Prop} {t : α → TT} (h : ∀ a, P a → PT X e (t a)) : PT X e (fun σ H Q => ∃ a, P a ∧ t a σ H Q) := ⟨fun pins s σ H Q I ⟨a, p, q⟩ => (h a p).run pins s σ H Q I q⟩
theorem pe_fam {α : Type} {P : α → Prop} {t : α → TE} (h : ∀ a, P a → PE X e (t a)) : PE X e (fun σ H Q => ∃ a, P a ∧ t a σ H Q) := ⟨fun pins s σ H Q I ⟨a, p, q⟩ => (h a p).run pins s σ H Q I q⟩
theorem js_nil : JS X C T V env [] (· = env) Rt W Et := pss_nil.weak fun D σ H ⟨S, o, k1, _⟩ => k1 env σ S H rfl (.refl o.sub) o.j o.rs
theorem js_cons (h1 : JSt X C T V env st N1 Rt W Et) (h2 : ∀ env', N1 env' → JS X C T V env' rest N Rt W Et) : JS X C T V env (st :: rest) N Rt W Et :=
  (pss_cons h1 (pss_fam h2)).weak fun D σ H ⟨S, o, k1, k2, k3⟩ =>
    ⟨S, o, fun env' σ' S' H' n g j r => ⟨env', n, S', ⟨g.sub, j, r⟩, fun env2 σ2 S2 H2 n2 g2 => k1 env2 σ2 S2 H2 n2 (g.trans g2), fun d v S2 H2 p g2 => k2 d v S2 H2 p (g.trans g2), fun er cls dd σ2 S2 H2 p g2 => k3 er cls dd σ2 S2 H2 p (g.trans g2)⟩, k2, k3⟩
theorem js_one (h1 : JSt X C T V env st N Rt W Et) : JS X C T V env [st] N Rt W Et := pss_one h1
theorem jst_ret (h : JE X C V env e Rt) : JSt X C T V env (.Return (some e) pos) N Rt W Et := (ps_ret h).weak fun D σ H ⟨S, o, _, k2, _⟩ => ⟨S, o, fun d v S' H' p g j r => k2 d v S' H' p g j r⟩
theorem jst_retE (h : JE X C V env e (· = x)) (hr : Rt x) : JSt X C T V env (.Return (some e) pos) N Rt W Et := jst_ret (h.imp fun d p => by rw [p]; exact hr)
theorem jst_expr (he : JE X C V env e Φ) (hs : swapsWith e none pos.line X.env = pure false := by rfl) : JSt X C T V env (.Expr e pos) (· = env) Rt W Et :=
  (ps_expr he hs).weak fun D σ H ⟨S, o, k1, _, _⟩ => ⟨S, o, fun d v S' H' p g j r => k1 env σ S' H' rfl g j (o.rs.mono g.s)⟩
theorem jst_set {i : Nat} {n : Str} {pos' : Pos} (hN : X.N.Nodup) (hi : X.N[i]? = some n) (hx : Loc X.env.scope n) (he : JE X C V env e Φ) (hs : swapsWith e (some (.Name n pos')) pos.line X.env = pure false := by rfl) (hf : X.fn n = true ∨ X.env.scope.names.lookup n = some .local := by first | exact .inl rfl | exact .inr rfl | assumption) :
    JSt X C T V env (.Assign [.Name n pos'] e pos) (fun env' => ∃ d, Φ d ∧ env' = env.set i (.d d)) Rt W Et :=
  (ps_set hN hi hx he hs hf).weak fun D σ H ⟨S, o, k1, _, _⟩ => ⟨S, o, fun d v S' H' p g j r => k1 _ _ S' H' ⟨d, p, rfl⟩ g j ((o.rs.mono g.s).setD i r)⟩
/-- x = e, e's value known -/
theorem js_let {i : Nat} {n : Str} {pos' : Pos} (hN : X.N.Nodup) (hi : X.N[i]? = some n) (hx : Loc X.env.scope n) (he : JE X C V env e (· = x)) (hr : JS X C T V (env.set i (.d x)) rest N Rt W Et) (hs : swapsWith e (some (.Name n pos')) pos.line X.env = pure false := by rfl)
    (hf : X.fn n = true ∨ X.env.scope.names.lookup n = some .local := by first | exact .inl rfl | exact .inr rfl | assumption) : JS X C T V env (.Assign [.Name n pos'] e pos :: rest) N Rt W Et :=
  js_cons (jst_set hN hi hx he hs hf) fun env' ⟨d, p, q⟩ => by subst p q; exact hr
theorem js_letR {i : Nat} {n : Str} {pos' : Pos} (hN : X.N.Nodup) (hi : X.N[i]? = some n) (hx : Loc X.env.scope n) (he : JE X C V env e Φ) (hr : ∀ d, Φ d → JS X C T V (env.set i (.d d)) rest N Rt W Et) (hs : swapsWith e (some (.Name n pos')) pos.line X.env = pure false := by rfl)
    (hf : X.fn n = true ∨ X.env.scope.names.lookup n = some .local := by first | exact .inl rfl | exact .inr rfl | assumption) : JS X C T V env (.Assign [.Name n pos'] e pos :: rest) N Rt W Et :=
  js_cons (jst_set hN hi hx he hs hf) fun env' ⟨d, p, q⟩ => by subst q; exact hr d p
/-- a, b = x, y -/
theorem jst_par {i j : Nat} {n m : Str} {Φs : List D → Prop} {px py pt : Pos} {kt k2 pt2} (hc : X.calm = true) (hN : X.N.Nodup) (hi : X.N[i]? = some n) (hj : X.N[j]? = some m) (hij : i ≠ j)
    (hx : X.env.scope.names.lookup n = some .local) (hy : X.env.scope.names.lookup m = some .local) (ha : JA X C V env [a, b] Φs) (hl : ∀ ds, Φs ds → ds.length = 2)
    (hw : swappedStores [.Tuple [.Name n px, .Name m py] kt pt] (.Tuple [a, b] k2 pt2) X.env = pure (some [n, m])) (hs : swapsWithSole [.Tuple [.Name n px, .Name m py] kt pt] (.Tuple [a, b] k2 pt2) pos.line X.env = pure false := by rfl) :
    JSt X C T V env (.Assign [.Tuple [.Name n px, .Name m py] kt pt] (.Tuple [a, b] k2 pt2) pos) (fun env' => ∃ d1 d2, Φs [d1, d2] ∧ env' = (env.set i (.d d1)).set j (.d d2)) Rt W Et :=
  (ps_par hc hN hi hj hij hx hy ha hw hs).weak fun D σ H ⟨S, o, k1, _, _⟩ => ⟨S, o, fun ds vs S' H' p g jj r => by
    obtain ⟨d1, d2, rfl⟩ : ∃ d1 d2, ds = [d1, d2] := by
      match ds, hl ds p with
      | [d1, d2], _ => exact ⟨d1, d2, rfl⟩
    obtain ⟨v, r1, e1, h1, t1⟩ := RL.cons_iff.mp r
    obtain ⟨w, r2, e2, h2, t2⟩ := RL.cons_iff.mp t1
    rw [RL.nil_iff] at t2
    subst t2 e2 e1
    exact ⟨v, w, rfl, k1 _ _ S' H' ⟨d1, d2, p, rfl⟩ g jj (((o.rs.mono g.s).setD i h1).setD j h2)⟩⟩
theorem jst_if {c : Expr} {A B : List Stmt} (hc : JT X C V env c Θ) (ha : (∃ h, Θ h ∧ h = true) → JS X C T V env A N Rt W Et) (hb : (∃ h, Θ h ∧ h = false) → JS X C T V env B N Rt W Et) : JSt X C T V env (.If c A B pos) N Rt W Et := by
  refine ⟨fun pins s σ H D I h => ?_⟩
  obtain ⟨S, o, k1, k2, k3⟩ := h
  refine wpAny_If (thn (hc.run pins s σ H (fun c H1 => Θ c ∧ tS X.K C T V env N Rt W Et D σ H1) I ⟨S, o, fun c S' H' p g j => ⟨p, S', o.gr g j, fun env' σ' S2 H2 n2 g2 => k1 env' σ' S2 H2 n2 (g.trans g2), fun d v S2 H2 p2 g2 => k2 d v S2 H2 p2 (g.trans g2), fun er cls dd σ2 S2 H2 p g2 => k3 er cls dd σ2 S2 H2 p (g.trans g2)⟩⟩) fun d s1 ⟨H1, I1, q1⟩ => ?_)
  obtain ⟨q0, q1⟩ := q1
  cases d with
  | true => exact (ha ⟨_, q0, rfl⟩).run pins s1 σ H1 D I1 q1
  | false => exact (hb ⟨_, q0, rfl⟩).run pins s1 σ H1 D I1 q1
theorem jst_ifE {c : Expr} {p : Bool} {A B : List Stmt} (hc : JT X C V env c (· = p)) (ha : p = true → JS X C T V env A N Rt W Et) (hb : p = false → JS X C T V env B N Rt W Et) : JSt X C T V env (.If c A B pos) N Rt W Et :=
  jst_if hc (fun ⟨h, e1, e2⟩ => ha (e1.symm.trans e2)) (fun ⟨h, e1, e2⟩ => hb (e1.symm.trans e2))
/-- if c: .. (that leaves); the rest -/
theorem js_when {c : Expr} {p : Bool} {A : List Stmt} (hc : JT X C V env c (· = p)) (ha : p = true → JS X C T V env A (fun _ => False) Rt W Et) (hb : p = false → JS X C T V env rest N Rt W Et) : JS X C T V env (.If c A [] pos :: rest) N Rt W Et := by
  cases p with
  | true => exact js_cons (N1 := fun _ => False) (jst_ifE hc (fun _ => ha rfl) (fun h => nomatch h)) fun _ h => h.elim
  | false => exact js_cons (N1 := (· = env)) (jst_ifE hc (fun h => nomatch h) (fun _ => js_nil)) fun env' h => by subst h; exact hb rfl
theorem js_whenR {c : Expr} {A : List Stmt} (hc : JT X C V env c Θ) (ha : (∃ h, Θ h ∧ h = true) → JS X C T V env A (fun _ => False) Rt W Et) (hb : (∃ h, Θ h ∧ h = false) → JS X C T V env rest N Rt W Et) : JS X C T V env (.If c A [] pos :: rest) N Rt W Et :=
  js_cons (N1 := fun env' => env' = env ∧ ∃ h, Θ h ∧ h = false) (jst_if hc (fun h => (ha h).imp (fun _ z => z.elim) (fun _ z => z) fun _ z => z) (fun h => js_nil.imp (fun _ z => ⟨z, h⟩) (fun _ z => z) fun _ z => z)) fun env' ⟨h, q⟩ => by subst h; exact hb q
/-- raise of an error of one's own -/
theorem jst_raise {er : Err} {tm : L2.St → Hp → XK → Prop} (hc : X.calm = true) (tk : Takes X W) (he : PMk X e tm) (hm : ∀ σ S H Q, Ok X.K C V S H σ env → (∀ cls dd S' H', Gr V.M S H S' H' → V.J S' H' → RX X.K C T S' H' er cls dd → Q cls dd H') → tm σ H Q) (hE : Et er) :
    JSt X C T V env (.Raise (some e) none pos) N Rt W Et := (ps_raise hc tk he).weak fun D σ H ⟨S, o, _, _, k3⟩ => hm σ S H _ o fun cls dd S' H' g j rx => k3 er cls dd σ S' H' hE g j rx
end

/-! ### calls -/
/-- the promise: P tells, of what changes and the arguments, what may come back -/
def spG (K : PySem.W.Frag) (C : Addr) (T : Tx) (P : Vo → List D → (Except Err D → Prop) → Prop) : Sp := fun vs H Q E => ∃ S ds V Ψ, Same S H ∧ V.J S H ∧ RL K C S ds vs ∧ P V ds Ψ ∧
  (∀ d v S' H', Ψ (.ok d) → Gr V.M S H S' H' → V.J S' H' → R K C S' d v → Q v H') ∧ (∀ er cls dd S' H', Ψ (.error er) → Gr V.M S H S' H' → V.J S' H' → RX K C T S' H' er cls dd → E cls dd H')
/-- a def that changes nothing -/
def pur (P : List D → Except Err D → Prop) : Vo → List D → (Except Err D → Prop) → Prop := fun V ds Ψ => V = V0 ∧ ∃ r, P ds r ∧ Ψ = (· = r)
/-- one that changes nothing and raises nothing -/
def pok (P : List D → D → Prop) : Vo → List D → (Except Err D → Prop) → Prop := pur fun ds r => ∃ d, P ds d ∧ r = .ok d
section
variable {X : Cx} {C : Addr} {T : Tx} {V : Vo} {env : List En} {e a b : Expr} {es : List Expr} {Φ : D → Prop} {pos p : Pos} {k : Nat} {f : Addr} {fd : FuncData} {ps : List Str} {x : Str} {Φs : List D → Prop} {P : Vo → List D → (Except Err D → Prop) → Prop} {z : D} {xs : List D}
theorem call_read {K : PySem.W.Frag} (hd : ∀ ds, Φs ds → (∃ Ψ, P V ds Ψ ∧ (∀ er, ¬ Ψ (.error er)) ∧ ∀ d, Ψ (.ok d) → Φ d) ∨ (∃ Ψ, P V0 ds Ψ ∧ (∀ er, ¬ Ψ (.error er)) ∧ ∀ d, Ψ (.ok d) → Φ d)) :
    ∀ σ H Q, tJ K C V env Φ σ H Q → tCall (spG K C T P) [] E0 (tJA K C V env Φs) σ H Q := fun σ H Q ⟨S, o, q⟩ => ⟨S, o, fun ds vs S1 H1 p1 g1 j1 r1 => by
    show spG K C T P (vs ++ []) H1 Q E0
    rw [List.append_nil]
    rcases hd ds p1 with ⟨Ψ, hP, h0, h1⟩ | ⟨Ψ, hP, h0, h1⟩
    · exact ⟨S1, ds, V, Ψ, g1.sub, j1, r1, hP, fun d v S2 H2 p2 g2 j2 r2 => q d v S2 H2 (h1 d p2) (g1.trans g2) j2 r2, fun er cls dd S' H' z => (h0 er z).elim⟩
    · exact ⟨S1, ds, V0, Ψ, g1.sub, True.intro, r1, hP, fun d v S2 H2 p2 g2 j2 r2 => q d v S2 H2 (h1 d p2) (g1.trans g2.up0) (V.gr0 g2 j1) r2, fun er cls dd S' H' z => (h0 er z).elim⟩⟩
theorem pur_use {P : List D → Except Err D → Prop} (h : P xs (.ok z)) : ∃ Ψ, pur P V0 xs Ψ ∧ (∀ er, ¬ Ψ (.error er)) ∧ ∀ d, Ψ (.ok d) → d = z :=
  ⟨(· = .ok z), ⟨rfl, _, h, rfl⟩, (fun er h => by cases h), (fun d h => by cases h; rfl)⟩
theorem pok_use {P : List D → D → Prop} (h : P xs z) : ∃ Ψ, pok P V0 xs Ψ ∧ (∀ er, ¬ Ψ (.error er)) ∧ ∀ d, Ψ (.ok d) → d = z := pur_use (P := fun ds r => ∃ d, P ds d ∧ r = .ok d) ⟨z, h, rfl⟩
/-- f(e, ..), nothing raised -/
theorem je_callG (F : FnOk X.prog X.w X.K X.mg X.base (L2.CX X.prog X.w) k f fd ps (spG X.K C T P)) (hr : Room k X.A) (hg : Gl X x) (hm : X.mg x = some (.ref f)) (hk : PySem.W.keepIn X.K (.ref f) = true) (hb : Binds X.K fd ps [])
    (ha : JA X C V env (e :: es) Φs) (hd : ∀ ds, Φs ds → (∃ Ψ, P V ds Ψ ∧ (∀ er, ¬ Ψ (.error er)) ∧ ∀ d, Ψ (.ok d) → Φ d) ∨ (∃ Ψ, P V0 ds Ψ ∧ (∀ er, ¬ Ψ (.error er)) ∧ ∀ d, Ψ (.ok d) → Φ d))
    (hdb : (x == ("__debug__" : Str)) = false := by decide) (he : starEach (e :: es) X.env = (false, eval e X.env) :: starEach es X.env := by rfl) (hpl : (backTo pos (starEach es X.env)).any (·.1) = false := by rfl) :
    JE X C V env (.Call (.Name x p) (e :: es) [] pos) Φ := (pe_call F hr hg hm hk hb .nil passL ha hdb he hpl).weak (call_read hd)
theorem je_call {P : List D → D → Prop} (F : FnOk X.prog X.w X.K X.mg X.base (L2.CX X.prog X.w) k f fd ps (spG X.K C T (pok P))) (hr : Room k X.A) (hg : Gl X x) (hm : X.mg x = some (.ref f)) (hk : PySem.W.keepIn X.K (.ref f) = true) (hb : Binds X.K fd ps [])
    (ha : JA X C V env (e :: es) (· = xs)) (hd : P xs z) (hdb : (x == ("__debug__" : Str)) = false := by decide) (he : starEach (e :: es) X.env = (false, eval e X.env) :: starEach es X.env := by rfl) (hpl : (backTo pos (starEach es X.env)).any (·.1) = false := by rfl) :
    JE X C V env (.Call (.Name x p) (e :: es) [] pos) (· = z) := je_callG F hr hg hm hk hb ha (fun ds e1 => .inr (by subst e1; exact pok_use hd)) hdb he hpl
/-- .. of a def that could raise -/
theorem je_callX {P : List D → Except Err D → Prop} (F : FnOk X.prog X.w X.K X.mg X.base (L2.CX X.prog X.w) k f fd ps (spG X.K C T (pur P))) (hr : Room k X.A) (hg : Gl X x) (hm : X.mg x = some (.ref f)) (hk : PySem.W.keepIn X.K (.ref f) = true) (hb : Binds X.K fd ps [])
    (ha : JA X C V env (e :: es) (· = xs)) (hd : P xs (.ok z)) (hdb : (x == ("__debug__" : Str)) = false := by decide) (he : starEach (e :: es) X.env = (false, eval e X.env) :: starEach es X.env := by rfl) (hpl : (backTo pos (starEach es X.env)).any (·.1) = false := by rfl) :
    JE X C V env (.Call (.Name x p) (e :: es) [] pos) (· = z) := je_callG F hr hg hm hk hb ha (fun ds e1 => .inr (by subst e1; exact pur_use hd)) hdb he hpl
end
section
variable {X : Cx} {C : Addr} {T : Tx} {V : Vo} {env : List En} {e a b : Expr} {es : List Expr} {Φ : D → Prop} {pos p pos' : Pos} {k : Nat} {f : Addr} {fd : FuncData} {ps : List Str} {x n : Str} {Φs : List D → Prop} {P : List D → Except Err D → Prop} {z : D} {xs : List D} {N : List En → Prop} {Rt : D → Prop} {W : WX} {Et : Err → Prop} {rest : List Stmt} {i : Nat} {r : Except Err D}
/-- f(e, ..) that may raise, by its value: what follows -/
def tJX (K : PySem.W.Frag) (C : Addr) (T : Tx) (V : Vo) (env : List En) (W : WX) (r : Except Err D) : TE := fun σ H Q => ∃ S, Ok K C V S H σ env ∧ (∀ d v S' H', r = .ok d → Gr V.M S H S' H' → V.J S' H' → R K C S' d v → Q v H') ∧
  (∀ er cls dd S' H', r = .error er → Gr V.M S H S' H' → V.J S' H' → RX K C T S' H' er cls dd → W cls dd σ H')
theorem pe_callXW (F : FnOk X.prog X.w X.K X.mg X.base (L2.CX X.prog X.w) k f fd ps (spG X.K C T (pur P))) (hr : Room k X.A) (hg : Gl X x) (hm : X.mg x = some (.ref f)) (hk : PySem.W.keepIn X.K (.ref f) = true) (hb : Binds X.K fd ps []) (tk : Takes X W)
    (ha : JA X C V env (e :: es) (· = xs)) (hd : P xs r) (hdb : (x == ("__debug__" : Str)) = false := by decide) (he : starEach (e :: es) X.env = (false, eval e X.env) :: starEach es X.env := by rfl) (hpl : (backTo pos (starEach es X.env)).any (·.1) = false := by rfl) :
    PE X (.Call (.Name x p) (e :: es) [] pos) (tJX X.K C T V env W r) := (pe_callS F hr hg hm hk hb (fun σ => passAt tk σ) ha hdb he hpl).weak fun σ H Q ⟨S, o, q1, q2⟩ => ⟨S, o, fun ds vs S1 H1 p1 g1 j1 r1 => by
    subst p1
    exact ⟨S1, _, V0, (· = r), g1.sub, True.intro, r1, ⟨rfl, r, hd, rfl⟩, fun d v S2 H2 p2 g2 j2 r2 => q1 d v S2 H2 p2.symm (g1.trans g2.up0) (V.gr0 g2 j1) r2, fun er cls dd S2 H2 p2 g2 j2 r2 => q2 er cls dd S2 H2 p2.symm (g1.trans g2.up0) (V.gr0 g2 j1) r2⟩⟩
/-- the statement f(..), x = f(..), return f(..) by such a reading -/
theorem js_exprX (he : PE X e (tJX X.K C T V env W r)) (ho : ∀ d, r = .ok d → JS X C T V env rest N Rt W Et) (hE : ∀ er, r = .error er → Et er) (hs : swapsWith e none pos.line X.env = pure false := by rfl) : JS X C T V env (.Expr e pos :: rest) N Rt W Et :=
  (pss_cons (ps_expr he hs) (pss_fam (P := fun d : D => r = .ok d) ho)).weak fun D σ H ⟨S, o, k1, k2, k3⟩ =>
    ⟨S, o, fun d v S' H' e1 g j rr => ⟨d, e1, S', o.gr g j, fun env2 σ2 S2 H2 n2 g2 => k1 env2 σ2 S2 H2 n2 (g.trans g2), fun d v S2 H2 p g2 => k2 d v S2 H2 p (g.trans g2), fun er cls dd σ2 S2 H2 p g2 => k3 er cls dd σ2 S2 H2 p (g.trans g2)⟩,
      fun er cls dd S' H' e1 g j rx => k3 er cls dd σ S' H' (hE er e1) g j rx⟩
theorem js_letX (hN : X.N.Nodup) (hi : X.N[i]? = some n) (hx : Loc X.env.scope n) (he : PE X e (tJX X.K C T V env W r)) (ho : ∀ d, r = .ok d → JS X C T V (env.set i (.d d)) rest N Rt W Et) (hE : ∀ er, r = .error er → Et er) (hs : swapsWith e (some (.Name n pos')) pos.line X.env = pure false := by rfl)
    (hf : X.fn n = true ∨ X.env.scope.names.lookup n = some .local := by first | exact .inl rfl | exact .inr rfl | assumption) : JS X C T V env (.Assign [.Name n pos'] e pos :: rest) N Rt W Et :=
  (pss_cons (ps_set hN hi hx he hs hf) (pss_fam (P := fun d : D => r = .ok d) ho)).weak fun D σ H ⟨S, o, k1, k2, k3⟩ =>
    ⟨S, o, fun d v S' H' e1 g j rr => ⟨d, e1, S', ⟨g.sub, j, (o.rs.mono g.s).setD i rr⟩, fun env2 σ2 S2 H2 n2 g2 => k1 env2 σ2 S2 H2 n2 (g.trans g2), fun d v S2 H2 p g2 => k2 d v S2 H2 p (g.trans g2), fun er cls dd σ2 S2 H2 p g2 => k3 er cls dd σ2 S2 H2 p (g.trans g2)⟩,
      fun er cls dd S' H' e1 g j rx => k3 er cls dd σ S' H' (hE er e1) g j rx⟩
end

/-! ### a def keeps its promise -/
section
variable {P : Program} {w : World} {K : PySem.W.Frag} {mg : Str → Option Value} {base : Heap} {C : Addr} {T : Tx}
/-- a body's context -/
abbrev bodyX (P : Program) (w : World) (K : PySem.W.Frag) (mg : Str → Option Value) (base : Heap) (N : List Str) (qual : Str) (st : Stmt) (f : Addr) (cdv : Value) (A : Around) (outer : List Env) (s : Shared) (H : Hp) (E : XK) : Cx := cxOf (L2.CX P w) P w K mg base N qual (defScope st) f cdv A outer s H E
abbrev envS (N : List Str) (ds : List D) : List En := ds.map En.d ++ List.replicate (N.length - ds.length) .un
theorem def_ok {x qual : Str} {st : Stmt} {f : Addr} {fd : FuncData} {N ps : List Str} {k : Nat} {Pm : Vo → List D → (Except Err D → Prop) → Prop} (F : Fun K x qual st f fd) (Sc : FnScope N ps (defScope st)) (hl : ∀ V ds Ψ, Pm V ds Ψ → ds.length = ps.length)
    (hb : ∀ (cdv : Value) (A : Around) (outer : List Env) (s : Shared) (H : Hp) (E : XK) (V : Vo) (ds : List D) (Ψ : Except Err D → Prop), Room k (A.deeper (envOfC qual (defScope st) s.heap.objs.size f cdv)) → Takes (bodyX P w K mg base N qual st f cdv A outer s H E) (fun cls d _ H' => E cls d H') → Pm V ds Ψ →
      JS (bodyX P w K mg base N qual st f cdv A outer s H E) C T V (envS N ds) (defBody st) (fun _ => Ψ (.ok .non)) (fun d => Ψ (.ok d)) (fun cls d _ H' => E cls d H') (fun er => Ψ (.error er))) :
    FnOk P w K mg base (L2.CX P w) (k + 1) f fd ps (spG K C T Pm) := by
  refine F.okX Sc (fun vs H Q E h => ?_) (fun cdv A outer s H vs Q E hr h => ?_)
  · obtain ⟨S, ds, V, Ψ, h1, h2, h3, h4, _⟩ := h
    rw [h3.length]
    exact hl V ds Ψ h4
  · obtain ⟨S, ds, V, Ψ, h1, h2, h3, h4, h5, h6⟩ := h
    refine ⟨_, hb cdv A outer s H E V ds Ψ hr (takes_of rfl rfl rfl rfl) h4, S, ⟨h1, h2, ?_⟩, fun env' σ' S' H' n g j r => h5 .non .non S' H' n g j (R.non_iff.mpr rfl), fun d v S' H' n g j r => h5 d v S' H' n g j r, fun er cls dd σ' S' H' n g j r => h6 er cls dd S' H' n g j r⟩
    have := RS.start (N.length - vs.length) h3
    rw [h3.length] at this
    unfold L2.start
    rw [h3.length]
    exact this
end
end RQ

/-! RqC: targets, walked things, for, while, comprehensions. -/
namespace RQ
open PySem PySem.Spec PyProof.Rows L2

/-! ### targets -/
theorem _root_.L2.PG.weak {X : Cx} {e : Expr} {t t' : TG} (h : PG X e t) (w : ∀ v σ H Q, t' v σ H Q → t v σ H Q) : PG X e t' := ⟨fun pins s σ H v u Q I r q => h.run pins s σ H v u Q I r (w v σ H Q q)⟩
theorem _root_.L2.PI.weak {X : Cx} {tg e : Expr} {t t' : TI} (h : PI X tg e t) (w : ∀ σ H Q, t' σ H Q → t σ H Q) : PI X tg e t' := ⟨fun pins s σ H Q I q => h.run pins s σ H Q I (w σ H Q q)⟩
section
variable (K : PySem.W.Frag) (C : Addr)
/-- bind env d env': the item d goes in -/
def gJ (bind : List En → D → List En → Prop) : TG := fun v σ H Q => ∃ S d env env', Same S H ∧ RS K C S σ env ∧ R K C S d v ∧ bind env d env' ∧ ∀ σ', RS K C S σ' env' → Q σ' H
end
abbrev bN (i : Nat) : List En → D → List En → Prop := fun env d env' => env' = env.set i (.d d)
def setAll (env : List En) : List Nat → List D → List En
  | i :: is, d :: ds => setAll (env.set i (.d d)) is ds
  | _, _ => env
abbrev bT (is : List Nat) : List En → D → List En → Prop := fun env d env' => ∃ ds, d = .tup ds ∧ ds.length = is.length ∧ env' = setAll env is ds
section
variable {X : Cx} {C : Addr} {pos : Pos} {n : Str} {i : Nat}
theorem jg_name (hN : X.N.Nodup) (hi : X.N[i]? = some n) (hx : Loc X.env.scope n) (hf : X.fn n = true ∨ X.env.scope.names.lookup n = some .local := by first | exact .inl rfl | exact .inr rfl | assumption) : PG X (.Name n pos) (gJ X.K C (bN i)) :=
  (pg_name hN hi hx hf).weak fun v σ H Q ⟨S, d, env, env', hs, rs, r, b, q⟩ => q _ (by subst b; exact rs.setD i r)
def gNs : List Nat → TGs
  | [] => gNil
  | i :: is => gCons (gName i) (gNs is)
theorem gNs_run {K : PySem.W.Frag} {S H : Hp} {Q : L2.St → Hp → Prop} : ∀ {is : List Nat} {ds : List D} {xs : List V} {σ : L2.St} {env : List En}, RL K C S ds xs → ds.length = is.length → RS K C S σ env → (∀ σ', RS K C S σ' (setAll env is ds) → Q σ' H) → gNs is xs σ H Q
  | [], [], xs, σ, env, h, _, rs, q => by
    rw [RL.nil_iff] at h
    exact ⟨h, q σ rs⟩
  | i :: is, d :: ds, xs, σ, env, h, hl, rs, q => by
    obtain ⟨x, r, e, h1, h2⟩ := RL.cons_iff.mp h
    exact ⟨x, r, e, gNs_run h2 (by simpa using hl) (rs.setD i h1) q⟩
theorem jg_tup {es : List Expr} {k : Nat} {is : List Nat} (hc : X.calm = true) (h : PGs X es (gNs is))
    (hn : (assignEach es X.env).length = is.length := by rfl) (hst : (assignEach es X.env).findIdx? (·.1) = none := by rfl) : PG X (.Tuple es k pos) (gJ X.K C (bT is)) :=
  (pg_tup hc h hn hst).weak fun v σ H Q ⟨S, d, env, env', hs, rs, r, ⟨ds, e1, e2, e3⟩, q⟩ => by
    subst e1 e3
    obtain ⟨a, xs, e, h1, h2⟩ := R.tup_iff.mp r
    exact ⟨a, xs, e, Same.seqT hs h1, by rw [h2.length, e2], gNs_run h2 e2 rs q⟩
end

/-! ### walked things -/
structure Wk (K : PySem.W.Frag) (C : Addr) (S : Hp) (ds : List D) (J : It) : Prop where
  go : ∀ i H, Same S H → i < ds.length → J.go i H
  stop : ∀ i H, Same S H → ds.length ≤ i → J.stop i H
  yld : ∀ i d S1 H1 x H2, Same S S1 → Same S1 H1 → ds[i]? = some d → J.yld i H1 x H2 → ∃ S2, Gr M0 S1 H1 S2 H2 ∧ R K C S2 d x
def iJ (K : PySem.W.Frag) (C : Addr) (V : Vo) (env : List En) (Φ : List D → Prop) : TI := fun σ H Rr => ∃ S, Ok K C V S H σ env ∧ ∀ ds J S' H', Φ ds → Gr V.M S H S' H' → V.J S' H' → Wk K C S' ds J → Rr J H'
abbrev JI (X : Cx) (C : Addr) (V : Vo) (env : List En) (tg iter : Expr) (Φ : List D → Prop) : Prop := PI X tg iter (iJ X.K C V env Φ)
section
variable {K : PySem.W.Frag} {C : Addr} {S : Hp} {ds : List D} {a : Addr} {xs : List V}
theorem wk_list (h : SqL K S a xs) (r : RL K C S ds xs) : Wk K C S ds (Itl K a) where
  go := fun i H e hi => by
    have hx : i < xs.length := by rw [r.length]; exact hi
    exact ⟨xs, xs[i], e.seq h, List.getElem?_eq_getElem hx⟩
  stop := fun i H e hi => ⟨xs, e.seq h, by rw [r.length]; exact hi⟩
  yld := fun i d S1 H1 x H2 e1 e2 hd ⟨e3, hx⟩ => by
    subst e3
    obtain ⟨x', h1, h2⟩ := r.get hd
    have e := hx xs (e2.seq (e1.seq h))
    rw [h1] at e
    obtain rfl := Option.some.inj e
    exact ⟨S1, .refl e2, h2.mono e1⟩
theorem wk_tup (h : SqT K S a xs) (r : RL K C S ds xs) : Wk K C S ds (Itt K a) where
  go := fun i H e hi => by
    have hx : i < xs.length := by rw [r.length]; exact hi
    exact ⟨xs, xs[i], Same.seqT e h, List.getElem?_eq_getElem hx⟩
  stop := fun i H e hi => ⟨xs, Same.seqT e h, by rw [r.length]; exact hi⟩
  yld := fun i d S1 H1 x H2 e1 e2 hd ⟨e3, hx⟩ => by
    subst e3
    obtain ⟨x', h1, h2⟩ := r.get hd
    have e := hx xs (Same.seqT e2 (Same.seqT e1 h))
    rw [h1] at e
    obtain rfl := Option.some.inj e
    exact ⟨S1, .refl e2, h2.mono e1⟩
/-- lo, lo + 1, .. -/
def rngD (lo : Int) (n : Nat) : List D := (List.range n).map fun (k : Nat) => D.int (lo + (k : Int))
theorem rngD_length (lo : Int) (n : Nat) : (rngD lo n).length = n := by simp [rngD]
theorem rngD_get {lo : Int} {n i : Nat} (h : i < n) : (rngD lo n)[i]? = some (.int (lo + (i : Int))) := by simp [rngD, h]
theorem wk_rng (lo : Int) (n : Nat) : Wk K C S (rngD lo n) (Itr lo n) where
  go := fun i H e hi => by rw [rngD_length] at hi; exact hi
  stop := fun i H e hi => by rw [rngD_length] at hi; exact hi
  yld := fun i d S1 H1 x H2 e1 e2 hd ⟨e3, hx⟩ => by
    subst e3 hx
    have hi : i < n := by
      have := (List.getElem?_eq_some_iff.mp hd).1
      rw [rngD_length] at this
      exact this
    rw [rngD_get hi] at hd
    obtain rfl := Option.some.inj hd
    exact ⟨S1, .refl e2, R.int_iff.mpr rfl⟩
end
section
variable {X : Cx} {C : Addr} {V : Vo} {env : List En} {e a b tg : Expr} {Φ : D → Prop} {Φl : List D → Prop} {pos p : Pos} {ds : List D}
theorem ji_listR (h : JE X C V env e Φ) (hd : ∀ d, Φ d → ∃ ds, d = .lst ds ∧ Φl ds) : JI X C V env tg e Φl := (pi_list h).weak fun σ H Rr ⟨S, o, k⟩ => ⟨S, o, fun d v S' H' p g j r => by
  obtain ⟨ds, e1, h1⟩ := hd d p
  subst e1
  obtain ⟨a, xs, e, h2, h3⟩ := R.lstL r
  exact ⟨a, e, ⟨xs, g.sub.seq h2⟩, k ds _ S' H' h1 g j (wk_list h2 h3)⟩⟩
theorem ji_list (h : JE X C V env e (· = .lst ds)) : JI X C V env tg e (· = ds) := ji_listR h fun d p => ⟨ds, p, rfl⟩
theorem ji_tup (h : JE X C V env e (· = .tup ds)) : JI X C V env tg e (· = ds) := (pi_tup h).weak fun σ H Rr ⟨S, o, k⟩ => ⟨S, o, fun d v S' H' p g j r => by
  subst p
  obtain ⟨a, xs, e, h2, h3⟩ := R.tup_iff.mp r
  exact ⟨a, e, ⟨xs, Same.seqT g.sub h2⟩, k ds _ S' H' rfl g j (wk_tup h2 h3)⟩⟩
theorem ji_range1R {Θ : Int → Prop} (h : JE X C V env a (fun d => ∃ n, d = .int n ∧ Θ n)) (hn : ∀ n, Θ n → -(2 ^ 62) ≤ n ∧ n < 2 ^ 62) (hg : Gl X "range") (hm : X.mg "range" = none) (hs : starEach [a] X.env = [(false, eval a X.env)] := by rfl) :
    JI X C V env tg (.Call (.Name "range" p) [a] [] pos) (fun ds => ∃ n, Θ n ∧ ds = rngD 0 n.toNat) := (pi_range1 hg hm (ja_consR h ja_nil (by rw [hs]; rfl)) hs).weak fun σ H Rr ⟨S, o, k⟩ => ⟨S, o, fun ds vs S' H' ⟨d, ds', e1, ⟨n, e2, h2⟩, e3⟩ g j r => by
  subst e3 e2 e1
  obtain ⟨v, r', e4, h4, h5⟩ := RL.cons_iff.mp r
  rw [RL.nil_iff] at h5
  rw [R.int_iff] at h4
  subst h5 h4 e4
  exact ⟨n, rfl, (hn n h2).1, (hn n h2).2, k _ _ S' H' ⟨n, h2, rfl⟩ g j (wk_rng 0 n.toNat)⟩⟩
theorem ji_range1 {n : Int} (h : JE X C V env a (· = .int n)) (hn : -(2 ^ 62) ≤ n ∧ n < 2 ^ 62) (hg : Gl X "range") (hm : X.mg "range" = none) (hs : starEach [a] X.env = [(false, eval a X.env)] := by rfl) :
    JI X C V env tg (.Call (.Name "range" p) [a] [] pos) (· = rngD 0 n.toNat) := (ji_range1R (Θ := (· = n)) (h.imp fun d p => ⟨n, p, rfl⟩) (fun m q => by subst q; exact hn) hg hm hs).weak fun σ H Rr ⟨S, o, k⟩ => ⟨S, o, fun ds J S' H' p => k ds J S' H' (by obtain ⟨m, e1, e2⟩ := p; rw [e2, e1])⟩
theorem ji_range2 {l n : Int} (h1 : JE X C V env a (· = .int l)) (h2 : JE X C V env b (· = .int n)) (hn : -(2 ^ 62) ≤ l ∧ l < 2 ^ 62 ∧ -(2 ^ 62) ≤ n ∧ n < 2 ^ 62) (hg : Gl X "range") (hm : X.mg "range" = none) (hs : starEach [a, b] X.env = [(false, eval a X.env), (false, eval b X.env)] := by rfl) (hs2 : starEach [b] X.env = [(false, eval b X.env)] := by rfl) :
    JI X C V env tg (.Call (.Name "range" p) [a, b] [] pos) (· = rngD l (n - l).toNat) := (pi_range2 hg hm (ja_cons h1 (ja_cons h2 ja_nil (by rw [hs2]; rfl)) (by rw [hs, hs2])) hs hs2).weak fun σ H Rr ⟨S, o, k⟩ => ⟨S, o, fun ds vs S' H' e g j r => by
  subst e
  obtain ⟨v, r', e4, h4, h5⟩ := RL.cons_iff.mp r
  obtain ⟨v2, r2, e6, h6, h7⟩ := RL.cons_iff.mp h5
  rw [RL.nil_iff] at h7
  rw [R.int_iff] at h4 h6
  subst h7 h6 h4 e6 e4
  exact ⟨l, n, rfl, hn, k _ _ S' H' rfl g j (wk_rng l (n - l).toNat)⟩⟩
end

/-! ### for -/
section
variable {X : Cx} {C : Addr} {T : Tx} {V : Vo} {env : List En} {tg iter : Expr} {pos : Pos} {N : List En → Prop} {Rt : D → Prop} {W : WX} {Et : Err → Prop} {body : List Stmt} {Φl : List D → Prop} {bind : List En → D → List En → Prop}
/-- I ds i: what holds of the slots ahead of turn i -/
theorem jst_for (I : List D → Nat → List En → Prop) (hp : PassesOwn (model X.prog X.w) X.A X.env X.xe) (hc : X.calm = true) (hi : JI X C V env tg iter Φl) (hg : PG X tg (gJ X.K C bind))
    (hbd : ∀ ds i d envI, Φl ds → ds[i]? = some d → I ds i envI → ∃ envB, bind envI d envB) (h0 : ∀ ds, Φl ds → I ds 0 env) (hn : ∀ ds envI, Φl ds → I ds ds.length envI → N envI)
    (hb : ∀ q : List D × Nat × D × List En × List En, (Φl q.1 ∧ q.1[q.2.1]? = some q.2.2.1 ∧ I q.1 q.2.1 q.2.2.2.1 ∧ bind q.2.2.2.1 q.2.2.1 q.2.2.2.2) → JS X C T V q.2.2.2.2 body (I q.1 (q.2.1 + 1)) Rt W Et)
    (hs : ∀ x, foldedSetIterable iter X.env x = pure x := by intro _; rfl) : JSt X C T V env (.For tg iter body [] pos) N Rt W Et :=
  (ps_for hp hc hi hg (pss_fam hb) hs).weak fun D σ H ⟨S, o, k1, k2, k3⟩ => ⟨S, o, fun ds J S1 H1 p1 g1 j1 wk =>
    ⟨fun i m σ' H' => m = ds.length - i ∧ i ≤ ds.length ∧ ∃ S' envI, Gr V.M S H S' H' ∧ Same S1 S' ∧ V.J S' H' ∧ RS X.K C S' σ' envI ∧ I ds i envI,
      ⟨ds.length, by omega, by omega, S1, env, g1, .refl S1, j1, o.rs.mono g1.s, h0 ds p1⟩, fun i m σ' H' ⟨em, hi, S', envI, g, ss, j, rs, hI⟩ => by
      by_cases hlt : i < ds.length
      · refine .inr ⟨wk.go i H' (ss.trans g.sub) hlt, fun σ2 H2 => i + 1 ≤ ds.length ∧ ∃ S2 envI, Gr V.M S H S2 H2 ∧ Same S1 S2 ∧ V.J S2 H2 ∧ RS X.K C S2 σ2 envI ∧ I ds (i + 1) envI, fun σ2 H2 ⟨hl, q⟩ => ⟨ds.length - (i + 1), by omega, rfl, hl, q⟩, fun x H2 y => ?_⟩
        have hd : ds[i]? = some ds[i] := List.getElem?_eq_getElem hlt
        obtain ⟨S2, g2, r2⟩ := wk.yld i ds[i] S' H' x H2 ss g.sub hd y
        obtain ⟨envB, hB⟩ := hbd ds i ds[i] envI p1 hd hI
        refine ⟨S2, ds[i], envI, envB, g2.sub, rs.mono g2.s, r2, hB, fun σ3 rs3 => ?_⟩
        have gA := g.trans g2.up0
        exact ⟨(ds, i, ds[i], envI, envB), ⟨p1, hd, hI, hB⟩, S2, ⟨g2.sub, V.gr0 g2 j, rs3⟩, fun env' σ4 S4 H4 n4 g4 j4 r4 => ⟨by omega, S4, env', gA.trans g4, (ss.trans g2.s).trans g4.s, j4, r4, n4⟩,
          fun d v S4 H4 p4 g4 => k2 d v S4 H4 p4 (gA.trans g4), fun er cls dd σ4 S4 H4 p4 g4 => k3 er cls dd σ4 S4 H4 p4 (gA.trans g4)⟩
      · have e : i = ds.length := by omega
        subst e
        exact .inl ⟨wk.stop _ H' (ss.trans g.sub) (Nat.le_refl _), k1 envI σ' S' H' (hn ds envI p1 hI) g j rs⟩⟩⟩
end
/-! ### while -/
section
variable {X : Cx} {C : Addr} {T : Tx} {V : Vo} {env : List En} {c : Expr} {pos : Pos} {N : List En → Prop} {Rt : D → Prop} {W : WX} {Et : Err → Prop} {body : List Stmt}
/-- I m env: the invariant, m the measure; cond: what the test answers -/
theorem jst_while (I : Nat → List En → Prop) (cond : List En → Bool) (hp : PassesOwn (model X.prog X.w) X.A X.env X.xe) (hc : ∀ env, (∃ m, I m env) → JT X C V env c (· = cond env)) (m0 : Nat) (h0 : I m0 env)
    (hb : ∀ q : Nat × List En, (I q.1 q.2 ∧ cond q.2 = true) → JS X C T V q.2 body (fun env' => ∃ m', m' < q.1 ∧ I m' env') Rt W Et) (hn : ∀ m env', I m env' → cond env' = false → N env') : JSt X C T V env (.While c body [] pos) N Rt W Et :=
  (ps_while hp (pt_fam (P := fun env => ∃ m, I m env) hc) (pss_fam hb)).weak fun D σ H ⟨S, o, k1, k2, k3⟩ =>
    ⟨fun m σ' H' => ∃ S' envI, Gr V.M S H S' H' ∧ V.J S' H' ∧ RS X.K C S' σ' envI ∧ I m envI, ⟨m0, S, env, .refl o.sub, o.j, o.rs, h0⟩, fun m σ' H' ⟨S', envI, g, j, rs, hI⟩ =>
      ⟨envI, ⟨m, hI⟩, S', ⟨g.sub, j, rs⟩, fun b S2 H2 eb g2 j2 => by
        have gA := g.trans g2
        cases b with
        | true =>
          refine iteT ⟨fun σ3 H3 => ∃ m', m' < m ∧ ∃ S3 env3, Gr V.M S H S3 H3 ∧ V.J S3 H3 ∧ RS X.K C S3 σ3 env3 ∧ I m' env3, fun σ3 H3 ⟨m', hm, q⟩ => ⟨m', hm, q⟩, (m, envI), ⟨hI, eb.symm⟩, S2, ⟨g2.sub, j2, rs.mono g2.s⟩, fun env3 σ3 S3 H3 ⟨m', hm, hI'⟩ g3 j3 r3 => ⟨m', hm, S3, env3, gA.trans g3, j3, r3, hI'⟩,
            fun d v S4 H4 p4 g4 => k2 d v S4 H4 p4 (gA.trans g4), fun er cls dd σ4 S4 H4 p4 g4 => k3 er cls dd σ4 S4 H4 p4 (gA.trans g4)⟩
        | false => exact iteF (k1 envI σ' S2 H2 (hn m envI hI eb.symm) gA j2 (rs.mono g2.s))⟩⟩
end

/-! ### comprehensions -/
/-- what may be made of the items ds: the test's answer, the value -/
inductive Lc (t : D → Bool → Prop) (f : D → D → Prop) : List D → List D → Prop
  | nil : Lc t f [] []
  | yes {d y : D} {ds ys : List D} (ht : t d true) (hf : f d y) (r : Lc t f ds ys) : Lc t f (d :: ds) (y :: ys)
  | no {d : D} {ds ys : List D} (ht : t d false) (r : Lc t f ds ys) : Lc t f (d :: ds) ys
theorem Lc.snocY {t : D → Bool → Prop} {f : D → D → Prop} {d y : D} (ht : t d true) (hf : f d y) : ∀ {ds ys : List D}, Lc t f ds ys → Lc t f (ds ++ [d]) (ys ++ [y])
  | _, _, .nil => .yes ht hf .nil
  | _, _, .yes h1 h2 r => .yes h1 h2 (Lc.snocY ht hf r)
  | _, _, .no h1 r => .no h1 (Lc.snocY ht hf r)
theorem Lc.snocN {t : D → Bool → Prop} {f : D → D → Prop} {d : D} (ht : t d false) : ∀ {ds ys : List D}, Lc t f ds ys → Lc t f (ds ++ [d]) ys
  | _, _, .nil => .no ht .nil
  | _, _, .yes h1 h2 r => .yes h1 h2 (Lc.snocN ht r)
  | _, _, .no h1 r => .no h1 (Lc.snocN ht r)
theorem Lc.length_le {t : D → Bool → Prop} {f : D → D → Prop} : ∀ {ds ys : List D}, Lc t f ds ys → ys.length ≤ ds.length
  | _, _, .nil => Nat.le_refl _
  | _, _, .yes h1 h2 r => Nat.succ_le_succ (Lc.length_le r)
  | _, _, .no h1 r => Nat.le_succ_of_le (Lc.length_le r)
theorem Lc.det {t : D → Bool} {f : D → D} : ∀ {ds ys : List D}, Lc (fun d b => b = t d) (fun d y => y = f d) ds ys → ys = (ds.filter t).map f
  | _, _, .nil => rfl
  | d :: ds, _, .yes h1 h2 r => by
    rw [List.filter_cons, if_pos h1.symm, List.map_cons, h2, Lc.det r]
  | d :: ds, _, .no h1 r => by
    rw [List.filter_cons, if_neg (by rw [← h1]; decide), Lc.det r]
def tJTs (K : PySem.W.Frag) (C : Addr) (V : Vo) (env : List En) (Φ : Bool → Prop) : TT := tJT K C V env Φ
theorem jts_nil {X : Cx} {C : Addr} {V : Vo} {env : List En} : PTs X [] (tJT X.K C V env (· = true)) := by
  refine ⟨fun pins s σ H Q I h => ?_⟩
  obtain ⟨S, o, k⟩ := h
  exact pts_nil.run pins s σ H Q I (k true S H rfl (.refl o.sub) o.j)
theorem _root_.L2.PTs.weak {X : Cx} {es : List Expr} {t t' : TT} (h : PTs X es t) (w : ∀ σ H Q, t' σ H Q → t σ H Q) : PTs X es t' := ⟨fun pins s σ H Q I q => h.run pins s σ H Q I (w σ H Q q)⟩
theorem pts_fam {X : Cx} {es : List Expr} {α : Type} {P : α → Prop} {t : α → TT} (h : ∀ a, P a → PTs X es (t a)) : PTs X es (fun σ H Q => ∃ a, P a ∧ t a σ H Q) := ⟨fun pins s σ H Q I ⟨a, p, q⟩ => (h a p).run pins s σ H Q I q⟩
/-- the slots that a block's item has changed are the block's own -/
def Own (vs : List Nat) (env env' : List En) : Prop := wipeE env' vs = wipeE env vs
section
variable {X : Cx} {C : Addr} {V : Vo} {env : List En} {tg iter elt : Expr} {ifs : List Expr} {pos : Pos} {Φl : List D → Prop} {scope : Scope} {own : List (Str × Nat)} {g : TG} {bind : List En → D → List En → Prop} {Φ : D → Prop}
/-- the reading of a block's target: the slots' own wipe is kept -/
def gB (K : PySem.W.Frag) (C : Addr) (vs : List Nat) (bind : List En → D → List En → Prop) : TG := fun v σ H Q => ∃ S d env env', Same S H ∧ RS K C S σ env ∧ R K C S d v ∧ bind env d env' ∧ ∀ σ', RS K C S σ' env' → L2.wipe σ' vs = L2.wipe σ vs → Q σ' H
theorem wipe_set {σ : L2.St} {i : Nat} {o : Option L2.V} : ∀ {vs : List Nat}, i ∈ vs → L2.wipe (σ.set i o) vs = L2.wipe σ vs
  | [], h => by simp at h
  | v :: vs, h => by
    show (L2.wipe (σ.set i o) vs).set v none = (L2.wipe σ vs).set v none
    by_cases hv : i ∈ vs
    · rw [wipe_set hv]
    · have e : i = v := by
        rcases List.mem_cons.mp h with e | e
        · exact e
        · exact absurd e hv
      subst e
      have : ∀ ws : List Nat, i ∉ ws → L2.wipe (σ.set i o) ws = (L2.wipe σ ws).set i o := by
        intro ws
        induction ws with
        | nil => intro _; rfl
        | cons w ws ih =>
          intro hn
          show (L2.wipe (σ.set i o) ws).set w none = ((L2.wipe σ ws).set w none).set i o
          rw [ih (fun z => hn (List.mem_cons_of_mem _ z)), List.set_comm _ _ (show i ≠ w from fun z => hn (by rw [z]; exact List.mem_cons_self))]
      rw [this vs hv, List.set_set]
theorem jgb_name {Xb : Cx} {n : Str} {i : Nat} {vs : List Nat} (hN : Xb.N.Nodup) (hi : Xb.N[i]? = some n) (hx : Loc Xb.env.scope n) (hv : i ∈ vs) (hf : Xb.fn n = true ∨ Xb.env.scope.names.lookup n = some .local := by first | exact .inl rfl | exact .inr rfl | assumption) : PG Xb (.Name n pos) (gB Xb.K C vs (bN i)) :=
  (pg_name hN hi hx hf).weak fun v σ H Q ⟨S, d, env, env', hs, rs, r, b, q⟩ => q _ (by subst b; exact rs.setD i r) (wipe_set hv)
theorem gNs_runB {K : PySem.W.Frag} {S H : Hp} {vs : List Nat} {Q : L2.St → Hp → Prop} : ∀ {is : List Nat} {ds : List D} {xs : List L2.V} {σ : L2.St} {env : List En}, RL K C S ds xs → ds.length = is.length → (∀ i ∈ is, i ∈ vs) → RS K C S σ env → (∀ σ', RS K C S σ' (setAll env is ds) → L2.wipe σ' vs = L2.wipe σ vs → Q σ' H) → gNs is xs σ H Q
  | [], [], xs, σ, env, h, _, _, rs, q => by
    rw [RL.nil_iff] at h
    exact ⟨h, q σ rs rfl⟩
  | i :: is, d :: ds, xs, σ, env, h, hl, hv, rs, q => by
    obtain ⟨x, r, e, h1, h2⟩ := RL.cons_iff.mp h
    exact ⟨x, r, e, gNs_runB h2 (by simpa using hl) (fun j hj => hv j (List.mem_cons_of_mem _ hj)) (rs.setD i h1) fun σ' r' w' => q σ' r' (w'.trans (wipe_set (hv i List.mem_cons_self)))⟩
theorem jgb_tup {Xb : Cx} {es : List Expr} {k : Nat} {is vs : List Nat} (hc : Xb.calm = true) (h : PGs Xb es (gNs is)) (hv : ∀ i ∈ is, i ∈ vs)
    (hn : (assignEach es Xb.env).length = is.length := by rfl) (hst : (assignEach es Xb.env).findIdx? (·.1) = none := by rfl) : PG Xb (.Tuple es k pos) (gB Xb.K C vs (bT is)) :=
  (pg_tup hc h hn hst).weak fun v σ H Q ⟨S, d, env, env', hs, rs, r, ⟨ds, e1, e2, e3⟩, q⟩ => by
    subst e1 e3
    obtain ⟨a, xs, e, h1, h2⟩ := R.tup_iff.mp r
    exact ⟨a, xs, e, Same.seqT hs h1, by rw [h2.length, e2], gNs_runB h2 e2 hv rs q⟩
/-- the block's reading from the judgements of its parts -/
theorem lc_read {K : PySem.W.Frag} {tq : D → Bool → Prop} {fq : D → D → Prop} {vs : List Nat} (hbd : ∀ ds d, Φl ds → d ∈ ds → ∃ env', bind (wipeE env vs) d env')
    (hz : ∀ ds, Φl ds → ds.length ≤ 1000000) (hΦ : ∀ ds ys, Φl ds → Lc tq fq ds ys → Φ (.lst ys)) : ∀ σ H Q, tJ K C V env Φ σ H Q →
      tLc (iJ K C V env Φl) (gB K C vs bind) (fun σ H Q => ∃ q : D × List En, ((∃ ds, Φl ds ∧ q.1 ∈ ds) ∧ bind (wipeE env vs) q.1 q.2) ∧ tJT K C V q.2 (tq q.1) σ H Q)
        (fun σ H Q => ∃ q : D × List En, (((∃ ds, Φl ds ∧ q.1 ∈ ds) ∧ tq q.1 true) ∧ bind (wipeE env vs) q.1 q.2) ∧ tJ K C V q.2 (fq q.1) σ H Q) vs σ H Q := fun σ H Q ⟨S, o, k⟩ => ⟨S, o, fun ds J S1 H1 p1 g1 j1 wk => fun L hL => by
  have hM := V.new hL j1
  have hLH : H L = none := by
    cases q : H L with
    | none => rfl
    | some u =>
      obtain ⟨u', q'⟩ := g1.m L u q
      rw [hL] at q'; cases q'
  have sL1 : S1 L = none := by
    cases q : S1 L with
    | none => rfl
    | some u =>
      have q' := g1.sub L u q
      rw [hL] at q'; cases q'
  exact ⟨fun i m H' => m = ds.length - i ∧ i ≤ ds.length ∧ ∃ S' ys vs', Gr V.M S H S' H' ∧ Same S1 S' ∧ V.J S' H' ∧ S' L = none ∧ H' L = some (.lst vs') ∧ RL K C S' ys vs' ∧ Lc tq fq (ds.take i) ys,
      ⟨ds.length, by omega, by omega, S1, [], [], g1.trans (Gr.mine g1.sub hL), .refl S1, V.gr0 (Gr.mine g1.sub hL) j1, sL1, upd_same, RL.nil, (by rw [List.take_zero]; exact .nil)⟩, fun i m H' ⟨em, hi, S', ys, vs', g, ss, j, sL, hL', ry, hlc⟩ => by
      by_cases hlt : i < ds.length
      · refine .inr ⟨wk.go i H' (ss.trans g.sub) hlt, fun H2 => i + 1 ≤ ds.length ∧ ∃ S' ys vs', Gr V.M S H S' H2 ∧ Same S1 S' ∧ V.J S' H2 ∧ S' L = none ∧ H2 L = some (.lst vs') ∧ RL K C S' ys vs' ∧ Lc tq fq (ds.take (i + 1)) ys, fun H2 ⟨hl, q⟩ => ⟨ds.length - (i + 1), by omega, rfl, hl, q⟩, fun x H2 y => ?_⟩
        have hd : ds[i]? = some ds[i] := List.getElem?_eq_getElem hlt
        have hm : ds[i] ∈ ds := List.getElem_mem hlt
        have htk : ds.take (i + 1) = ds.take i ++ [ds[i]] := by rw [List.take_succ, hd]; rfl
        obtain ⟨S2, g2, r2⟩ := wk.yld i ds[i] S' H' x H2 ss g.sub hd y
        obtain ⟨env', hB⟩ := hbd ds ds[i] p1 hm
        have rs2 : RS K C S2 (L2.wipe σ vs) (wipeE env vs) := RS.wipe ((o.rs.mono g.s).mono g2.s) vs
        have j2 := V.gr0 g2 j
        have gA := g.trans g2.up0
        have sL2 := g2.n L _ hL' sL
        refine ⟨S2, ds[i], wipeE env vs, env', g2.sub, rs2, r2, hB, fun σ3 rs3 hw => ⟨hw.trans ?_, (ds[i], env'), ⟨⟨ds, p1, hm⟩, hB⟩, S2, ⟨g2.sub, j2, rs3⟩, fun b S3 H3 hb g3 j3 => ?_⟩⟩
        · have : ∀ ws : List Nat, ∀ τ : L2.St, (∀ i ∈ ws, τ[i]? = none ∨ τ[i]? = some none) → L2.wipe τ ws = τ := by
            intro ws
            induction ws with
            | nil => intro τ _; rfl
            | cons w ws ih =>
              intro τ hτ
              show (L2.wipe τ ws).set w none = τ
              rw [ih τ fun i hi => hτ i (List.mem_cons_of_mem _ hi)]
              rcases hτ w List.mem_cons_self with q | q
              · exact List.set_eq_of_length_le (List.getElem?_eq_none_iff.mp q)
              · obtain ⟨q1, q2⟩ := List.getElem?_eq_some_iff.mp q
                apply List.ext_getElem?
                intro j
                rw [List.getElem?_set]
                by_cases hj : w = j
                · subst hj
                  rw [if_pos rfl, if_pos q1, q]
                · rw [if_neg hj]
          refine this vs _ fun i hi => ?_
          cases q : (L2.wipe σ vs)[i]? with
          | none => exact .inl rfl
          | some u =>
            cases u with
            | none => exact .inr rfl
            | some v => exact absurd hi (L2.wipe_some q).2
        · have hL2 : H2 L = some (.lst vs') := g2.h L _ (fun z => z) hL'
          have hL3 : H3 L = some (.lst vs') := g3.h L _ hM hL2
          have sL3 := g3.n L _ hL2 sL2
          cases b with
          | false => exact iteF ⟨by omega, S3, ys, vs', gA.trans g3, (ss.trans g2.s).trans g3.s, j3, sL3, hL3, (ry.mono g2.s).mono g3.s, by rw [htk]; exact hlc.snocN hb⟩
          | true =>
            refine iteT ⟨(ds[i], env'), ⟨⟨⟨ds, p1, hm⟩, hb⟩, hB⟩, S3, ⟨g3.sub, j3, rs3.mono g3.s⟩, fun z v S4 H4 pz g4 j4 r4 => ?_⟩
            have hL4 : H4 L = some (.lst vs') := g4.h L _ hM hL3
            have sL4 := g4.n L _ hL3 sL3
            have gB := (gA.trans g3).trans g4
            refine ⟨vs', hL4, ?_, by omega, S4, ys ++ [z], vs' ++ [v], gB.mut sL4 hLH, ((ss.trans g2.s).trans g3.s).trans g4.s, V.mut hM sL4 gB.sub j4, sL4, upd_same, (((ry.mono g2.s).mono g3.s).mono g4.s).snoc r4, by rw [htk]; exact hlc.snocY hb pz⟩
            have h1 := hlc.length_le
            rw [List.length_take] at h1
            have h2 := hz ds p1
            rw [ry.length]
            exact Nat.lt_of_lt_of_le (show ys.length < 1000001 by omega) (by rw [sizeLine_eq]; decide)
      · have e : i = ds.length := by omega
        subst e
        rw [List.take_length] at hlc
        exact .inl ⟨wk.stop _ H' (ss.trans g.sub) (Nat.le_refl _), k (.lst ys) (.ref L) (upd S' L (.lst vs')) H' (hΦ ds ys p1 hlc) (g.rel sL hLH hL') (V.rel hM sL hL' g.sub j) (R.mkL upd_same (ry.mono fun p u q => by rw [upd_ne (ne_of_none q sL)]; exact q))⟩⟩⟩
end
end RQ

/-! RqD: comprehensions as values; operations on deep values. -/
namespace RQ
open PySem PySem.Spec PyProof.Rows L2

section
variable {X : Cx} {C : Addr} {T : Tx} {V : Vo} {env : List En} {tg iter elt : Expr} {ifs : List Expr} {pos : Pos} {Φl : List D → Prop} {scope : Scope} {own : List (Str × Nat)} {bind : List En → D → List En → Prop} {Φ : D → Prop}
/-- [elt for tg in iter if ..] -/
theorem je_lcG {tq : D → Bool → Prop} {fq : D → D → Prop} (hc : X.calm = true) (hN : X.N.Nodup) (hi : JI X C V env tg iter Φl) (ok : BlkOk X.N X.env.scope scope own)
    (hg : ∀ (s : Shared) (H : Hp) (Cc : Addr) (cl : List (Str × Addr)) (fp : List Addr), PG (X.blk s H scope (compEnvC scope cl Cc X.env) fp) tg (gB X.K C (own.map (·.2)) bind))
    (ht : ∀ (s : Shared) (H : Hp) (Cc : Addr) (cl : List (Str × Addr)) (fp : List Addr) (q : D × List En), ((∃ ds, Φl ds ∧ q.1 ∈ ds) ∧ bind (wipeE env (own.map (·.2))) q.1 q.2) → PTs (X.blk s H scope (compEnvC scope cl Cc X.env) fp) ifs (tJT X.K C V q.2 (tq q.1)))
    (he : ∀ (s : Shared) (H : Hp) (Cc : Addr) (cl : List (Str × Addr)) (fp : List Addr) (q : D × List En), (((∃ ds, Φl ds ∧ q.1 ∈ ds) ∧ tq q.1 true) ∧ bind (wipeE env (own.map (·.2))) q.1 q.2) → PE (X.blk s H scope (compEnvC scope cl Cc X.env) fp) elt (tJ X.K C V q.2 (fq q.1)))
    (hbd : ∀ ds d, Φl ds → d ∈ ds → ∃ env', bind (wipeE env (own.map (·.2))) d env') (hz : ∀ ds, Φl ds → ds.length ≤ 1000000) (hΦ : ∀ ds ys, Φl ds → Lc tq fq ds ys → Φ (.lst ys)) (hs : ∀ x, foldedSetIterable iter X.env x = pure x := by intro _; rfl) :
    JE X C V env (.ListComp elt [⟨tg, iter, ifs, 0⟩] scope pos) Φ :=
  (pe_lc hc hN hi ok hg (fun s H Cc cl fp => pts_fam (ht s H Cc cl fp)) (fun s H Cc cl fp => pe_fam (he s H Cc cl fp)) hs).weak (lc_read hbd hz hΦ)
/-- x = [..] -/
theorem jst_lcG {tq : D → Bool → Prop} {fq : D → D → Prop} {i : Nat} {y : Str} {py spos : Pos} {Rt : D → Prop} {W : WX} {Et : Err → Prop} (hc : X.calm = true) (hN : X.N.Nodup) (hy : X.N[i]? = some y) (hyl : X.env.scope.names.lookup y = some .local)
    (hsw : swapsWith (.ListComp elt [⟨tg, iter, ifs, 0⟩] scope pos) (some (.Name y py)) spos.line X.env = pure true) (hi : JI X C V env tg iter Φl) (ok : BlkOk X.N X.env.scope scope own)
    (hg : ∀ (s : Shared) (H : Hp) (Cc : Addr) (cl : List (Str × Addr)) (fp : List Addr), PG (X.blk s H scope (compEnvC scope cl Cc X.env) fp) tg (gB X.K C (own.map (·.2)) bind))
    (ht : ∀ (s : Shared) (H : Hp) (Cc : Addr) (cl : List (Str × Addr)) (fp : List Addr) (q : D × List En), ((∃ ds, Φl ds ∧ q.1 ∈ ds) ∧ bind (wipeE env (own.map (·.2))) q.1 q.2) → PTs (X.blk s H scope (compEnvC scope cl Cc X.env) fp) ifs (tJT X.K C V q.2 (tq q.1)))
    (he : ∀ (s : Shared) (H : Hp) (Cc : Addr) (cl : List (Str × Addr)) (fp : List Addr) (q : D × List En), (((∃ ds, Φl ds ∧ q.1 ∈ ds) ∧ tq q.1 true) ∧ bind (wipeE env (own.map (·.2))) q.1 q.2) → PE (X.blk s H scope (compEnvC scope cl Cc X.env) fp) elt (tJ X.K C V q.2 (fq q.1)))
    (hbd : ∀ ds d, Φl ds → d ∈ ds → ∃ env', bind (wipeE env (own.map (·.2))) d env') (hz : ∀ ds, Φl ds → ds.length ≤ 1000000) (hΦ : ∀ ds ys, Φl ds → Lc tq fq ds ys → Φ (.lst ys)) (hs : ∀ x, foldedSetIterable iter X.env x = pure x := by intro _; rfl) :
    JSt X C T V env (.Assign [.Name y py] (.ListComp elt [⟨tg, iter, ifs, 0⟩] scope pos) spos) (fun env' => ∃ d, Φ d ∧ env' = env.set i (.d d)) Rt W Et :=
  (ps_setLc hc hN hy hyl hsw hi ok hg (fun s H Cc cl fp => pts_fam (ht s H Cc cl fp)) (fun s H Cc cl fp => pe_fam (he s H Cc cl fp)) hs).weak fun D σ H ⟨S, o, k1, _, _⟩ =>
    lc_read (V := V) (Φ := Φ) hbd hz hΦ σ H _ ⟨S, o, fun d v S' H' p g j r => k1 _ _ S' H' ⟨d, p, rfl⟩ g j ((o.rs.mono g.s).setD i r)⟩
/-- items known, the target a name -/
theorem je_lcN {j : Nat} {n : Str} {p : Pos} {ds : List D} (t : D → Bool) (f : D → D) (hc : X.calm = true) (hN : X.N.Nodup) (hi : JI X C V env (.Name n p) iter (· = ds)) (ok : BlkOk X.N X.env.scope scope own)
    (hg : ∀ (s : Shared) (H : Hp) (Cc : Addr) (cl : List (Str × Addr)) (fp : List Addr), PG (X.blk s H scope (compEnvC scope cl Cc X.env) fp) (.Name n p) (gB X.K C (own.map (·.2)) (bN j)))
    (ht : ∀ (s : Shared) (H : Hp) (Cc : Addr) (cl : List (Str × Addr)) (fp : List Addr) (d : D), d ∈ ds → PTs (X.blk s H scope (compEnvC scope cl Cc X.env) fp) ifs (tJT X.K C V ((wipeE env (own.map (·.2))).set j (.d d)) (· = t d)))
    (he : ∀ (s : Shared) (H : Hp) (Cc : Addr) (cl : List (Str × Addr)) (fp : List Addr) (d : D), d ∈ ds → t d = true → PE (X.blk s H scope (compEnvC scope cl Cc X.env) fp) elt (tJ X.K C V ((wipeE env (own.map (·.2))).set j (.d d)) (· = f d)))
    (hz : ds.length ≤ 1000000) (hs : ∀ x, foldedSetIterable iter X.env x = pure x := by intro _; rfl) :
    JE X C V env (.ListComp elt [⟨.Name n p, iter, ifs, 0⟩] scope pos) (· = .lst ((ds.filter t).map f)) :=
  je_lcG (bind := bN j) (tq := fun d b => b = t d) (fq := fun d y => y = f d) hc hN hi ok
    hg
    (fun s H Cc cl fp q ⟨⟨ds', e1, h1⟩, h2⟩ => by subst e1; have h2 : q.2 = (wipeE env (own.map (·.2))).set j (.d q.1) := h2; rw [h2]; exact ht s H Cc cl fp q.1 h1)
    (fun s H Cc cl fp q ⟨⟨⟨ds', e1, h1⟩, h3⟩, h2⟩ => by subst e1; have h2 : q.2 = (wipeE env (own.map (·.2))).set j (.d q.1) := h2; rw [h2]; exact he s H Cc cl fp q.1 h1 h3.symm)
    (fun _ _ _ _ => ⟨_, rfl⟩) (fun ds' e => by subst e; exact hz) (fun ds' ys e r => by subst e; rw [Lc.det r]) hs
theorem ptsE {c : Expr} {Xb : Cx} {b : Bool} (h : JT Xb C V env c (· = b)) : PTs Xb [c] (tJT Xb.K C V env (· = b)) := pts_one h
theorem filter_yes {ds : List D} : ds.filter (fun _ => true) = ds := List.filter_eq_self.mpr fun _ _ => rfl
end

/-! ### operations of two values -/
section
variable {K : PySem.W.Frag} {C : Addr} {x y z : D} {r : R2} {i j : Int}
theorem o2_of (h : ∀ S H u v, Same S H → R K C S x u → R K C S y v → ∃ w, R K C S z w ∧ ∀ Q : VK, Q w H → r u v H Q) : O2 K C r x y z := fun S H u v e r1 r2 Q q => by
  obtain ⟨w, h1, h2⟩ := h S H u v e r1 r2
  exact h2 Q (q w S H (.refl e) h1)
theorem o2_I0 {g : Int → Int → V} (hz : ∀ S, R K C S z (g i j)) : O2 K C (rI0 g) (.int i) (.int j) z := o2_of fun S H u v e r1 r2 => by
  rw [R.int_iff] at r1 r2
  subst r1 r2
  exact ⟨_, hz S, fun Q q => ⟨i, j, rfl, rfl, q⟩⟩
theorem o2_I {c : Int → Int → Prop} {g : Int → Int → V} (hc : c i j) (hz : ∀ S, R K C S z (g i j)) : O2 K C (rI c g) (.int i) (.int j) z := o2_of fun S H u v e r1 r2 => by
  rw [R.int_iff] at r1 r2
  subst r1 r2
  exact ⟨_, hz S, fun Q q => ⟨i, j, rfl, rfl, hc, q⟩⟩
theorem o2_scal {ne : Bool} : True := True.intro
end
section
variable {X : Cx} {C : Addr} {V : Vo} {env : List En} {e a b : Expr} {pos : Pos} {x y : D} {i j : Int}
theorem je_op1 {op : Operator} {r : R2} {z : D} (ho : OpR X (binaryOp op) r) (ha : JE X C V env a (· = x)) (hb : JE X C V env b (· = y)) (hd : O2 X.K C r x y z) : JE X C V env (.BinOp a op b pos) (· = z) :=
  je_op ho ha hb fun x' y' e1 e2 => ⟨z, rfl, by subst e1 e2; exact hd⟩
theorem je_cmp1 {op : CmpOp} {r : R2} {z : D} (ho : OpR X (compareOp op) r) (ha : JE X C V env a (· = x)) (hb : JE X C V env b (· = y)) (hd : O2 X.K C r x y z) (hm : behindInMarks op b = false) : JE X C V env (.Compare a [op] [b] pos) (· = z) :=
  je_cmp ho ha hb (fun x' y' e1 e2 => ⟨z, rfl, by subst e1 e2; exact hd⟩) hm
theorem jt_cmp1 {op : CmpOp} {r : R2} {c : Bool} (ho : OpR X (compareOp op) r) (ha : JE X C V env a (· = x)) (hb : JE X C V env b (· = y)) (hd : O2 X.K C r x y (.bl c)) (hm : behindInMarks op b = false) : JT X C V env (.Compare a [op] [b] pos) (· = c) :=
  jt_cmp ho ha hb (fun x' y' e1 e2 => ⟨c, rfl, by subst e1 e2; exact hd⟩) hm
theorem je_add (ha : JE X C V env a (· = .int i)) (hb : JE X C V env b (· = .int j)) : JE X C V env (.BinOp a .Add b pos) (· = .int (i + j)) := je_op1 op_add ha hb (o2_I0 fun S => R.int_iff.mpr rfl)
theorem je_sub (ha : JE X C V env a (· = .int i)) (hb : JE X C V env b (· = .int j)) : JE X C V env (.BinOp a .Sub b pos) (· = .int (i - j)) := je_op1 op_sub ha hb (o2_I0 fun S => R.int_iff.mpr rfl)
theorem je_mul (ha : JE X C V env a (· = .int i)) (hb : JE X C V env b (· = .int j)) (hc : CMul i j) : JE X C V env (.BinOp a .Mult b pos) (· = .int (i * j)) := je_op1 op_mul ha hb (o2_I hc fun S => R.int_iff.mpr rfl)
theorem je_mulW (ha : JE X C V env a (· = .int i)) (hb : JE X C V env b (· = .int j)) (hc : CMulW i j) : JE X C V env (.BinOp a .Mult b pos) (· = .int (i * j)) := je_op1 op_mulW ha hb (o2_I hc fun S => R.int_iff.mpr rfl)
theorem je_div (ha : JE X C V env a (· = .int i)) (hb : JE X C V env b (· = .int j)) (hc : CDivW i j) : JE X C V env (.BinOp a .FloorDiv b pos) (· = .int (i / j)) := je_op1 op_fdivW ha hb (o2_I hc fun S => R.int_iff.mpr rfl)
theorem je_mod (ha : JE X C V env a (· = .int i)) (hb : JE X C V env b (· = .int j)) (hc : 0 < j) : JE X C V env (.BinOp a .Mod b pos) (· = .int (i % j)) := je_op1 op_mod ha hb (o2_I hc fun S => R.int_iff.mpr rfl)
theorem je_pow (ha : JE X C V env a (· = .int i)) (hb : JE X C V env b (· = .int j)) (hc : CPow i j) : JE X C V env (.BinOp a .Pow b pos) (· = .int (i ^ j.toNat)) := je_op1 op_pow ha hb (o2_I hc fun S => R.int_iff.mpr rfl)
theorem je_neg (ha : JE X C V env a (· = .int i)) : JE X C V env (.UnaryOp .USub a pos) (· = .int (-i)) := (pe_un un_neg ha).weak fun σ H Q ⟨S, o, k⟩ => ⟨S, o, fun d v S' H' p g jj r => by
  subst p
  rw [R.int_iff] at r
  subst r
  exact ⟨i, rfl, k _ _ S' H' rfl g jj (R.int_iff.mpr rfl)⟩⟩
theorem je_lt (ha : JE X C V env a (· = .int i)) (hb : JE X C V env b (· = .int j)) : JE X C V env (.Compare a [.Lt] [b] pos) (· = .bl (decide (i < j))) := je_cmp1 op_lt ha hb (o2_I0 fun S => R.bl_iff.mpr rfl) (nomark _)
theorem je_le (ha : JE X C V env a (· = .int i)) (hb : JE X C V env b (· = .int j)) : JE X C V env (.Compare a [.LtE] [b] pos) (· = .bl (decide (i ≤ j))) := je_cmp1 op_le ha hb (o2_I0 fun S => R.bl_iff.mpr rfl) (nomark _)
theorem je_gt (ha : JE X C V env a (· = .int i)) (hb : JE X C V env b (· = .int j)) : JE X C V env (.Compare a [.Gt] [b] pos) (· = .bl (decide (j < i))) := je_cmp1 op_gt ha hb (o2_I0 fun S => R.bl_iff.mpr rfl) (nomark _)
theorem je_ge (ha : JE X C V env a (· = .int i)) (hb : JE X C V env b (· = .int j)) : JE X C V env (.Compare a [.GtE] [b] pos) (· = .bl (decide (j ≤ i))) := je_cmp1 op_ge ha hb (o2_I0 fun S => R.bl_iff.mpr rfl) (nomark _)
theorem jt_lt (ha : JE X C V env a (· = .int i)) (hb : JE X C V env b (· = .int j)) : JT X C V env (.Compare a [.Lt] [b] pos) (· = decide (i < j)) := jt_cmp1 op_lt ha hb (o2_I0 fun S => R.bl_iff.mpr rfl) (nomark _)
theorem jt_le (ha : JE X C V env a (· = .int i)) (hb : JE X C V env b (· = .int j)) : JT X C V env (.Compare a [.LtE] [b] pos) (· = decide (i ≤ j)) := jt_cmp1 op_le ha hb (o2_I0 fun S => R.bl_iff.mpr rfl) (nomark _)
theorem jt_gt (ha : JE X C V env a (· = .int i)) (hb : JE X C V env b (· = .int j)) : JT X C V env (.Compare a [.Gt] [b] pos) (· = decide (j < i)) := jt_cmp1 op_gt ha hb (o2_I0 fun S => R.bl_iff.mpr rfl) (nomark _)
theorem jt_ge (ha : JE X C V env a (· = .int i)) (hb : JE X C V env b (· = .int j)) : JT X C V env (.Compare a [.GtE] [b] pos) (· = decide (j ≤ i)) := jt_cmp1 op_ge ha hb (o2_I0 fun S => R.bl_iff.mpr rfl) (nomark _)
/-- lo <= x <= hi -/
theorem jw_chainLe {c : Expr} {k : Int} (ha : JE X C V env a (· = .int i)) (hb : JE X C V env b (· = .int j)) (hc : JE X C V env c (· = .int k)) (hm : lastMarks [.LtE, .LtE] [b, c] = false := by rfl) : JE X C V env (.Compare a [.LtE, .LtE] [b, c] pos) (· = .bl (decide (i ≤ j) && decide (j ≤ k))) :=
  (pe_chain op_le op_le ha hb hc hm).weak fun σ H Q ⟨S, o, q⟩ => ⟨S, o, fun d1 v1 S1 H1 p1 g1 j1 r1 => ⟨S1, o.gr g1 j1, fun d2 v2 S2 H2 p2 g2 j2 r2 => by
    subst p1 p2
    rw [R.int_iff] at r1 r2
    subst r1 r2
    refine ⟨i, j, rfl, rfl, decide (i ≤ j), rfl, ?_⟩
    by_cases hij : i ≤ j
    · rw [decide_eq_true hij]
      refine iteT ⟨S2, (o.gr g1 j1).gr g2 j2, fun d3 v3 S3 H3 p3 g3 j3 r3 => ?_⟩
      subst p3
      rw [R.int_iff] at r3
      subst r3
      exact ⟨j, k, rfl, rfl, q _ _ S3 H3 (by rw [decide_eq_true hij, Bool.true_and]) ((g1.trans g2).trans g3) j3 (R.bl_iff.mpr rfl)⟩
    · rw [decide_eq_false hij]
      exact iteF (q _ _ S2 H2 (by rw [decide_eq_false hij, Bool.false_and]) (g1.trans g2) j2 (R.bl_iff.mpr rfl))⟩⟩
/-- is None -/
def isNon : D → Bool
  | .non => true
  | .raw v => decide (v = .non)
  | _ => false
theorem R.isNon {K : PySem.W.Frag} {S : Hp} {v : L2.V} : ∀ {d : D}, R K C S d v → decide (v = .non) = isNon d
  | .non, h => by rw [R.non_iff] at h; subst h; rfl
  | .bl b, h => by rw [R.bl_iff] at h; subst h; rfl
  | .int b, h => by rw [R.int_iff] at h; subst h; rfl
  | .str b, h => by rw [R.str_iff] at h; subst h; rfl
  | .raw b, h => by rw [R.raw_iff] at h; subst h; rfl
  | .dct ks ds, h => by obtain ⟨a, xs, e, _⟩ := R.dct_iff.mp h; subst e; rfl
  | .tbl l, h => by obtain ⟨a, e, _⟩ := R.tbl_iff.mp h; subst e; rfl
  | .tup ds, h => by obtain ⟨a, xs, e, _⟩ := R.tup_iff.mp h; subst e; rfl
  | .lst ds, h => by obtain ⟨a, xs, e, _⟩ := R.lstL h; subst e; rfl
  | .fil s p t, h => by obtain ⟨a, dx, x, y, z, e, _⟩ := R.fil_iff.mp h; subst e; rfl
theorem o2_isN {K : PySem.W.Frag} : O2 K C (fun x y H Q => y = .non ∧ Q (.bl (decide (x = .non))) H) x .non (.bl (isNon x)) := o2_of fun S H u v e r1 r2 => by
  rw [R.non_iff] at r2
  exact ⟨_, R.bl_iff.mpr (by rw [r1.isNon]), fun Q q => ⟨r2, q⟩⟩
theorem o2_notN {K : PySem.W.Frag} : O2 K C (fun x y H Q => y = .non ∧ Q (.bl (!decide (x = .non))) H) x .non (.bl (!isNon x)) := o2_of fun S H u v e r1 r2 => by
  rw [R.non_iff] at r2
  exact ⟨_, R.bl_iff.mpr (by rw [r1.isNon]), fun Q q => ⟨r2, q⟩⟩
theorem je_isN {jj} {p2 : Pos} (ha : JE X C V env a (· = x)) : JE X C V env (.Compare a [.Is] [.Constant .none jj p2] pos) (· = .bl (isNon x)) := je_cmp1 op_isN ha je_non o2_isN (nomark _)
theorem je_notN {jj} {p2 : Pos} (ha : JE X C V env a (· = x)) : JE X C V env (.Compare a [.IsNot] [.Constant .none jj p2] pos) (· = .bl (!isNon x)) := je_cmp1 op_notN ha je_non o2_notN (nomark _)
theorem jt_isN {jj} {p2 : Pos} (ha : JE X C V env a (· = x)) : JT X C V env (.Compare a [.Is] [.Constant .none jj p2] pos) (· = isNon x) := jt_cmp1 op_isN ha je_non o2_isN (nomark _)
theorem jt_notN {jj} {p2 : Pos} (ha : JE X C V env a (· = x)) : JT X C V env (.Compare a [.IsNot] [.Constant .none jj p2] pos) (· = !isNon x) := jt_cmp1 op_notN ha je_non o2_notN (nomark _)
end

/-! ### data: equality -/
mutual
def toP : D → PyData
  | .non => .none
  | .bl b => .bool b
  | .int i => .int i
  | .str s => .str s
  | .tup ds => .tuple (toPs ds)
  | .lst ds => .list (toPs ds)
  | .fil _ _ _ => .none
  | .raw _ => .none
  | .dct _ _ => .none
  | .tbl _ => .none
def toPs : List D → List PyData
  | [] => []
  | d :: ds => toP d :: toPs ds
/-- data without objects of one's own -/
def plain : D → Bool
  | .fil _ _ _ => false
  | .raw _ => false
  | .dct _ _ => false
  | .tbl _ => false
  | .tup ds => plains ds
  | .lst ds => plains ds
  | _ => true
def plains : List D → Bool
  | [] => true
  | d :: ds => plain d && plains ds
end
def eqD (a b : D) : Bool := PyData.eqv (toP a) (toP b)
def okD (a : D) : Bool := plain a && SeqAt.shaped (toP a)
section
variable {K : PySem.W.Frag} {C : Addr} {S H : Hp}
mutual
theorem R.dp (e : Same S H) : ∀ {d : D} {v : V}, plain d = true → R K C S d v → Dp K H v (toP d)
  | .non, v, _, h => by rw [R.non_iff] at h; subst h; exact .non
  | .bl b, v, _, h => by rw [R.bl_iff] at h; subst h; exact .bl b
  | .int b, v, _, h => by rw [R.int_iff] at h; subst h; exact .int b
  | .str b, v, _, h => by rw [R.str_iff] at h; subst h; exact .str b
  | .tup ds, v, p, h => by
    obtain ⟨a, xs, e1, h1, h2⟩ := R.tup_iff.mp h
    subst e1
    exact .tup (Same.seqT e h1) (RL.dp e (by simpa [plain] using p) h2)
  | .lst ds, v, p, h => by
    obtain ⟨a, xs, e1, h1, h2⟩ := R.lstL h
    subst e1
    exact .lst (e.seq h1) (RL.dp e (by simpa [plain] using p) h2)
  | .fil _ _ _, v, p, h => by simp [plain] at p
  | .raw _, v, p, h => by simp [plain] at p
  | .dct _ _, v, p, h => by simp [plain] at p
  | .tbl _, v, p, h => by simp [plain] at p
theorem RL.dp (e : Same S H) : ∀ {ds : List D} {vs : List V}, plains ds = true → RL K C S ds vs → DpAll K H vs (toPs ds)
  | [], vs, _, h => by rw [RL.nil_iff] at h; subst h; exact .nil
  | d :: ds, vs, p, h => by
    obtain ⟨x, r, e1, h1, h2⟩ := RL.cons_iff.mp h
    subst e1
    have p' : plain d = true ∧ plains ds = true := by simpa [plains] using p
    exact .cons (R.dp e p'.1 h1) (RL.dp e p'.2 h2)
end
end
section
variable {X : Cx} {C : Addr} {V : Vo} {env : List En} {e a b : Expr} {pos : Pos} {x y : D}
theorem o2_eq {K : PySem.W.Frag} (hx : okD x = true) (hy : okD y = true) : O2 K C (rEqD K) x y (.bl (eqD x y)) := o2_of fun S H u v e r1 r2 => by
  simp only [okD, Bool.and_eq_true] at hx hy
  exact ⟨_, R.bl_iff.mpr rfl, fun Q q => ⟨toP x, toP y, r1.dp e hx.1, r2.dp e hy.1, hx.2, hy.2, q⟩⟩
theorem o2_ne {K : PySem.W.Frag} (hx : okD x = true) (hy : okD y = true) : O2 K C (rNeD K) x y (.bl (!eqD x y)) := o2_of fun S H u v e r1 r2 => by
  simp only [okD, Bool.and_eq_true] at hx hy
  exact ⟨_, R.bl_iff.mpr rfl, fun Q q => ⟨toP x, toP y, r1.dp e hx.1, r2.dp e hy.1, hx.2, hy.2, q⟩⟩
theorem je_eq (hu : X.A.units + 64 < cLine) (ha : JE X C V env a (· = x)) (hb : JE X C V env b (· = y)) (hx : okD x = true) (hy : okD y = true) : JE X C V env (.Compare a [.Eq] [b] pos) (· = .bl (eqD x y)) := je_cmp1 (op_eqD hu) ha hb (o2_eq hx hy) (nomark _)
theorem je_ne (hu : X.A.units + 64 < cLine) (ha : JE X C V env a (· = x)) (hb : JE X C V env b (· = y)) (hx : okD x = true) (hy : okD y = true) : JE X C V env (.Compare a [.NotEq] [b] pos) (· = .bl (!eqD x y)) := je_cmp1 (op_neD hu) ha hb (o2_ne hx hy) (nomark _)
theorem jt_eq (hu : X.A.units + 64 < cLine) (ha : JE X C V env a (· = x)) (hb : JE X C V env b (· = y)) (hx : okD x = true) (hy : okD y = true) : JT X C V env (.Compare a [.Eq] [b] pos) (· = eqD x y) := jt_cmp1 (op_eqD hu) ha hb (o2_eq hx hy) (nomark _)
theorem jt_ne (hu : X.A.units + 64 < cLine) (ha : JE X C V env a (· = x)) (hb : JE X C V env b (· = y)) (hx : okD x = true) (hy : okD y = true) : JT X C V env (.Compare a [.NotEq] [b] pos) (· = !eqD x y) := jt_cmp1 (op_neD hu) ha hb (o2_ne hx hy) (nomark _)
end

/-! ### subscripts -/
section
variable {X : Cx} {C : Addr} {V : Vo} {env : List En} {e a b : Expr} {pos : Pos} {x y z : D} {ds : List D} {i : Int} {k : Nat}
theorem o2_ixT {K : PySem.W.Frag} (h : ds[k]? = some z) : O2 K C (rIxT K) (.tup ds) (.int (k : Int)) z := o2_of fun S H u v e r1 r2 => by
  obtain ⟨p, xs, e1, h1, h2⟩ := R.tup_iff.mp r1
  rw [R.int_iff] at r2
  subst e1 r2
  obtain ⟨w, h3, h4⟩ := h2.get h
  exact ⟨w, h4, fun Q q => ⟨p, xs, _, w, rfl, rfl, Same.seqT e h1, atI_nat h3, q⟩⟩
theorem o2_ixL {K : PySem.W.Frag} (h : ds[k]? = some z) : O2 K C (rIxL K) (.lst ds) (.int (k : Int)) z := o2_of fun S H u v e r1 r2 => by
  obtain ⟨p, xs, e1, h1, h2⟩ := R.lstL r1
  rw [R.int_iff] at r2
  subst e1 r2
  obtain ⟨w, h3, h4⟩ := h2.get h
  exact ⟨w, h4, fun Q q => ⟨p, xs, _, w, rfl, rfl, e.seq h1, atI_nat h3, q⟩⟩
theorem je_ixT (ha : JE X C V env a (· = .tup ds)) (hb : JE X C V env b (· = .int (k : Int))) (h : ds[k]? = some z) (hs : PlainIx b := by exact fun _ _ => rfl) : JE X C V env (.Subscript a b pos) (· = z) :=
  je_ix ix_tup ha hb hs fun x' y' e1 e2 => ⟨z, rfl, by subst e1 e2; exact o2_ixT h⟩
theorem je_ixL (ha : JE X C V env a (· = .lst ds)) (hb : JE X C V env b (· = .int (k : Int))) (h : ds[k]? = some z) (hs : PlainIx b := by exact fun _ _ => rfl) : JE X C V env (.Subscript a b pos) (· = z) :=
  je_ix ix_list ha hb hs fun x' y' e1 e2 => ⟨z, rfl, by subst e1 e2; exact o2_ixL h⟩
/-- an item of a list at a drawn place -/
theorem je_ixLR {n : Int} {Φ : D → Prop} (ha : JE X C V env a (· = .lst ds)) (hb : JE X C V env b (fun d => ∃ i : Int, d = .int i ∧ 0 ≤ i ∧ i < n)) (hn : n ≤ ds.length) (hΦ : ∀ d, d ∈ ds → Φ d) (hs : PlainIx b := by exact fun _ _ => rfl) : JE X C V env (.Subscript a b pos) Φ :=
  je_ix ix_list ha hb hs fun x' y' e1 ⟨i, e2, h0, h1⟩ => by
    subst e1 e2
    have hl : i.toNat < ds.length := by omega
    refine ⟨ds[i.toNat], hΦ _ (List.getElem_mem hl), ?_⟩
    have e : i = (i.toNat : Int) := by omega
    have h := o2_ixL (K := X.K) (C := C) (List.getElem?_eq_getElem hl)
    rw [← e] at h
    exact h
theorem je_ixTR {n : Int} {Φ : D → Prop} (ha : JE X C V env a (· = .tup ds)) (hb : JE X C V env b (fun d => ∃ i : Int, d = .int i ∧ 0 ≤ i ∧ i < n)) (hn : n ≤ ds.length) (hΦ : ∀ d, d ∈ ds → Φ d) (hs : PlainIx b := by exact fun _ _ => rfl) : JE X C V env (.Subscript a b pos) Φ :=
  je_ix ix_tup ha hb hs fun x' y' e1 ⟨i, e2, h0, h1⟩ => by
    subst e1 e2
    have hl : i.toNat < ds.length := by omega
    refine ⟨ds[i.toNat], hΦ _ (List.getElem_mem hl), ?_⟩
    have e : i = (i.toNat : Int) := by omega
    have h := o2_ixT (K := X.K) (C := C) (List.getElem?_eq_getElem hl)
    rw [← e] at h
    exact h
end

/-! ### calls of built-ins -/
def OC (K : PySem.W.Frag) (C : Addr) (r : List V → Hp → VK → Prop) (ds : List D) (z : D) : Prop := ∀ S H vs, Same S H → RL K C S ds vs → ∀ Q : VK, (∀ w S' H', Gr M0 S H S' H' → R K C S' z w → Q w H') → r vs H Q
section
variable {X : Cx} {C : Addr} {V : Vo} {env : List En} {e a b : Expr} {es : List Expr} {pos p : Pos} {x y z : D} {ds : List D} {n : Str} {id : String} {r : List L2.V → Hp → VK → Prop} {Φs : List D → Prop} {Φ : D → Prop}
theorem cb_read (hd : ∀ ds, Φs ds → ∃ z, Φ z ∧ OC X.K C r ds z) : ∀ σ H Q, tJ X.K C V env Φ σ H Q → tCB r (tJA X.K C V env Φs) σ H Q := fun σ H Q ⟨S, o, k⟩ => ⟨S, o, fun ds vs S' H' p g j rr => by
  obtain ⟨z, h1, h2⟩ := hd ds p
  exact h2 S' H' vs g.sub rr Q fun w S2 H2 g2 r2 => k z w S2 H2 h1 (g.trans g2.up0) (V.gr0 g2 j) r2⟩
theorem je_B (hc : CallR X (.builtin id) r) (hg : Gl X n) (hm : X.mg n = none) (hv : bootBuiltins n = some (.builtin id)) (ha : JA X C V env (e :: es) Φs) (hd : ∀ ds, Φs ds → ∃ z, Φ z ∧ OC X.K C r ds z) (hn : n ≠ "__name__" := by decide) (hdb : (n == ("__debug__" : Str)) = false := by decide)
    (he : starEach (e :: es) X.env = (false, eval e X.env) :: starEach es X.env := by rfl) (hpl : (backTo pos (starEach es X.env)).any (·.1) = false := by rfl) : JE X C V env (.Call (.Name n p) (e :: es) [] pos) Φ := (pe_callB hc hg hm hv ha hn hdb he hpl).weak (cb_read hd)
theorem je_Ty {t : String} (hc : CallR X (.type t) r) (hg : Gl X n) (hm : X.mg n = none) (hv : bootBuiltins n = some (.type t)) (ha : JA X C V env (e :: es) Φs) (hd : ∀ ds, Φs ds → ∃ z, Φ z ∧ OC X.K C r ds z) (hn : n ≠ "__name__" := by decide) (hdb : (n == ("__debug__" : Str)) = false := by decide)
    (he : starEach (e :: es) X.env = (false, eval e X.env) :: starEach es X.env := by rfl) (hpl : (backTo pos (starEach es X.env)).any (·.1) = false := by rfl) : JE X C V env (.Call (.Name n p) (e :: es) [] pos) Φ := (pe_callTy hc hg hm hv ha hn hdb he hpl).weak (cb_read hd)
theorem je_B1 (hc : CallR X (.builtin id) r) (hg : Gl X n) (hm : X.mg n = none) (hv : bootBuiltins n = some (.builtin id)) (ha : JA X C V env (e :: es) (· = ds)) (hd : OC X.K C r ds z) (hn : n ≠ "__name__" := by decide) (hdb : (n == ("__debug__" : Str)) = false := by decide)
    (he : starEach (e :: es) X.env = (false, eval e X.env) :: starEach es X.env := by rfl) (hpl : (backTo pos (starEach es X.env)).any (·.1) = false := by rfl) : JE X C V env (.Call (.Name n p) (e :: es) [] pos) (· = z) := je_B hc hg hm hv ha (fun ds' e => ⟨z, rfl, by subst e; exact hd⟩) hn hdb he hpl
theorem je_Ty1 {t : String} (hc : CallR X (.type t) r) (hg : Gl X n) (hm : X.mg n = none) (hv : bootBuiltins n = some (.type t)) (ha : JA X C V env (e :: es) (· = ds)) (hd : OC X.K C r ds z) (hn : n ≠ "__name__" := by decide) (hdb : (n == ("__debug__" : Str)) = false := by decide)
    (he : starEach (e :: es) X.env = (false, eval e X.env) :: starEach es X.env := by rfl) (hpl : (backTo pos (starEach es X.env)).any (·.1) = false := by rfl) : JE X C V env (.Call (.Name n p) (e :: es) [] pos) (· = z) := je_Ty hc hg hm hv ha (fun ds' e => ⟨z, rfl, by subst e; exact hd⟩) hn hdb he hpl
theorem oc_of {K : PySem.W.Frag} (h : ∀ S H vs, Same S H → RL K C S ds vs → ∃ w, R K C S z w ∧ ∀ Q : VK, Q w H → r vs H Q) : OC K C r ds z := fun S H vs e rr Q q => by
  obtain ⟨w, h1, h2⟩ := h S H vs e rr
  exact h2 Q (q w S H (.refl e) h1)
theorem RL.one {K : PySem.W.Frag} {S : Hp} {vs : List L2.V} (h : RL K C S [x] vs) : ∃ v, vs = [v] ∧ R K C S x v := by
  obtain ⟨v, r, e, h1, h2⟩ := RL.cons_iff.mp h
  rw [RL.nil_iff] at h2
  subst h2
  exact ⟨v, e, h1⟩
theorem RL.two {K : PySem.W.Frag} {S : Hp} {vs : List L2.V} (h : RL K C S [x, y] vs) : ∃ v w, vs = [v, w] ∧ R K C S x v ∧ R K C S y w := by
  obtain ⟨v, r, e, h1, h2⟩ := RL.cons_iff.mp h
  obtain ⟨w, e2, h3⟩ := RL.one h2
  subst e2
  exact ⟨v, w, e, h1, h3⟩
/-- len of a list, a tuple -/
theorem oc_lenL {K : PySem.W.Frag} {xs : List D} : OC K C (fun vs H Q => ∃ p ys, vs = [.ref p] ∧ (SqL K H p ys ∨ SqT K H p ys) ∧ Q (.int ys.length) H) [.lst xs] (.int xs.length) := oc_of fun S H vs e rr => by
  obtain ⟨v, e1, h1⟩ := RL.one rr
  obtain ⟨p, ys, e2, h2, h3⟩ := R.lstL h1
  subst e2 e1
  exact ⟨.int ys.length, R.int_iff.mpr (by rw [h3.length]), fun Q q => ⟨p, ys, rfl, .inl (e.seq h2), q⟩⟩
theorem oc_lenT {K : PySem.W.Frag} {xs : List D} : OC K C (fun vs H Q => ∃ p ys, vs = [.ref p] ∧ (SqL K H p ys ∨ SqT K H p ys) ∧ Q (.int ys.length) H) [.tup xs] (.int xs.length) := oc_of fun S H vs e rr => by
  obtain ⟨v, e1, h1⟩ := RL.one rr
  obtain ⟨p, ys, e2, h2, h3⟩ := R.tup_iff.mp h1
  subst e2 e1
  exact ⟨.int ys.length, R.int_iff.mpr (by rw [h3.length]), fun Q q => ⟨p, ys, rfl, .inr (Same.seqT e h2), q⟩⟩
theorem oc_abs {K : PySem.W.Frag} {i : Int} : OC K C (fun xs H Q => ∃ i, xs = [.int i] ∧ Q (.int (if i < 0 then -i else i)) H) [.int i] (.int (i.natAbs : Int)) := oc_of fun S H vs e rr => by
  obtain ⟨v, e1, h1⟩ := RL.one rr
  rw [R.int_iff] at h1
  subst h1 e1
  exact ⟨_, R.int_iff.mpr (by congr 1; show (if i < 0 then -i else i) = _; split <;> omega), fun Q q => ⟨i, rfl, q⟩⟩
theorem oc_all {K : PySem.W.Frag} {bs : List Bool} : OC K C (rAll K) [.lst (bs.map .bl)] (.bl (bs.all fun b => b)) := oc_of fun S H vs e rr => by
  obtain ⟨v, e1, h1⟩ := RL.one rr
  obtain ⟨p, ys, e2, h2, h3⟩ := R.lstL h1
  subst e2 e1
  have e3 := RL.of_bls h3
  subst e3
  exact ⟨_, R.bl_iff.mpr rfl, fun Q q => ⟨p, bs, rfl, e.seq h2, q⟩⟩
theorem oc_sum {K : PySem.W.Frag} {ns : List Int} : OC K C (rSum K) [.lst (ns.map .int)] (.int ns.sum) := oc_of fun S H vs e rr => by
  obtain ⟨v, e1, h1⟩ := RL.one rr
  obtain ⟨p, ys, e2, h2, h3⟩ := R.lstL h1
  subst e2 e1
  have e3 := RL.of_ints h3
  subst e3
  exact ⟨_, R.int_iff.mpr rfl, fun Q q => ⟨p, ns, rfl, e.seq h2, q⟩⟩
/-- isinstance -/
def tyD : D → String
  | .non => "NoneType"
  | .bl _ => "bool"
  | .int _ => "int"
  | .str _ => "str"
  | .tup _ => "tuple"
  | .lst _ => "list"
  | _ => "object"
def isT (t : String) (d : D) : Bool := (kitB (tyD d) t).getD false
theorem R.tyx {K : PySem.W.Frag} {S H : Hp} (e : Same S H) : ∀ {d : D} {v : L2.V}, plain d = true → R K C S d v → TyX K H v (.type (tyD d))
  | .non, v, _, h => by rw [R.non_iff] at h; subst h; exact .base .non
  | .bl b, v, _, h => by rw [R.bl_iff] at h; subst h; exact .base (.bl b)
  | .int b, v, _, h => by rw [R.int_iff] at h; subst h; exact .base (.int b)
  | .str b, v, _, h => by rw [R.str_iff] at h; subst h; exact .base (.str b)
  | .tup ds, v, p, h => by
    obtain ⟨a, xs, e1, h1, h2⟩ := R.tup_iff.mp h
    subst e1
    rcases Same.seqT e h1 with (h | ⟨o, h⟩) | ⟨o, its, n, h, c, _⟩
    · exact .base (.tup h)
    · exact .fTuple h
    · exact .kTuple h c
  | .lst ds, v, p, h => by
    obtain ⟨a, xs, e1, h1, h2⟩ := R.lstL h
    subst e1
    rcases e.seq h1 with (h | ⟨o, h⟩) | ⟨o, its, n, h, c, _⟩
    · exact .base (.lst h)
    · exact .base (.frz h)
    · exact .kList h c
  | .fil _ _ _, v, p, h => by simp [plain] at p
  | .raw _, v, p, h => by simp [plain] at p
  | .dct _ _, v, p, h => by simp [plain] at p
  | .tbl _, v, p, h => by simp [plain] at p
theorem oc_isi {K : PySem.W.Frag} {t : String} (hp : plain x = true) (hk : (kitB (tyD x) t).isSome = true) : OC K C (rIsi K) [x, .raw (.ty t)] (.bl (isT t x)) := oc_of fun S H vs e rr => by
  obtain ⟨v, w, e1, h1, h2⟩ := RL.two rr
  rw [R.raw_iff] at h2
  subst h2 e1
  refine ⟨_, R.bl_iff.mpr rfl, fun Q q => ⟨v, .ty t, .type (tyD x), .type t, isT t x, rfl, .ty t, h1.tyx e hp, kit_ty ?_, q⟩⟩
  unfold isT
  obtain ⟨b, hb⟩ := Option.isSome_iff_exists.mp hk
  rw [hb]; rfl
/-- a built-in class as a value -/
theorem je_ty {t : String} (hg : Gl X n) (hm : X.mg n = none) (hv : bootBuiltins n = some (.type t)) (hn : n ≠ "__name__" := by decide) (hdb : (n == ("__debug__" : Str)) = false := by decide) : JE X C V env (.Name n p) (· = .raw (.ty t)) :=
  je_c (fun S => R.raw_iff.mpr rfl) (pe_bltn (v := .ty t) hg hm hv rfl hn hdb)
theorem je_isT {p2 : Pos} {t : String} {nm : Str} (hgi : Gl X "isinstance") (hmi : X.mg "isinstance" = none) (hg : Gl X nm) (hm : X.mg nm = none) (hv : bootBuiltins nm = some (.type t)) (ha : JE X C V env a (· = x)) (hp : plain x = true) (hk : (kitB (tyD x) t).isSome = true)
    (hn : nm ≠ "__name__" := by decide) (hdb : (nm == ("__debug__" : Str)) = false := by decide) (he : starEach [a, .Name nm p2] X.env = (false, eval a X.env) :: starEach [.Name nm p2] X.env := by rfl) (he2 : starEach [.Name nm p2] X.env = (false, eval (.Name nm p2) X.env) :: starEach [] X.env := by rfl) (hpl : (backTo pos (starEach [.Name nm p2] X.env)).any (·.1) = false := by rfl) :
    JE X C V env (.Call (.Name "isinstance" p) [a, .Name nm p2] [] pos) (· = .bl (isT t x)) := je_B1 call_isi hgi hmi (by decide +kernel) (ja_cons ha (ja_cons (je_ty hg hm hv hn hdb) ja_nil he2) he) (oc_isi hp hk) (by decide) (by decide) he hpl
end

/-! ### in -/
def flat : D → Bool
  | .tup _ => false
  | .lst _ => false
  | .fil _ _ _ => false
  | .raw _ => false
  | .dct _ _ => false
  | .tbl _ => false
  | _ => true
def valF : D → V
  | .bl b => .bl b
  | .int i => .int i
  | .str s => .str s
  | _ => .non
theorem R.flat {K : PySem.W.Frag} {C : Addr} {S : Hp} : ∀ {d : D} {v : V}, flat d = true → R K C S d v → v = valF d ∧ flatV v = true
  | .non, v, _, h => by rw [R.non_iff] at h; subst h; exact ⟨rfl, rfl⟩
  | .bl b, v, _, h => by rw [R.bl_iff] at h; subst h; exact ⟨rfl, rfl⟩
  | .int b, v, _, h => by rw [R.int_iff] at h; subst h; exact ⟨rfl, rfl⟩
  | .str b, v, _, h => by rw [R.str_iff] at h; subst h; exact ⟨rfl, rfl⟩
theorem RL.flat {K : PySem.W.Frag} {C : Addr} {S : Hp} : ∀ {ds : List D} {vs : List V}, ds.all RQ.flat = true → RL K C S ds vs → vs = ds.map valF ∧ vs.all flatV = true
  | [], vs, _, h => by rw [RL.nil_iff] at h; subst h; exact ⟨rfl, rfl⟩
  | d :: ds, vs, p, h => by
    obtain ⟨x, r, e1, h1, h2⟩ := RL.cons_iff.mp h
    rw [List.all_cons, Bool.and_eq_true] at p
    obtain ⟨a1, a2⟩ := R.flat p.1 h1
    obtain ⟨b1, b2⟩ := RL.flat p.2 h2
    subst e1
    rw [List.all_cons, a2, b2, a1, b1]
    exact ⟨rfl, rfl⟩
def inD (x : D) (ds : List D) : Bool := inV (valF x) (ds.map valF)
section
variable {X : Cx} {C : Addr} {V : Vo} {env : List En} {e a b : Expr} {pos : Pos} {x : D} {ds : List D}
theorem o2_inT {K : PySem.W.Frag} (neg : Bool) (hx : flat x = true) (hd : ds.all flat = true) : O2 K C (rIn K neg) x (.tup ds) (.bl (if neg then !inD x ds else inD x ds)) := o2_of fun S H u v e r1 r2 => by
  obtain ⟨p, xs, e1, h1, h2⟩ := R.tup_iff.mp r2
  obtain ⟨a1, a2⟩ := r1.flat hx
  obtain ⟨b1, b2⟩ := h2.flat hd
  subst e1
  refine ⟨_, R.bl_iff.mpr rfl, fun Q q => ⟨p, xs, rfl, .inr (Same.seqT e h1), a2, b2, ?_⟩⟩
  subst a1 b1
  exact q
theorem o2_inL {K : PySem.W.Frag} (neg : Bool) (hx : flat x = true) (hd : ds.all flat = true) : O2 K C (rIn K neg) x (.lst ds) (.bl (if neg then !inD x ds else inD x ds)) := o2_of fun S H u v e r1 r2 => by
  obtain ⟨p, xs, e1, h1, h2⟩ := R.lstL r2
  obtain ⟨a1, a2⟩ := r1.flat hx
  obtain ⟨b1, b2⟩ := h2.flat hd
  subst e1
  refine ⟨_, R.bl_iff.mpr rfl, fun Q q => ⟨p, xs, rfl, .inl (e.seq h1), a2, b2, ?_⟩⟩
  subst a1 b1
  exact q
theorem je_inT (ha : JE X C V env a (· = x)) (hb : JE X C V env b (· = .tup ds)) (hx : flat x = true) (hd : ds.all flat = true) (hm : behindInMarks .In b = false := by rfl) : JE X C V env (.Compare a [.In] [b] pos) (· = .bl (inD x ds)) := je_cmp1 op_in_seq ha hb (o2_inT false hx hd) hm
theorem jt_inT (ha : JE X C V env a (· = x)) (hb : JE X C V env b (· = .tup ds)) (hx : flat x = true) (hd : ds.all flat = true) (hm : behindInMarks .In b = false := by rfl) : JT X C V env (.Compare a [.In] [b] pos) (· = inD x ds) := jt_cmp1 op_in_seq ha hb (o2_inT false hx hd) hm
theorem je_inL (ha : JE X C V env a (· = x)) (hb : JE X C V env b (· = .lst ds)) (hx : flat x = true) (hd : ds.all flat = true) (hm : behindInMarks .In b = false := by rfl) : JE X C V env (.Compare a [.In] [b] pos) (· = .bl (inD x ds)) := je_cmp1 op_in_seq ha hb (o2_inL false hx hd) hm
theorem jt_inL (ha : JE X C V env a (· = x)) (hb : JE X C V env b (· = .lst ds)) (hx : flat x = true) (hd : ds.all flat = true) (hm : behindInMarks .In b = false := by rfl) : JT X C V env (.Compare a [.In] [b] pos) (· = inD x ds) := jt_cmp1 op_in_seq ha hb (o2_inL false hx hd) hm
theorem je_niT (ha : JE X C V env a (· = x)) (hb : JE X C V env b (· = .tup ds)) (hx : flat x = true) (hd : ds.all flat = true) (hm : behindInMarks .NotIn b = false := by rfl) : JE X C V env (.Compare a [.NotIn] [b] pos) (· = .bl (!inD x ds)) := je_cmp1 op_notIn_seq ha hb (o2_inT true hx hd) hm
theorem jt_niT (ha : JE X C V env a (· = x)) (hb : JE X C V env b (· = .tup ds)) (hx : flat x = true) (hd : ds.all flat = true) (hm : behindInMarks .NotIn b = false := by rfl) : JT X C V env (.Compare a [.NotIn] [b] pos) (· = !inD x ds) := jt_cmp1 op_notIn_seq ha hb (o2_inT true hx hd) hm
end
end RQ

/-! RqE: defs and constants of the module; the class Fill (slots). -/
namespace RQ
open PySem PySem.Spec PyProof.Rows L2

/-! ### constants of the module -/
def GD (K : PySem.W.Frag) (C : Addr) (mg : Str → Option Value) (x : Str) (d : D) : Prop := ∃ u v, mg x = some u ∧ RelV v u ∧ ∀ S, R K C S d v
section
variable {X : Cx} {C : Addr} {V : Vo} {env : List En} {n : Str} {pos : Pos} {d : D}
theorem je_gl (h : GD X.K C X.mg n d) (hg : Gl X n := by rfl) (hdb : (n == ("__debug__" : Str)) = false := by decide) : JE X C V env (.Name n pos) (· = d) := by
  obtain ⟨u, v, h1, h2, h3⟩ := h
  exact je_c h3 (pe_glob hg h1 h2 hdb)
theorem gd_tup {K : PySem.W.Frag} {mg : Str → Option Value} {a : Addr} {o : Obj} {its : Array Value} {k : Nat} {xs : List L2.V} {ds : List D} (hm : mg n = some (.ref a)) (h1 : K.lookup a = some o) (h2 : o.cls = .type "tuple") (h3 : o.data = .seq its k) (h4 : its.size ≤ sizeLine) (h5 : Vals xs its.toList)
    (h6 : ∀ S, RL K C S ds xs) : GD K C mg n (.tup ds) := ⟨.ref a, .ref a, hm, rfl, fun S => R.tup_iff.mpr ⟨a, xs, rfl, .inr ⟨o, its, k, h1, h2, h3, h4, h5⟩, h6 S⟩⟩
theorem gd_int {K : PySem.W.Frag} {mg : Str → Option Value} {i : Int} {t : Tok} (hm : mg n = some (.int i t)) : GD K C mg n (.int i) := ⟨_, .int i, hm, ⟨t, rfl⟩, fun S => R.int_iff.mpr rfl⟩
end

/-! ### defs of the module -/
structure Fn (P : Program) (w : World) (K : PySem.W.Frag) (mg : Str → Option Value) (base : Heap) (C : Addr) (T : Tx) (x : Str) (k : Nat) (ps : List Str) (Pm : Vo → List D → (Except Err D → Prop) → Prop) : Prop where
  ex : ∃ (f : Addr) (fd : FuncData), mg x = some (.ref f) ∧ PySem.W.keepIn K (.ref f) = true ∧ L2.Binds K fd ps [] ∧ FnOk P w K mg base (L2.CX P w) k f fd ps (spG K C T Pm)
/-- a def as the top has left it -/
structure Df (K : PySem.W.Frag) (mg : Str → Option Value) (x : Str) (st : Stmt) (ps : List Str) : Prop where
  ex : ∃ (f : Addr) (fd : FuncData), mg x = some (.ref f) ∧ Fun K x x st f fd ∧ L2.Binds K fd ps []
section
variable {P : Program} {w : World} {K : PySem.W.Frag} {mg : Str → Option Value} {base : Heap} {C : Addr} {T : Tx}
theorem Df.fn {x : Str} {st : Stmt} {N ps : List Str} {k : Nat} {Pm : Vo → List D → (Except Err D → Prop) → Prop} (d : Df K mg x st ps) (Sc : FnScope N ps (defScope st)) (hl : ∀ V ds Ψ, Pm V ds Ψ → ds.length = ps.length)
    (hb : ∀ (f : Addr) (cdv : Value) (A : Around) (outer : List Env) (s : Shared) (H : Hp) (E : XK) (V : Vo) (ds : List D) (Ψ : Except Err D → Prop), Room k (A.deeper (envOfC x (defScope st) s.heap.objs.size f cdv)) → Takes (bodyX P w K mg base N x st f cdv A outer s H E) (fun cls d _ H' => E cls d H') → Pm V ds Ψ →
      JS (bodyX P w K mg base N x st f cdv A outer s H E) C T V (envS N ds) (defBody st) (fun _ => Ψ (.ok .non)) (fun d => Ψ (.ok d)) (fun cls d _ H' => E cls d H') (fun er => Ψ (.error er))) :
    Fn P w K mg base C T x (k + 1) ps Pm := by
  obtain ⟨f, fd, h1, F, h2⟩ := d.ex
  exact ⟨f, fd, h1, F.kp, h2, def_ok F Sc hl (hb f)⟩
/-- a def that changes nothing: P tells of the arguments what comes back -/
theorem Df.pur {x : Str} {st : Stmt} {N ps : List Str} {k : Nat} {Pm : List D → Except Err D → Prop} (d : Df K mg x st ps) (Sc : FnScope N ps (defScope st)) (hl : ∀ ds r, Pm ds r → ds.length = ps.length)
    (hb : ∀ (f : Addr) (cdv : Value) (A : Around) (outer : List Env) (s : Shared) (H : Hp) (E : XK) (ds : List D) (r : Except Err D), Room k (A.deeper (envOfC x (defScope st) s.heap.objs.size f cdv)) → Takes (bodyX P w K mg base N x st f cdv A outer s H E) (fun cls d _ H' => E cls d H') → Pm ds r →
      JS (bodyX P w K mg base N x st f cdv A outer s H E) C T V0 (envS N ds) (defBody st) (fun _ => .ok .non = r) (fun d => .ok d = r) (fun cls d _ H' => E cls d H') (fun er => .error er = r)) :
    Fn P w K mg base C T x (k + 1) ps (RQ.pur Pm) := d.fn Sc (fun V ds Ψ ⟨_, r, h, _⟩ => hl ds r h) fun f cdv A outer s H E V ds Ψ hr tk h => by
  obtain ⟨e1, r, h1, e2⟩ := h
  subst e1 e2
  exact hb f cdv A outer s H E ds r hr tk h1
theorem Df.pok {x : Str} {st : Stmt} {N ps : List Str} {k : Nat} {Pm : List D → D → Prop} (d : Df K mg x st ps) (Sc : FnScope N ps (defScope st)) (hl : ∀ ds r, Pm ds r → ds.length = ps.length)
    (hb : ∀ (f : Addr) (cdv : Value) (A : Around) (outer : List Env) (s : Shared) (H : Hp) (E : XK) (ds : List D) (r : D), Room k (A.deeper (envOfC x (defScope st) s.heap.objs.size f cdv)) → Pm ds r →
      JS (bodyX P w K mg base N x st f cdv A outer s H E) C T V0 (envS N ds) (defBody st) (fun _ => .non = r) (fun d => d = r) (fun cls d _ H' => E cls d H') (fun er => False)) :
    Fn P w K mg base C T x (k + 1) ps (RQ.pok Pm) := d.pur Sc (fun ds r ⟨d, h, _⟩ => hl ds d h) fun f cdv A outer s H E ds r hr tk ⟨d, h, e⟩ => by
  subst e
  exact (hb f cdv A outer s H E ds d hr h).imp (fun _ h => by rw [h]) (fun _ h => by rw [h]) fun _ h => h.elim
end
section
variable {X : Cx} {C : Addr} {T : Tx} {V : Vo} {env : List En} {e a b : Expr} {es : List Expr} {Φ : D → Prop} {pos p : Pos} {k j : Nat} {ps : List Str} {x : Str} {Φs : List D → Prop} {z : D} {xs : List D}
/-- f(e, ..) of a def that changes and raises nothing -/
theorem je_cal {P : List D → D → Prop} (F : Fn X.prog X.w X.K X.mg X.base C T x k ps (pok P)) (hr : Room j X.A) (hk : k ≤ j) (ha : JA X C V env (e :: es) (· = xs)) (hd : P xs z) (hg : Gl X x := by rfl)
    (hdb : (x == ("__debug__" : Str)) = false := by decide) (he : starEach (e :: es) X.env = (false, eval e X.env) :: starEach es X.env := by rfl) (hpl : (backTo pos (starEach es X.env)).any (·.1) = false := by rfl) : JE X C V env (.Call (.Name x p) (e :: es) [] pos) (· = z) := by
  obtain ⟨f, fd, h1, h2, h3, h4⟩ := F.ex
  exact je_call h4 (hr.mono hk) hg h1 h2 h3 ha hd hdb he hpl
/-- .. of one that could raise -/
theorem je_calX {P : List D → Except Err D → Prop} (F : Fn X.prog X.w X.K X.mg X.base C T x k ps (pur P)) (hr : Room j X.A) (hk : k ≤ j) (ha : JA X C V env (e :: es) (· = xs)) (hd : P xs (.ok z)) (hg : Gl X x := by rfl)
    (hdb : (x == ("__debug__" : Str)) = false := by decide) (he : starEach (e :: es) X.env = (false, eval e X.env) :: starEach es X.env := by rfl) (hpl : (backTo pos (starEach es X.env)).any (·.1) = false := by rfl) : JE X C V env (.Call (.Name x p) (e :: es) [] pos) (· = z) := by
  obtain ⟨f, fd, h1, h2, h3, h4⟩ := F.ex
  exact je_callX h4 (hr.mono hk) hg h1 h2 h3 ha hd hdb he hpl
/-- .. of any -/
theorem je_calG {P : Vo → List D → (Except Err D → Prop) → Prop} (F : Fn X.prog X.w X.K X.mg X.base C T x k ps P) (hr : Room j X.A) (hk : k ≤ j) (ha : JA X C V env (e :: es) Φs)
    (hd : ∀ ds, Φs ds → (∃ Ψ, P V ds Ψ ∧ (∀ er, ¬ Ψ (.error er)) ∧ ∀ d, Ψ (.ok d) → Φ d) ∨ (∃ Ψ, P V0 ds Ψ ∧ (∀ er, ¬ Ψ (.error er)) ∧ ∀ d, Ψ (.ok d) → Φ d)) (hg : Gl X x := by rfl)
    (hdb : (x == ("__debug__" : Str)) = false := by decide) (he : starEach (e :: es) X.env = (false, eval e X.env) :: starEach es X.env := by rfl) (hpl : (backTo pos (starEach es X.env)).any (·.1) = false := by rfl) : JE X C V env (.Call (.Name x p) (e :: es) [] pos) Φ := by
  obtain ⟨f, fd, h1, h2, h3, h4⟩ := F.ex
  exact je_callG h4 (hr.mono hk) hg h1 h2 h3 ha hd hdb he hpl
/-- .. by what comes back or is raised -/
theorem px_cal {P : List D → Except Err D → Prop} {W : WX} {r : Except Err D} (F : Fn X.prog X.w X.K X.mg X.base C T x k ps (pur P)) (hr : Room j X.A) (hk : k ≤ j) (tk : Takes X W) (ha : JA X C V env (e :: es) (· = xs)) (hd : P xs r) (hg : Gl X x := by rfl)
    (hdb : (x == ("__debug__" : Str)) = false := by decide) (he : starEach (e :: es) X.env = (false, eval e X.env) :: starEach es X.env := by rfl) (hpl : (backTo pos (starEach es X.env)).any (·.1) = false := by rfl) : PE X (.Call (.Name x p) (e :: es) [] pos) (tJX X.K C T V env W r) := by
  obtain ⟨f, fd, h1, h2, h3, h4⟩ := F.ex
  exact pe_callXW h4 (hr.mono hk) hg h1 h2 h3 tk ha hd hdb he hpl
end

/-- the built-in names that stand -/
structure Zb (mg : Str → Option Value) : Prop where
  isinstance : mg "isinstance" = none
  int : mg "int" = none
  bool : mg "bool" = none
  str : mg "str" = none
  tuple : mg "tuple" = none
  list : mg "list" = none
  dict : mg "dict" = none
  set : mg "set" = none
  len : mg "len" = none
  all : mg "all" = none
  sum : mg "sum" = none
  min : mg "min" = none
  max : mg "max" = none
  abs : mg "abs" = none
  range : mg "range" = none
  enumerate : mg "enumerate" = none
  zip : mg "zip" = none
  sorted : mg "sorted" = none
theorem kit_int (x : D) : (kitB (tyD x) "int").isSome = true := by cases x <;> (simp only [tyD]; decide +kernel)
theorem kit_bool (x : D) : (kitB (tyD x) "bool").isSome = true := by cases x <;> (simp only [tyD]; decide +kernel)
theorem kit_str (x : D) : (kitB (tyD x) "str").isSome = true := by cases x <;> (simp only [tyD]; decide +kernel)
theorem kit_tuple (x : D) : (kitB (tyD x) "tuple").isSome = true := by cases x <;> (simp only [tyD]; decide +kernel)
theorem kit_list (x : D) : (kitB (tyD x) "list").isSome = true := by cases x <;> (simp only [tyD]; decide +kernel)
def isIntT : D → Bool | .int _ => true | .bl _ => true | _ => false
def isBoolT : D → Bool | .bl _ => true | _ => false
def isStrT : D → Bool | .str _ => true | _ => false
def isTupT : D → Bool | .tup _ => true | _ => false
def isLstT : D → Bool | .lst _ => true | _ => false
theorem isT_int (x : D) : isT "int" x = isIntT x := by cases x <;> (simp only [isT, tyD, isIntT]; decide +kernel)
theorem isT_bool (x : D) : isT "bool" x = isBoolT x := by cases x <;> (simp only [isT, tyD, isBoolT]; decide +kernel)
theorem isT_str (x : D) : isT "str" x = isStrT x := by cases x <;> (simp only [isT, tyD, isStrT]; decide +kernel)
theorem isT_tuple (x : D) : isT "tuple" x = isTupT x := by cases x <;> (simp only [isT, tyD, isTupT]; decide +kernel)
theorem isT_list (x : D) : isT "list" x = isLstT x := by cases x <;> (simp only [isT, tyD, isLstT]; decide +kernel)
section
variable {X : Cx} {C : Addr} {V : Vo} {env : List En} {a : Expr} {x : D} {pos p p2 : Pos} (z : Zb X.mg) (ha : JE X C V env a (· = x)) (hp : plain x = true) (g1 : Gl X "isinstance" := by rfl)
  (hpl : ∀ n : Str, (backTo pos (starEach [.Name n p2] X.env)).any (·.1) = false := by intro _; rfl) (he2 : ∀ n : Str, starEach [.Name n p2] X.env = (false, eval (.Name n p2) X.env) :: starEach [] X.env := by intro _; rfl)
  (he : ∀ n : Str, starEach [a, .Name n p2] X.env = (false, eval a X.env) :: starEach [.Name n p2] X.env := by intro _; rfl)
include z ha hp g1 hpl he2 he
theorem je_isInt (g2 : Gl X "int" := by rfl) : JE X C V env (.Call (.Name "isinstance" p) [a, .Name "int" p2] [] pos) (· = .bl (isIntT x)) := (je_isT g1 z.isinstance g2 z.int (by decide +kernel) ha hp (kit_int x) (by decide) (by decide) (he _) (he2 _) (hpl _)).to (by rw [isT_int])
theorem je_isBool (g2 : Gl X "bool" := by rfl) : JE X C V env (.Call (.Name "isinstance" p) [a, .Name "bool" p2] [] pos) (· = .bl (isBoolT x)) := (je_isT g1 z.isinstance g2 z.bool (by decide +kernel) ha hp (kit_bool x) (by decide) (by decide) (he _) (he2 _) (hpl _)).to (by rw [isT_bool])
theorem je_isStr (g2 : Gl X "str" := by rfl) : JE X C V env (.Call (.Name "isinstance" p) [a, .Name "str" p2] [] pos) (· = .bl (isStrT x)) := (je_isT g1 z.isinstance g2 z.str (by decide +kernel) ha hp (kit_str x) (by decide) (by decide) (he _) (he2 _) (hpl _)).to (by rw [isT_str])
theorem je_isTup (g2 : Gl X "tuple" := by rfl) : JE X C V env (.Call (.Name "isinstance" p) [a, .Name "tuple" p2] [] pos) (· = .bl (isTupT x)) := (je_isT g1 z.isinstance g2 z.tuple (by decide +kernel) ha hp (kit_tuple x) (by decide) (by decide) (he _) (he2 _) (hpl _)).to (by rw [isT_tuple])
theorem je_isLst (g2 : Gl X "list" := by rfl) : JE X C V env (.Call (.Name "isinstance" p) [a, .Name "list" p2] [] pos) (· = .bl (isLstT x)) := (je_isT g1 z.isinstance g2 z.list (by decide +kernel) ha hp (kit_list x) (by decide) (by decide) (he _) (he2 _) (hpl _)).to (by rw [isT_list])
end
section
variable {X : Cx} {C : Addr} {V : Vo} {env : List En} {a : Expr} {x : D} {xs : List D} {bs : List Bool} {pos p p2 : Pos}
theorem je_lenL (z : Zb X.mg) (ha : JE X C V env a (· = .lst xs)) (hg : Gl X "len" := by rfl) (he : starEach [a] X.env = (false, eval a X.env) :: starEach [] X.env := by rfl) (hpl : (backTo pos (starEach [] X.env)).any (·.1) = false := by rfl) : JE X C V env (.Call (.Name "len" p) [a] [] pos) (· = .int xs.length) := je_B1 call_len_seq hg z.len PySem.boot_len (ja_cons ha ja_nil he) oc_lenL (by decide) (by decide) he hpl
theorem je_lenT (z : Zb X.mg) (ha : JE X C V env a (· = .tup xs)) (hg : Gl X "len" := by rfl) (he : starEach [a] X.env = (false, eval a X.env) :: starEach [] X.env := by rfl) (hpl : (backTo pos (starEach [] X.env)).any (·.1) = false := by rfl) : JE X C V env (.Call (.Name "len" p) [a] [] pos) (· = .int xs.length) := je_B1 call_len_seq hg z.len PySem.boot_len (ja_cons ha ja_nil he) oc_lenT (by decide) (by decide) he hpl
theorem je_all (hc : X.calm = true) (z : Zb X.mg) (ha : JE X C V env a (· = .lst (bs.map .bl))) (hg : Gl X "all" := by rfl) (he : starEach [a] X.env = (false, eval a X.env) :: starEach [] X.env := by rfl) (hpl : (backTo pos (starEach [] X.env)).any (·.1) = false := by rfl) : JE X C V env (.Call (.Name "all" p) [a] [] pos) (· = .bl (bs.all fun b => b)) := je_B1 (cr_all hc) hg z.all (by decide +kernel) (ja_cons ha ja_nil he) oc_all (by decide) (by decide) he hpl
end

/-! ### the class Fill -/
/-- what the top says of the class with the slots begin, plain, other -/
structure Flc (K : PySem.W.Frag) (mg : Str → Option Value) (C : Addr) : Prop where
  g : mg "Fill" = some (.ref C)
  cl : SlX.SCls K C
  s0 : ∃ p, SlX.Slot1 K C "begin" p 0
  s1 : ∃ p, SlX.Slot1 K C "plain" p 2
  s2 : ∃ p, SlX.Slot1 K C "other" p 1
section
variable {X : Cx} {C : Addr} {T : Tx} {V : Vo} {env : List En} {e a : Expr} {pos : Pos} {s p t : D}
theorem sl_read {f : Str} {i : Nat} {z : D} (hc : SlX.SCls X.K C) (hs : ∃ q, SlX.Slot1 X.K C f q i) (hz : ([s, t, p] : List D)[i]? = some z) : ∀ σ H Q, tJ X.K C V env (· = z) σ H Q → SlX.tSl X.K (tJ X.K C V env (· = .fil s p t)) f σ H Q := fun σ H Q ⟨S, o, k⟩ => ⟨S, o, fun d v S' H' e g j r => by
  subst e
  obtain ⟨q, hq⟩ := hs
  obtain ⟨a, dx, x, y, w, e1, h1, h2, h3, h4⟩ := R.fil_iff.mp r
  have key : ∃ u, ([some x, some w, some y] : List (Option L2.V))[i]? = some (some u) ∧ R X.K C S' z u := by
    match i, hz with
    | 0, hz => exact ⟨x, rfl, by cases hz; exact h2⟩
    | 1, hz => exact ⟨w, rfl, by cases hz; exact h4⟩
    | 2, hz => exact ⟨y, rfl, by cases hz; exact h3⟩
    | n + 3, hz => simp at hz
  obtain ⟨u, hu, ru⟩ := key
  exact ⟨a, C, dx, q, _, i, u, e1, Same.slt g.sub h1, hc, hq, hu, k _ u S' H' rfl g j ru⟩⟩
theorem je_begin (L : Flc X.K X.mg C) (ha : JE X C V env a (· = .fil s p t)) (hb : attributeBase a "begin" X.env (eval a X.env) = eval a X.env := by rfl) : JE X C V env (.Attribute a "begin" pos) (· = s) := (SlX.pe_sl ha hb).weak (sl_read L.cl L.s0 rfl)
theorem je_plain (L : Flc X.K X.mg C) (ha : JE X C V env a (· = .fil s p t)) (hb : attributeBase a "plain" X.env (eval a X.env) = eval a X.env := by rfl) : JE X C V env (.Attribute a "plain" pos) (· = p) := (SlX.pe_sl ha hb).weak (sl_read L.cl L.s1 rfl)
theorem je_other (L : Flc X.K X.mg C) (ha : JE X C V env a (· = .fil s p t)) (hb : attributeBase a "other" X.env (eval a X.env) = eval a X.env := by rfl) : JE X C V env (.Attribute a "other" pos) (· = t) := (SlX.pe_sl ha hb).weak (sl_read L.cl L.s2 rfl)
end
end RQ
namespace RQ
open PySem PySem.Spec PyProof.Rows L2
/-! ### more short rules -/
section
variable {X : Cx} {C : Addr} {T : Tx} {V : Vo} {env : List En} {a b : Expr} {x y : D} {i j : Int} {s t : Str} {pos p p2 : Pos}
theorem dec_beq {i j : Int} : eqD (.int i) (.int j) = decide (i = j) := by
  show (i == j) = decide (i = j)
  rw [Bool.beq_eq_decide_eq]
theorem dec_beqS {i j : Str} : eqD (.str i) (.str j) = decide (i = j) := by
  show (i == j) = decide (i = j)
  rw [Bool.beq_eq_decide_eq]
theorem okD_int : okD (.int i) = true := by rfl
theorem je_eqI (hu : X.A.units + 64 < cLine) (ha : JE X C V env a (· = .int i)) (hb : JE X C V env b (· = .int j)) : JE X C V env (.Compare a [.Eq] [b] pos) (· = .bl (decide (i = j))) := (je_eq hu ha hb okD_int okD_int).to (by rw [dec_beq])
theorem je_neI (hu : X.A.units + 64 < cLine) (ha : JE X C V env a (· = .int i)) (hb : JE X C V env b (· = .int j)) : JE X C V env (.Compare a [.NotEq] [b] pos) (· = .bl (!decide (i = j))) := (je_ne hu ha hb okD_int okD_int).to (by rw [dec_beq])
theorem jt_eqI (hu : X.A.units + 64 < cLine) (ha : JE X C V env a (· = .int i)) (hb : JE X C V env b (· = .int j)) : JT X C V env (.Compare a [.Eq] [b] pos) (· = decide (i = j)) := (jt_eq hu ha hb okD_int okD_int).to (by rw [dec_beq])
theorem jt_neI (hu : X.A.units + 64 < cLine) (ha : JE X C V env a (· = .int i)) (hb : JE X C V env b (· = .int j)) : JT X C V env (.Compare a [.NotEq] [b] pos) (· = !decide (i = j)) := (jt_ne hu ha hb okD_int okD_int).to (by rw [dec_beq])
theorem jt_eqS (hu : X.A.units + 64 < cLine) (ha : JE X C V env a (· = .str s)) (hb : JE X C V env b (· = .str t)) (h1 : okD (.str s) = true := by decide +kernel) (h2 : okD (.str t) = true := by decide +kernel) : JT X C V env (.Compare a [.Eq] [b] pos) (· = decide (s = t)) := (jt_eq hu ha hb h1 h2).to (by rw [dec_beqS])
theorem je_eqS (hu : X.A.units + 64 < cLine) (ha : JE X C V env a (· = .str s)) (hb : JE X C V env b (· = .str t)) (h1 : okD (.str s) = true := by decide +kernel) (h2 : okD (.str t) = true := by decide +kernel) : JE X C V env (.Compare a [.Eq] [b] pos) (· = .bl (decide (s = t))) := (je_eq hu ha hb h1 h2).to (by rw [dec_beqS])
theorem jt_neS (hu : X.A.units + 64 < cLine) (ha : JE X C V env a (· = .str s)) (hb : JE X C V env b (· = .str t)) (h1 : okD (.str s) = true := by decide +kernel) (h2 : okD (.str t) = true := by decide +kernel) : JT X C V env (.Compare a [.NotEq] [b] pos) (· = !decide (s = t)) := (jt_ne hu ha hb h1 h2).to (by rw [dec_beqS])
/-- a written negative number is USub of a constant -/
theorem je_nint {k : Int} {jj} : JE X C V env (.UnaryOp .USub (.Constant (.int k) jj p) pos) (· = .int (-k)) := je_neg je_int
end
end RQ

/-! RqF: the errors of the program: bare ones, ones with fields; making a Fill. -/
namespace RQ
open PySem PySem.Spec PyProof.Rows L2

/-! ### bare errors -/
structure Ec (K : PySem.W.Frag) (mg : Str → Option Value) (T : Tx) (k : Nat) (n : Str) : Prop where
  g : mg n = some (.ref (T.cl k))
  x : PySem.W.excIn K (T.cl k) [.type "ValueError", .type "Exception", .type "BaseException", .type "object"] "ValueError.__new__" = true
  kp : PySem.W.keepIn K (.ref (T.cl k)) = true
  ex : PySem.W.subIn K (.ref (T.cl k)) (.type "BaseException") = some true
  ty : PySem.W.typeIn K (.ref (T.cl k)) = some (.type "type")
section
variable {X : Cx} {C : Addr} {T : Tx} {V : Vo} {env : List En} {N : List En → Prop} {Rt : D → Prop} {W : WX} {Et : Err → Prop} {n : Str} {k : Nat} {p pos pos2 : Pos}
theorem pmk_own0 {B newId initId : String} {bmB : List Value} {Ce : Addr} (F : ExcBaseFacts B newId initId bmB) (q : PySem.W.excIn X.K Ce bmB newId = true) (gC : X.mg n = some (.ref Ce)) (kC : PySem.W.keepIn X.K (.ref Ce) = true) (r : Raises X (.ref Ce)) (hg : Gl X n)
    (hdb : (n == ("__debug__" : Str)) = false := by decide) : PMk X (.Call (.Name n p) [] [] pos) (fun _ H Q => Q (.ref Ce) none H) := by
  intro pins s σ H Q I h
  refine wpAny_Call_Name_kw (ld_glob I hg gC ?_ hdb)
  refine PySem.W.callWith_K0 I.kIn kC ?_
  show wpAny _ _ (call (.ref Ce) []) _ _ _
  obtain ⟨bm, N, nm, qn, bs, hdct, sn, sub, ab, col, dd, k0, k1, k2, k3, k5, mN, hC, hN, hni, T⟩ := exc_obj I.kIn q
  refine wpAny_call_exc_subT F T hC hN hni (fun h' e hm => ?_) (Nat.zero_le _)
  exact mk_of I hm r h (I.hok.gone hm.new)
theorem jst_raise0 (hc : X.calm = true) (tk : Takes X W) (E : Ec X.K X.mg T k n) (hE : Et ⟨k, []⟩) (hg : Gl X n := by rfl) (hdb : (n == ("__debug__" : Str)) = false := by decide) : JSt X C T V env (.Raise (some (.Call (.Name n p) [] [] pos)) none pos2) N Rt W Et :=
  jst_raise (er := ⟨k, []⟩) hc tk (pmk_own0 PySem.F.excBase_ValueError E.x E.g E.kp (raises_own E.ex E.ty) hg hdb) (fun σ S H Q o q => q _ _ S H (.refl o.sub) o.j ⟨rfl, .inl ⟨rfl, rfl⟩⟩) hE
end

/-! ### errors with fields -/
def spE1 (Ce : Addr) (f : Str) : Sp := fun vs H Q _ => ∃ a y, vs = [.ref a, y] ∧ H a = some (exo a Ce none) ∧ ∀ dx, H dx = none → dx ≠ a → Q .non (upd (upd H dx (exd dx [(f, y)])) a (exo a Ce (some dx)))
def spE2 (Ce : Addr) (f1 f2 : Str) : Sp := fun vs H Q _ => ∃ a y z, vs = [.ref a, y, z] ∧ H a = some (exo a Ce none) ∧ ∀ dx, H dx = none → dx ≠ a → Q .non (upd (upd (upd H dx (exd dx [(f1, y)])) a (exo a Ce (some dx))) dx (exd dx [(f2, z), (f1, y)]))
structure Ef (P : Program) (w : World) (K : PySem.W.Frag) (mg : Str → Option Value) (base : Heap) (T : Tx) (k : Nat) (n : Str) (ps : List Str) (sp : Sp) : Prop where
  g : mg n = some (.ref (T.cl k))
  o : OexC K (T.cl k)
  ex : ∃ (f : Addr) (fd : FuncData), PySem.W.findIn K (.ref (T.cl k)) "__init__" = some (some (.ref f)) ∧ PySem.W.typeIn K (.ref f) = some (.type "function") ∧ L2.Binds K fd ps [] ∧ FnOk P w K mg base (L2.CX P w) 1 f fd ps sp
theorem upd_none {H : Hp} {a : Addr} {o : HO} (h : H a = none) : ∀ b u, H b = some u → upd H a o b = some u := fun b u e => by rw [upd_ne (ne_of_none e h)]; exact e
section
variable {X : Cx} {C : Addr} {T : Tx} {V : Vo} {env : List En} {N : List En → Prop} {Rt : D → Prop} {W : WX} {Et : Err → Prop} {n f f1 f2 : Str} {k j : Nat} {p pos pos2 : Pos} {e e2 : Expr} {d d2 : D}
theorem jst_raise1 (hc : X.calm = true) (tk : Takes X W) (hr : Room j X.A) (hj : 2 ≤ j) (E : Ef X.prog X.w X.K X.mg X.base T k n ["self", f] (spE1 (T.cl k) f)) (hfn : T.fn k = [f]) (ha : JE X C V env e (· = d)) (hE : Et ⟨k, [d]⟩) (hg : Gl X n := by rfl)
    (hdb : (n == ("__debug__" : Str)) = false := by decide) (he : starEach [e] X.env = (false, eval e X.env) :: starEach [] X.env := by rfl) (hpl : (backTo pos (starEach [] X.env)).any (·.1) = false := by rfl) :
    JSt X C T V env (.Raise (some (.Call (.Name n p) [e] [] pos)) none pos2) N Rt W Et := by
  obtain ⟨fI, fd, h1, h2, h3, h4⟩ := E.ex
  refine jst_raise (er := ⟨k, [d]⟩) hc tk (pmk_oex E.o h1 h2 h4 (hr.mono hj) h3 .nil passL hg E.g (ja_cons ha ja_nil he) hdb he hpl) (fun σ S H Q o q => ⟨S, o, fun ds vs S1 H1 p1 g1 j1 r1 => ?_⟩) hE
  subst p1
  obtain ⟨v, e1, rv⟩ := RL.one r1
  subst e1
  refine ⟨by show 1 ≤ 1000; decide, fun a hn => ⟨a, v, rfl, upd_same, fun dx hd hda => ⟨rfl, dx, [(f, v)], upd_same, ?_, ?_, ?_⟩⟩⟩
  · rw [upd_ne hda, upd_same]
  · rw [upd_ne hda] at hd
    exact hd
  · have hd1 : H1 dx = none := by
      rw [upd_ne hda] at hd
      exact hd
    have key : ∀ b u, H1 b = some u → upd (L2.del (upd (upd (upd H1 a (exo a (T.cl k) none)) dx (exd dx [(f, v)])) a (exo a (T.cl k) (some dx))) a) dx (.xd [(f, v)]) b = some u := fun b u q => by
      have nb := ne_of_none q hn
      rw [upd_ne (ne_of_none q hd1), L2.del_ne nb, upd_ne nb, upd_ne (ne_of_none q hd1), upd_ne nb]
      exact q
    have g2 : Gr M0 S1 H1 S1 (upd (L2.del (upd (upd (upd H1 a (exo a (T.cl k) none)) dx (exd dx [(f, v)])) a (exo a (T.cl k) (some dx))) a) dx (.xd [(f, v)])) := ⟨.refl _, fun b u q => key b u (g1.sub b u q), fun b u _ q => key b u q, fun b u q => ⟨u, key b u q⟩, fun _ _ _ z => z⟩
    have sdx : S1 dx = none := by
      cases z : S1 dx with
      | none => rfl
      | some u => rw [g1.sub dx u z] at hd1; cases hd1
    have g3 := g2.rel sdx hd1 upd_same
    refine q _ _ _ _ (g1.trans g3.up0) (V.gr0 g3 j1) ⟨rfl, .inr ⟨dx, [(f, v)], [v], rfl, upd_same, r1.mono g3.s, fun i f' v' q1 q2 => ?_⟩⟩
    rw [hfn] at q1
    match i, q1, q2 with
    | 0, q1, q2 =>
      have e1 : f = f' := Option.some.inj q1
      have e2 : v = v' := Option.some.inj q2
      subst e1 e2
      simp [List.lookup]
    | i + 1, q1, q2 => simp at q1
theorem jst_raise2 (hc : X.calm = true) (tk : Takes X W) (hr : Room j X.A) (hj : 2 ≤ j) (E : Ef X.prog X.w X.K X.mg X.base T k n ["self", f1, f2] (spE2 (T.cl k) f1 f2)) (hfn : T.fn k = [f1, f2]) (hff : f1 ≠ f2) (ha : JE X C V env e (· = d)) (hb : JE X C V env e2 (· = d2)) (hE : Et ⟨k, [d, d2]⟩) (hg : Gl X n := by rfl)
    (hdb : (n == ("__debug__" : Str)) = false := by decide) (he : starEach [e, e2] X.env = (false, eval e X.env) :: starEach [e2] X.env := by rfl) (he2 : starEach [e2] X.env = (false, eval e2 X.env) :: starEach [] X.env := by rfl) (hpl : (backTo pos (starEach [e2] X.env)).any (·.1) = false := by rfl) :
    JSt X C T V env (.Raise (some (.Call (.Name n p) [e, e2] [] pos)) none pos2) N Rt W Et := by
  obtain ⟨fI, fd, h1, h2, h3, h4⟩ := E.ex
  refine jst_raise (er := ⟨k, [d, d2]⟩) hc tk (pmk_oex E.o h1 h2 h4 (hr.mono hj) h3 .nil passL hg E.g (ja_cons ha (ja_cons hb ja_nil he2) he) hdb he hpl) (fun σ S H Q o q => ⟨S, o, fun ds vs S1 H1 p1 g1 j1 r1 => ?_⟩) hE
  subst p1
  obtain ⟨v, v2, e1, rv, rv2⟩ := RL.two r1
  subst e1
  refine ⟨by show 2 ≤ 1000; decide, fun a hn => ⟨a, v, v2, rfl, upd_same, fun dx hd hda => ⟨rfl, dx, [(f2, v2), (f1, v)], ?_, upd_same, ?_, ?_⟩⟩⟩
  · rw [upd_ne (Ne.symm hda), upd_same]
  · rw [upd_ne hda] at hd
    exact hd
  · have hd1 : H1 dx = none := by
      rw [upd_ne hda] at hd
      exact hd
    have key : ∀ b u, H1 b = some u → upd (L2.del (upd (upd (upd (upd H1 a (exo a (T.cl k) none)) dx (exd dx [(f1, v)])) a (exo a (T.cl k) (some dx))) dx (exd dx [(f2, v2), (f1, v)])) a) dx (.xd [(f2, v2), (f1, v)]) b = some u := fun b u q => by
      have nb := ne_of_none q hn
      have nd := ne_of_none q hd1
      rw [upd_ne nd, L2.del_ne nb, upd_ne nd, upd_ne nb, upd_ne nd, upd_ne nb]
      exact q
    have g2 : Gr M0 S1 H1 S1 (upd (L2.del (upd (upd (upd (upd H1 a (exo a (T.cl k) none)) dx (exd dx [(f1, v)])) a (exo a (T.cl k) (some dx))) dx (exd dx [(f2, v2), (f1, v)])) a) dx (.xd [(f2, v2), (f1, v)])) := ⟨.refl _, fun b u q => key b u (g1.sub b u q), fun b u _ q => key b u q, fun b u q => ⟨u, key b u q⟩, fun _ _ _ z => z⟩
    have sdx : S1 dx = none := by
      cases z : S1 dx with
      | none => rfl
      | some u => rw [g1.sub dx u z] at hd1; cases hd1
    have g3 := g2.rel sdx hd1 upd_same
    refine q _ _ _ _ (g1.trans g3.up0) (V.gr0 g3 j1) ⟨rfl, .inr ⟨dx, _, [v, v2], rfl, upd_same, r1.mono g3.s, fun i f' v' q1 q2 => ?_⟩⟩
    rw [hfn] at q1
    match i, q1, q2 with
    | 0, q1, q2 =>
      have e1 : f1 = f' := Option.some.inj q1
      have e2 : v = v' := Option.some.inj q2
      subst e1 e2
      have hne : (f1 == f2) = false := by simpa using hff
      simp [List.lookup, hne]
    | 1, q1, q2 =>
      have e1 : f2 = f' := Option.some.inj q1
      have e2 : v2 = v' := Option.some.inj q2
      subst e1 e2
      simp [List.lookup]
    | i + 2, q1, q2 => simp at q1
end
section
variable {P : Program} {w : World} {K : PySem.W.Frag} {mg : Str → Option Value} {base : Heap} {C : Addr} {T : Tx} {k : Nat} {n f f1 f2 : Str}
/-- the __init__ of one field, of two -/
theorem ef1_mk {st : Stmt} {fI : Addr} {fd : FuncData} {q : Str} {p1 p2 p3 p4 : Pos} (g : mg n = some (.ref (T.cl k))) (o : OexC K (T.cl k)) (hno : PySem.W.findIn K (.ref (T.cl k)) f = some none) (hi : PySem.W.findIn K (.ref (T.cl k)) "__init__" = some (some (.ref fI))) (ht : PySem.W.typeIn K (.ref fI) = some (.type "function")) (hb : L2.Binds K fd ["self", f] [])
    (F : Fun K "__init__" q st fI fd) (Sc : FnScope ["self", f] ["self", f] (defScope st)) (hbody : defBody st = [.Assign [.Attribute (.Name "self" p1) f p2] (.Name f p3) p4]) (v0 : Vis (defScope st) "self") (v1 : Vis (defScope st) f) (hd1 : (f == ("__debug__" : Str)) = false := by decide) (hd2 : (f == ("__classdict__" : Str)) = false := by decide) : Ef P w K mg base T k n ["self", f] (spE1 (T.cl k) f) := by
  refine ⟨g, o, fI, fd, hi, ht, hb, F.okX Sc (fun vs H Q E h => ?_) (fun cdv A outer s H vs Q E hr h => ?_)⟩
  · obtain ⟨a, y, e, _⟩ := h
    rw [e]; rfl
  · obtain ⟨a, y, e, ha, hq⟩ := h
    subst e
    rw [hbody]
    refine ⟨_, pss_one (ps_ost (pe_var (i := 0) rfl v0) (pe_var (i := 1) rfl v1 hd1 hd2)), ?_⟩
    exact ⟨y, rfl, .ref a, rfl, a, T.cl k, rfl, o, hno, .inl ⟨ha, fun dx h1 h2 => hq dx h1 h2⟩⟩
theorem ef2_mk {st : Stmt} {fI : Addr} {fd : FuncData} {q : Str} {p1 p2 p3 p4 p5 p6 p7 p8 : Pos} (g : mg n = some (.ref (T.cl k))) (o : OexC K (T.cl k)) (hno : PySem.W.findIn K (.ref (T.cl k)) f1 = some none) (hno2 : PySem.W.findIn K (.ref (T.cl k)) f2 = some none) (hi : PySem.W.findIn K (.ref (T.cl k)) "__init__" = some (some (.ref fI))) (ht : PySem.W.typeIn K (.ref fI) = some (.type "function")) (hb : L2.Binds K fd ["self", f1, f2] [])
    (F : Fun K "__init__" q st fI fd) (Sc : FnScope ["self", f1, f2] ["self", f1, f2] (defScope st)) (hbody : defBody st = [.Assign [.Attribute (.Name "self" p1) f1 p2] (.Name f1 p3) p4, .Assign [.Attribute (.Name "self" p5) f2 p6] (.Name f2 p7) p8]) (v0 : Vis (defScope st) "self") (v1 : Vis (defScope st) f1) (v2 : Vis (defScope st) f2)
    (hd1 : (f1 == ("__debug__" : Str)) = false := by decide) (hd2 : (f1 == ("__classdict__" : Str)) = false := by decide) (hd3 : (f2 == ("__debug__" : Str)) = false := by decide) (hd4 : (f2 == ("__classdict__" : Str)) = false := by decide) : Ef P w K mg base T k n ["self", f1, f2] (spE2 (T.cl k) f1 f2) := by
  refine ⟨g, o, fI, fd, hi, ht, hb, F.okX Sc (fun vs H Q E h => ?_) (fun cdv A outer s H vs Q E hr h => ?_)⟩
  · obtain ⟨a, y, z, e, _⟩ := h
    rw [e]; rfl
  · obtain ⟨a, y, z, e, ha, hq⟩ := h
    subst e
    rw [hbody]
    refine ⟨_, pss_cons (ps_ost (pe_var (i := 0) rfl v0) (pe_var (i := 1) rfl v1 hd1 hd2)) (pss_one (ps_ost (pe_var (i := 0) rfl v0) (pe_var (i := 2) rfl v2 hd3 hd4))), ?_⟩
    refine ⟨y, rfl, .ref a, rfl, a, T.cl k, rfl, o, hno, .inl ⟨ha, fun dx h1 h2 => ?_⟩⟩
    exact ⟨z, rfl, .ref a, rfl, a, T.cl k, rfl, o, hno2, .inr ⟨dx, _, upd_same, by rw [upd_ne h2, upd_same], by show 1 ≤ 900; decide, hq dx h1 h2⟩⟩
end

/-! ### a Fill is made -/
def Mx (x dx : Addr) : Addr → Prop := fun p => p = x ∨ p = dx
/-- __init__ of Fill: m tells, of the three values, the error or none -/
def spFI (K : PySem.W.Frag) (C : Addr) (T : Tx) (m : D → D → D → Option Err) : Sp := fun vs H Q E => ∃ S x dx va vb vc a b c, vs = [.ref x, va, vb, vc] ∧ Same S H ∧ S x = none ∧ S dx = none ∧ dx ≠ x ∧ H x = some (.ins C dx []) ∧ H dx = some (.own x) ∧
  R K C S a va ∧ R K C S b vb ∧ R K C S c vc ∧ (plain a = true ∧ plain b = true ∧ plain c = true) ∧
  (m a b c = none → ∀ S' H' xa xb xc, Gr (Mx x dx) S H S' H' → S' x = none → S' dx = none → R K C S' a xa → R K C S' b xb → R K C S' c xc → H' x = some (SlX.SlO x C dx [some xa, some xc, some xb]) → H' dx = some (.xd []) → Q .non H') ∧
  (∀ er, m a b c = some er → ∀ cls dd S' H', Gr (Mx x dx) S H S' H' → RX K C T S' H' er cls dd → E cls dd H')
structure Fm (P : Program) (w : World) (K : PySem.W.Frag) (mg : Str → Option Value) (base : Heap) (C : Addr) (T : Tx) (k : Nat) (m : D → D → D → Option Err) : Prop where
  g : mg "Fill" = some (.ref C)
  ex : ∃ (f : Addr) (fd : FuncData), Mk K C f ∧ L2.Binds K fd ["self", "start", "step", "turn"] [] ∧ FnOk P w K mg base (L2.CX P w) k f fd ["self", "start", "step", "turn"] (spFI K C T m)
section
variable {X : Cx} {f C : Addr} {fd : FuncData} {ps : List Str} {sp : Sp} {E : L2.St → XK} {k : Nat} {x : Str} {p pos : Pos} {e : Expr} {es : List Expr} {t : TA}
theorem run_makeS {pins : List (Addr × Obj)} {σ : L2.St} {H : Hp} {s : Shared} {Q : VK} {us : List Value} {vs : List V} (M : Mk X.K C f) (F : FnOk X.prog X.w X.K X.mg X.base (L2.CX X.prog X.w) k f fd ps sp) (hr : Room (k + 1) X.A) (hb : L2.Binds X.K fd ps [])
    (hx : PassesAt (L2.CX X.prog X.w) X σ (E σ)) (I : Inv X pins σ H s) (r : Vals vs us)
    (h : ∀ x dx, H x = none → H dx = none → dx ≠ x → sp (.ref x :: vs) (upd (upd H dx (.own x)) x (.ins C dx [])) (fun v H2 => v = .non ∧ Q (.ref x) H2) (E σ)) :
    wpAny (model X.prog X.w) X.A (call (.ref C) us) (EP X pins σ Q) X.xe s := by
  have hq := h (s.heap.objs.size + 1) s.heap.objs.size (I.hok.fresh (Nat.le_succ _)) (I.hok.fresh (Nat.le_refl _)) (Nat.ne_of_lt (Nat.lt_succ_self _))
  have I2 := Inv.made (C := C) I
  have r2 : Vals (V.ref (s.heap.objs.size + 1) :: vs) (Value.ref (s.heap.objs.size + 1) :: us) := .cons rfl r
  have hl : (Value.ref (s.heap.objs.size + 1) :: us).length = ps.length := by
    have e := r2.length
    rw [F.len _ _ _ _ hq] at e
    exact e.symm
  have b := hb _ (Value.ref (s.heap.objs.size + 1) :: us) I2.kIn (by rw [List.append_nil]; exact hl)
  rw [List.append_nil] at b
  refine wpAny_call (make_map (f := f) I.kIn M.makes M.init (beq_iff_eq.mp M.fn) (codeAny_mono (F.run _ X.stack _ _ ⟨Value.ref (s.heap.objs.size + 1) :: us, []⟩ (Value.ref (s.heap.objs.size + 1) :: us) _ _ (E σ) (hr.make C us [])
    (I2.env0.make C us []) b r2 hq) fun r s' hq' => ?_))
  cases r with
  | error e => exact hx pins _ _ e s' I2 hq'
  | ok fl =>
    cases fl with
    | ret u =>
      obtain ⟨v, H', I3, rv, ev, q3⟩ := I2.after hq'
      subst ev
      exact ⟨rv, ⟨V.ref (s.heap.objs.size + 1), H', I3, rfl, q3⟩⟩
    | next => exact False.elim hq'
    | brk => exact False.elim hq'
    | cont => exact False.elim hq'
def tMakeS (C : Addr) (sp : Sp) (E : L2.St → XK) (t : TA) : TE := fun σ H Q => t σ H fun vs H1 => ∀ x dx, H1 x = none → H1 dx = none → dx ≠ x → sp (.ref x :: vs) (upd (upd H1 dx (.own x)) x (.ins C dx [])) (fun v H2 => v = .non ∧ Q (.ref x) H2) (E σ)
theorem pe_makeS (M : Mk X.K C f) (F : FnOk X.prog X.w X.K X.mg X.base (L2.CX X.prog X.w) k f fd ps sp) (hr : Room (k + 1) X.A) (hg : Gl X x) (hm : X.mg x = some (.ref C)) (hb : L2.Binds X.K fd ps []) (hx : ∀ σ, PassesAt (L2.CX X.prog X.w) X σ (E σ))
    (ha : PA X (e :: es) t) (hdb : (x == ("__debug__" : Str)) = false := by decide) (he : starEach (e :: es) X.env = (false, eval e X.env) :: starEach es X.env := by rfl) (hpl : (backTo pos (starEach es X.env)).any (·.1) = false := by rfl) :
    PE X (.Call (.Name x p) (e :: es) [] pos) (tMakeS C sp E t) := by
  refine ⟨fun pins s σ H Q I h => ?_⟩
  refine wpAny_Call_Name_kw (ld_glob I hg hm ?_ hdb)
  refine PySem.W.callWith_K (h₀ := X.base) I.ok.mod.kin M.kp (thn (ha.run pos pins s σ H _ I h) fun us s1 ⟨vs, H1, I1, r, q⟩ => ⟨I1.kIn, ?_⟩) he hpl
  exact run_makeS M F hr hb (hx σ) I1 r q
end
section
variable {X : Cx} {C : Addr} {T : Tx} {V : Vo} {env : List En} {e1 e2 e3 : Expr} {a b c : D} {k j : Nat} {p pos : Pos} {m : D → D → D → Option Err} {W : WX}
theorem plain_R : True := True.intro
theorem fill_read {K : PySem.W.Frag} {E : L2.St → XK} (hp : plain a = true ∧ plain b = true ∧ plain c = true) (hE : ∀ σ cls dd H, E σ cls dd H = W cls dd σ H) : ∀ σ H Q, tJX K C T V env W (match m a b c with | none => .ok (.fil a b c) | some er => .error er) σ H Q → tMakeS C (spFI K C T m) E (tJA K C V env (· = [a, b, c])) σ H Q := fun σ H Q ⟨S, o, q1, q2⟩ => ⟨S, o, fun ds vs S1 H1 p1 g1 j1 r1 => fun x dx nx ndx ne => by
  subst p1
  obtain ⟨va, r, ev, ra, rr⟩ := RL.cons_iff.mp r1
  obtain ⟨vb, vc, ev2, rb, rc⟩ := RL.two rr
  subst ev2 ev
  have sx : S1 x = none := by
    cases z : S1 x with
    | none => rfl
    | some u => rw [g1.sub x u z] at nx; cases nx
  have sdx : S1 dx = none := by
    cases z : S1 dx with
    | none => rfl
    | some u => rw [g1.sub dx u z] at ndx; cases ndx
  have kp : ∀ b u, H1 b = some u → upd (upd H1 dx (.own x)) x (.ins C dx []) b = some u := fun b u z => by
    rw [upd_ne (ne_of_none z nx), upd_ne (ne_of_none z ndx)]; exact z
  have g2 : ∀ {S' H'}, Gr (Mx x dx) S1 (upd (upd H1 dx (.own x)) x (.ins C dx [])) S' H' → Gr M0 S1 H1 S' H' := fun {S' H'} g => ⟨g.s, g.sub, fun b u _ z => g.h b u (fun w => by
      rcases w with w | w
      · exact ne_of_none z nx w
      · exact ne_of_none z ndx w) (kp b u z), fun b u z => g.m b u (kp b u z), fun b u z n => g.n b u (kp b u z) n⟩
  refine ⟨S1, x, dx, va, vb, vc, a, b, c, rfl, fun b u z => kp b u (g1.sub b u z), sx, sdx, ne, upd_same, by rw [upd_ne ne, upd_same], ra, rb, rc, hp, fun hm S' H' xa xb xc g sx' sdx' ra' rb' rc' hx hdx => ⟨rfl, ?_⟩, fun er hm cls dd S' H' g rx => ?_⟩
  · have g3 := g2 g
    -- both let stand
    have hxn : H1 x = none := nx
    have g4 : Gr M0 S1 H1 (upd S' dx (.xd [])) H' := g3.rel sdx' ndx hdx
    have g5 : Gr M0 S1 H1 (upd (upd S' dx (.xd [])) x (SlX.SlO x C dx [some xa, some xc, some xb])) H' := g4.rel (by rw [upd_ne (Ne.symm ne)]; exact sx') nx hx
    refine q1 (.fil a b c) (.ref x) _ H' (by rw [hm]) (g1.trans g5.up0) (V.gr0 g5 j1) (by
      have sm : Same S' (upd (upd S' dx (.xd [])) x (SlX.SlO x C dx [some xa, some xc, some xb])) := fun b u z => by rw [upd_ne (ne_of_none z sx'), upd_ne (ne_of_none z sdx')]; exact z
      exact R.fil_iff.mpr ⟨x, dx, xa, xb, xc, rfl, .inr ⟨upd_same, by rw [upd_ne ne, upd_same]⟩, ra'.mono sm, rb'.mono sm, rc'.mono sm⟩)
  · have g3 := g2 g
    rw [hE]
    exact q2 er cls dd S' H' (by rw [hm]) (g1.trans g3.up0) (V.gr0 g3 j1) rx⟩
/-- Fill(a, b, c), what comes back or is raised -/
theorem px_fill (F : Fm X.prog X.w X.K X.mg X.base C T k m) (hr : Room j X.A) (hk : k + 1 ≤ j) (tk : Takes X W) (ha : JA X C V env [e1, e2, e3] (· = [a, b, c])) (hp : plain a = true ∧ plain b = true ∧ plain c = true) (hg : Gl X "Fill" := by rfl)
    (he : starEach [e1, e2, e3] X.env = (false, eval e1 X.env) :: starEach [e2, e3] X.env := by rfl) (hpl : (backTo pos (starEach [e2, e3] X.env)).any (·.1) = false := by rfl) :
    PE X (.Call (.Name "Fill" p) [e1, e2, e3] [] pos) (tJX X.K C T V env W (match m a b c with | none => .ok (.fil a b c) | some er => .error er)) := by
  obtain ⟨f, fd, h1, h2, h3⟩ := F.ex
  exact (pe_makeS (E := WE W) h1 h3 (hr.mono hk) hg F.g h2 (fun σ => passAt tk σ) ha (by decide) he hpl).weak (fill_read hp fun _ _ _ _ => rfl)
theorem je_fill (F : Fm X.prog X.w X.K X.mg X.base C T k m) (hr : Room j X.A) (hk : k + 1 ≤ j) (ha : JA X C V env [e1, e2, e3] (· = [a, b, c])) (hp : plain a = true ∧ plain b = true ∧ plain c = true) (hm : m a b c = none) (hg : Gl X "Fill" := by rfl)
    (he : starEach [e1, e2, e3] X.env = (false, eval e1 X.env) :: starEach [e2, e3] X.env := by rfl) (hpl : (backTo pos (starEach [e2, e3] X.env)).any (·.1) = false := by rfl) :
    JE X C V env (.Call (.Name "Fill" p) [e1, e2, e3] [] pos) (· = .fil a b c) := by
  obtain ⟨f, fd, h1, h2, h3⟩ := F.ex
  refine (pe_makeS (E := fun _ => E0) h1 h3 (hr.mono hk) hg F.g h2 (fun σ pins H s e s' I z => passL pins σ H s e s' I z) ha (by decide) he hpl).weak fun σ H Q ⟨S, o, q⟩ => fill_read (W := fun _ _ _ _ => False) (E := fun _ => E0) (T := T) (V := V) hp (fun _ _ _ _ => rfl) σ H Q ⟨S, o, fun d v S' H' e g j r => q d v S' H' ?_ g j r, fun er cls dd S' H' e g j r => ?_⟩
  · rw [hm] at e
    cases e
    rfl
  · rw [hm] at e
    cases e
end
end RQ

/-! RqG: statements of a def that fills lists of its own. -/
namespace RQ
open PySem PySem.Spec PyProof.Rows L2

/-- where a def stands: its entry -/
structure Am where
  S0 : Hp
  H0 : Hp
  U : Vo
structure Zt (K : PySem.W.Frag) (C : Addr) (A : Am) (V : Vo) (S H : Hp) (σ : L2.St) (env : List En) : Prop where
  ok : Ok K C V S H σ env
  gr : Gr A.U.M A.S0 A.H0 S H
  le : ∀ q, V.M q → A.U.M q ∨ A.H0 q = none
  j : ∀ S H, V.J S H → A.U.J S H
theorem Gr.am {M M' : Addr → Prop} {S0 H0 S H S' H' : Hp} (g : Gr M S0 H0 S H) (g2 : Gr M' S H S' H') (le : ∀ q, M' q → M q ∨ H0 q = none) : Gr M S0 H0 S' H' where
  s := g.s.trans g2.s
  sub := g2.sub
  h := fun p o n e => g2.h p o (fun m => by
    rcases le p m with z | z
    · exact n z
    · rw [z] at e; cases e) (g.h p o n e)
  m := fun p o e => by
    obtain ⟨o', e'⟩ := g.m p o e
    exact g2.m p o' e'
  n := fun p o e n => by
    obtain ⟨o', e'⟩ := g.m p o e
    exact g2.n p o' e' (g.n p o e n)
theorem Zt.step {K : PySem.W.Frag} {C : Addr} {A : Am} {V : Vo} {S H S' H' : Hp} {σ σ' : L2.St} {env env' : List En} (z : Zt K C A V S H σ env) (g : Gr V.M S H S' H') (j : V.J S' H') (r : RS K C S' σ' env') : Zt K C A V S' H' σ' env' := ⟨⟨g.sub, j, r⟩, z.gr.am g z.le, z.le, z.j⟩
section
variable (K : PySem.W.Frag) (C : Addr) (T : Tx) (A : Am) (V : Vo) (env : List En) (N : List En → Vo → Prop) (Rt : D → Prop) (W : WX) (Et : Err → Prop)
def tZ : TS := fun D σ H => ∃ S, Zt K C A V S H σ env ∧ (∀ env' V' σ' S' H', N env' V' → Same S S' → Zt K C A V' S' H' σ' env' → D.nx σ' H') ∧
  (∀ d v S' H', Rt d → Gr A.U.M A.S0 A.H0 S' H' → A.U.J S' H' → R K C S' d v → D.rt v H') ∧
  (∀ er cls dd σ' S' H', Et er → Gr A.U.M A.S0 A.H0 S' H' → A.U.J S' H' → RX K C T S' H' er cls dd → W cls dd σ' H')
end
abbrev JZ (X : Cx) (C : Addr) (T : Tx) (A : Am) (V : Vo) (env : List En) (sts : List Stmt) (N : List En → Vo → Prop) (Rt : D → Prop) (W : WX) (Et : Err → Prop) : Prop := PSs X sts (tZ X.K C T A V env N Rt W Et)
abbrev JZt (X : Cx) (C : Addr) (T : Tx) (A : Am) (V : Vo) (env : List En) (st : Stmt) (N : List En → Vo → Prop) (Rt : D → Prop) (W : WX) (Et : Err → Prop) : Prop := PS X st (tZ X.K C T A V env N Rt W Et)
section
variable {X : Cx} {C : Addr} {T : Tx} {A : Am} {V : Vo} {env : List En} {e a b : Expr} {Φ : D → Prop} {Θ : Bool → Prop} {pos : Pos} {x : D} {N N1 N' : List En → Vo → Prop} {Ne : List En → Prop} {Rt : D → Prop} {W : WX} {Et : Err → Prop} {st : Stmt} {rest sts : List Stmt}
theorem z_start (h : ∀ A : Am, A.U = V → JZ X C T A V env sts (fun e v => Ne e) Rt W Et) : JS X C T V env sts Ne Rt W Et :=
  (pss_fam (P := fun A : Am => A.U = V) h).weak fun D σ H ⟨S, o, k1, k2, k3⟩ => ⟨⟨S, H, V⟩, rfl, S, ⟨o, .refl o.sub, fun q m => .inl m, fun _ _ z => z⟩, fun env' V' σ' S' H' n _ z => k1 env' σ' S' H' n z.gr (z.j _ _ z.ok.j) z.ok.rs, k2, k3⟩
theorem JZt.imp (h : JZt X C T A V env st N Rt W Et) (h1 : ∀ e v, N e v → N' e v) : JZt X C T A V env st N' Rt W Et := h.weak fun D σ H ⟨S, o, k1, k2, k3⟩ => ⟨S, o, fun env' V' σ' S' H' p => k1 env' V' σ' S' H' (h1 _ _ p), k2, k3⟩
theorem JZ.imp (h : JZ X C T A V env sts N Rt W Et) (h1 : ∀ e v, N e v → N' e v) : JZ X C T A V env sts N' Rt W Et := h.weak fun D σ H ⟨S, o, k1, k2, k3⟩ => ⟨S, o, fun env' V' σ' S' H' p => k1 env' V' σ' S' H' (h1 _ _ p), k2, k3⟩
theorem z_nil : JZ X C T A V env [] (fun e v => e = env ∧ v = V) Rt W Et := pss_nil.weak fun D σ H ⟨S, o, k1, _⟩ => k1 env V σ S H ⟨rfl, rfl⟩ (.refl _) o
theorem z_cons (h1 : JZt X C T A V env st N1 Rt W Et) (h2 : ∀ env' V', N1 env' V' → JZ X C T A V' env' rest N Rt W Et) : JZ X C T A V env (st :: rest) N Rt W Et :=
  (pss_cons h1 (pss_fam (P := fun q : List En × Vo => N1 q.1 q.2) fun q h => h2 q.1 q.2 h)).weak fun D σ H ⟨S, o, k1, k2, k3⟩ =>
    ⟨S, o, fun env' V' σ' S' H' n ss z => ⟨(env', V'), n, S', z, fun e2 v2 σ2 S2 H2 n2 s2 => k1 e2 v2 σ2 S2 H2 n2 (ss.trans s2), k2, k3⟩, k2, k3⟩
theorem z_one (h1 : JZt X C T A V env st N Rt W Et) : JZ X C T A V env [st] N Rt W Et := pss_one h1
/-- a statement that fills nothing of one's own -/
theorem z_st (h : JSt X C T V env st Ne Rt W Et) : JZt X C T A V env st (fun e v => Ne e ∧ v = V) Rt W Et := h.weak fun D σ H ⟨S, z, k1, k2, k3⟩ => ⟨S, z.ok, fun env' σ' S' H' n g j r => k1 env' V σ' S' H' ⟨n, rfl⟩ g.s (z.step g j r),
  fun d v S' H' p g j r => k2 d v S' H' p (z.gr.am g z.le) (z.j _ _ j) r, fun er cls dd σ' S' H' p g j r => k3 er cls dd σ' S' H' p (z.gr.am g z.le) (z.j _ _ j) r⟩
theorem z_js (h : JS X C T V env sts Ne Rt W Et) : JZ X C T A V env sts (fun e v => Ne e ∧ v = V) Rt W Et := h.weak fun D σ H ⟨S, z, k1, k2, k3⟩ => ⟨S, z.ok, fun env' σ' S' H' n g j r => k1 env' V σ' S' H' ⟨n, rfl⟩ g.s (z.step g j r),
  fun d v S' H' p g j r => k2 d v S' H' p (z.gr.am g z.le) (z.j _ _ j) r, fun er cls dd σ' S' H' p g j r => k3 er cls dd σ' S' H' p (z.gr.am g z.le) (z.j _ _ j) r⟩
theorem z_jsF (h : JS X C T V env sts (fun _ => False) Rt W Et) : JZ X C T A V env sts N Rt W Et := (z_js h).imp fun _ _ z => z.1.elim
theorem z_seq (h : JSt X C T V env st Ne Rt W Et) (h2 : ∀ env', Ne env' → JZ X C T A V env' rest N Rt W Et) : JZ X C T A V env (st :: rest) N Rt W Et := z_cons (z_st h) fun env' V' ⟨n, e⟩ => by subst e; exact h2 env' n
theorem z_ret (h : JE X C V env e Rt) : JZt X C T A V env (.Return (some e) pos) N Rt W Et := (z_st (jst_ret (N := fun _ => False) h)).imp fun _ _ z => z.1.elim
theorem z_if {c : Expr} {P Q : List Stmt} (hc : JT X C V env c Θ) (ha : (∃ h, Θ h ∧ h = true) → JZ X C T A V env P N Rt W Et) (hb : (∃ h, Θ h ∧ h = false) → JZ X C T A V env Q N Rt W Et) : JZt X C T A V env (.If c P Q pos) N Rt W Et := by
  refine ⟨fun pins s σ H D I h => ?_⟩
  obtain ⟨S, z, k1, k2, k3⟩ := h
  refine wpAny_If (thn (hc.run pins s σ H (fun c H1 => Θ c ∧ tZ X.K C T A V env N Rt W Et D σ H1) I ⟨S, z.ok, fun c S' H' p g j => ⟨p, S', z.step g j (z.ok.rs.mono g.s), fun e2 v2 σ2 S2 H2 n2 s2 => k1 e2 v2 σ2 S2 H2 n2 (g.s.trans s2), k2, k3⟩⟩) fun d s1 ⟨H1, I1, q1⟩ => ?_)
  obtain ⟨q0, q1⟩ := q1
  cases d with
  | true => exact (ha ⟨_, q0, rfl⟩).run pins s1 σ H1 D I1 q1
  | false => exact (hb ⟨_, q0, rfl⟩).run pins s1 σ H1 D I1 q1
theorem z_ifE {c : Expr} {p : Bool} {P Q : List Stmt} (hc : JT X C V env c (· = p)) (ha : p = true → JZ X C T A V env P N Rt W Et) (hb : p = false → JZ X C T A V env Q N Rt W Et) : JZt X C T A V env (.If c P Q pos) N Rt W Et :=
  z_if hc (fun ⟨h, e1, e2⟩ => ha (e1.symm.trans e2)) (fun ⟨h, e1, e2⟩ => hb (e1.symm.trans e2))
end
/-! ### a list of one's own -/
def Vo.own (V : Vo) (K : PySem.W.Frag) (C : Addr) (p : Addr) (ds : List D) : Vo := ⟨fun q => V.M q ∨ q = p, fun S H => V.J S H ∧ S p = none ∧ ¬ V.M p ∧ ∃ xs, H p = some (.lst xs) ∧ RL K C S ds xs, fun S H q ⟨j1, j2, j3, xs, j4, j5⟩ m => by
    rcases m with m | m
    · exact V.th S H q j1 m
    · subst m; exact ⟨⟨_, j4⟩, j2⟩, fun S H S' H' ⟨j1, j2, j3, xs, j4, j5⟩ ss sub h1 h2 => ⟨V.st S H S' H' j1 ss sub (fun q m => h1 q (.inl m)) (fun q m => h2 q (.inl m)), h2 p (.inr rfl), j3, xs, by rw [h1 p (.inr rfl)]; exact j4, j5.mono ss⟩⟩
section
variable {X : Cx} {C : Addr} {T : Tx} {A : Am} {V : Vo} {env : List En} {e a b : Expr} {es : List Expr} {Φ : D → Prop} {Φs : List D → Prop} {Θ : Bool → Prop} {pos p1 p2 p3 pos' : Pos} {d : D} {ds xs : List D} {N N1 N' : List En → Vo → Prop} {Rt : D → Prop} {W : WX} {Et : Err → Prop} {st : Stmt} {rest sts : List Stmt} {p : Addr} {i : Nat} {n : Str}
/-- what goes on beside a list of one's own -/
theorem je_lift (h : JE X C V env e Φ) : JE X C (V.own X.K C p ds) env e Φ := h.weak fun σ H Q ⟨S, o, k⟩ => by
  obtain ⟨j1, j2, j3, vs, j4, j5⟩ := o.j
  exact ⟨S, ⟨o.sub, j1, o.rs⟩, fun d v S' H' q g j r => k d v S' H' q (g.up fun _ m => .inl m) ⟨j, g.n p _ j4 j2, j3, vs, g.h p _ j3 j4, j5.mono g.s⟩ r⟩
theorem jt_lift (h : JT X C V env e Θ) : JT X C (V.own X.K C p ds) env e Θ := h.weak fun σ H Q ⟨S, o, k⟩ => by
  obtain ⟨j1, j2, j3, vs, j4, j5⟩ := o.j
  exact ⟨S, ⟨o.sub, j1, o.rs⟩, fun c S' H' q g j => k c S' H' q (g.up fun _ m => .inl m) ⟨j, g.n p _ j4 j2, j3, vs, g.h p _ j3 j4, j5.mono g.s⟩⟩
/-- x = [..] -/
theorem z_ownR (hN : X.N.Nodup) (hi : X.N[i]? = some n) (hx : Loc X.env.scope n) (ha : JA X C V env es Φs) (hz : ∀ ds, Φs ds → ds.length ≤ 1000000) (hs : swapsWith (.List es p1) (some (.Name n pos')) pos.line X.env = pure false := by rfl)
    (hf : X.fn n = true ∨ X.env.scope.names.lookup n = some .local := by first | exact .inl rfl | exact .inr rfl | assumption) :
    JZt X C T A V env (.Assign [.Name n pos'] (.List es p1) pos) (fun env' V' => ∃ p ds, Φs ds ∧ env' = env.set i (.d (.raw (.ref p))) ∧ V' = V.own X.K C p ds) Rt W Et :=
  (ps_set hN hi hx (pe_lst ha) hs hf).weak fun D σ H ⟨S, z, k1, _, _⟩ => ⟨S, z.ok, fun ds vs S1 H1 q g j r => ⟨by rw [r.length]; exact small (hz ds q), fun p hp => by
    have sp : S1 p = none := by
      cases w : S1 p with
      | none => rfl
      | some u => rw [g.sub p u w] at hp; cases hp
    have nm := V.new hp j
    have z1 := z.step g j (z.ok.rs.mono g.s)
    have g2 : Gr V.M S1 H1 S1 (upd H1 p (.lst vs)) := Gr.mine g.sub hp
    refine k1 _ (V.own X.K C p ds) _ S1 _ ⟨p, ds, q, rfl, rfl⟩ g.s ⟨⟨g2.sub, ⟨V.gr0 (Gr.mine g.sub hp) j, sp, nm, vs, upd_same, r⟩, (z.ok.rs.mono g.s).setD i (R.raw_iff.mpr rfl)⟩, z1.gr.am g2 z1.le, fun q m => ?_, fun S H j => z.j S H j.1⟩
    rcases m with m | m
    · exact z.le q m
    · subst m
      refine .inr ?_
      cases w : A.H0 q with
      | none => rfl
      | some u =>
        obtain ⟨u', w'⟩ := z1.gr.m q u w
        rw [hp] at w'; cases w'⟩⟩
theorem z_own (hN : X.N.Nodup) (hi : X.N[i]? = some n) (hx : Loc X.env.scope n) (ha : JA X C V env es (· = ds)) (hz : ds.length ≤ 1000000) (hr : ∀ p, JZ X C T A (V.own X.K C p ds) (env.set i (.d (.raw (.ref p)))) rest N Rt W Et) (hs : swapsWith (.List es p1) (some (.Name n pos')) pos.line X.env = pure false := by rfl)
    (hf : X.fn n = true ∨ X.env.scope.names.lookup n = some .local := by first | exact .inl rfl | exact .inr rfl | assumption) : JZ X C T A V env (.Assign [.Name n pos'] (.List es p1) pos :: rest) N Rt W Et :=
  z_cons (z_ownR hN hi hx ha (fun ds' q => by rw [q]; exact hz) hs hf) fun env' V' ⟨p, ds', e1, e2, e3⟩ => by subst e1 e2 e3; exact hr p
/-- x.append(e); hd: pe_bm .. mt_append (pv i) (pa_cons e pa_nil) -/
theorem z_appR {ce : Expr} (hU : ∀ S H, V.J S H → A.U.J S H) (he : env[i]? = some (.d (.raw (.ref p)))) (hd : PE X ce (tBM X.K "list" rAppend (tVar i) (tCons (tJ X.K C (V.own X.K C p ds) env Φ) tNil))) (hz : ds.length < 1000000) (hs : swapsWith ce none pos.line X.env = pure false := by rfl) :
    JZt X C T A (V.own X.K C p ds) env (.Expr ce pos) (fun env' V' => ∃ d, Φ d ∧ env' = env ∧ V' = V.own X.K C p (ds ++ [d])) Rt W Et :=
  (ps_expr hd hs).weak fun D σ H ⟨S, z, k1, _, _⟩ => by
    obtain ⟨v0, hv0, r0⟩ := z.ok.rs.getD he
    rw [R.raw_iff] at r0
    subst r0
    obtain ⟨j1, j2, j3, vs, j4, j5⟩ := z.ok.j
    refine ⟨.ref p, hv0, .inl ⟨rfl, _, SqL.of j4⟩, S, z.ok, fun d v S1 H1 q g j r => ?_⟩
    obtain ⟨i1, i2, i3, ws, i4, i5⟩ := j
    refine ⟨p, ws, v, rfl, rfl, i4, by rw [i5.length]; exact Nat.lt_of_lt_of_le (show ds.length < 1000000 from hz) (small (Nat.le_refl _)), ?_⟩
    have hg : Gr (V.own X.K C p ds).M S H S1 (upd H1 p (.lst (ws ++ [v]))) := ⟨g.s, fun b u w => by rw [upd_ne (ne_of_none w i2)]; exact g.sub b u w, fun b u nm w => by rw [upd_ne (fun y => nm (.inr y))]; exact g.h b u nm w, fun b u w => by
      by_cases hb : b = p
      · subst hb; exact ⟨_, upd_same⟩
      · rw [upd_ne hb]; exact g.m b u w, g.n⟩
    have hj : (V.own X.K C p (ds ++ [d])).J S1 (upd H1 p (.lst (ws ++ [v]))) := ⟨V.mut i3 i2 g.sub i1, i2, i3, _, upd_same, i5.snoc r⟩
    exact k1 env _ σ S1 _ ⟨d, q, rfl, rfl⟩ g.s ⟨⟨hg.sub, hj, z.ok.rs.mono g.s⟩, z.gr.am hg z.le, z.le, fun S H j => hU S H j.1⟩
theorem z_app {ce : Expr} (hU : ∀ S H, V.J S H → A.U.J S H) (he : env[i]? = some (.d (.raw (.ref p)))) (hd : PE X ce (tBM X.K "list" rAppend (tVar i) (tCons (tJ X.K C (V.own X.K C p ds) env (· = d)) tNil))) (hz : ds.length < 1000000) (hr : JZ X C T A (V.own X.K C p (ds ++ [d])) env rest N Rt W Et) (hs : swapsWith ce none pos.line X.env = pure false := by rfl) :
    JZ X C T A (V.own X.K C p ds) env (.Expr ce pos :: rest) N Rt W Et := z_cons (z_appR hU he hd hz hs) fun env' V' ⟨d', e1, e2, e3⟩ => by subst e1 e2 e3; exact hr
/-- the list is let stand -/
theorem z_rel (hU : ∀ S H, V.J S H → A.U.J S H) (hM : ∀ q, A.U.M q → V.M q) (he : env[i]? = some (.d (.raw (.ref p)))) (hr : JZ X C T A V (env.set i (.d (.lst ds))) sts N Rt W Et) : JZ X C T A (V.own X.K C p ds) env sts N Rt W Et := hr.weak fun D σ H ⟨S, z, k1, k2, k3⟩ => by
  obtain ⟨v0, hv0, r0⟩ := z.ok.rs.getD he
  rw [R.raw_iff] at r0
  subst r0
  obtain ⟨j1, j2, j3, vs, j4, j5⟩ := z.ok.j
  have hn : A.H0 p = none := by
    rcases z.le p (.inr rfl) with m | m
    · exact absurd (hM p m) j3
    · exact m
  have ss : Same S (upd S p (.lst vs)) := fun b u w => by rw [upd_ne (ne_of_none w j2)]; exact w
  have rs2 : RS X.K C (upd S p (.lst vs)) σ (env.set i (.d (.lst ds))) := by
    have := (z.ok.rs.mono ss).setD i (show R X.K C (upd S p (.lst vs)) (.lst ds) (.ref p) from R.mkL upd_same (j5.mono ss))
    have e : σ.set i (some (.ref p)) = σ := by
      apply List.ext_getElem?
      intro k
      rw [List.getElem?_set]
      by_cases hk : i = k
      · subst hk
        obtain ⟨h1, h2⟩ := List.getElem?_eq_some_iff.mp hv0
        rw [if_pos rfl, if_pos h1, hv0]
      · rw [if_neg hk]
    rw [e] at this
    exact this
  exact ⟨upd S p (.lst vs), ⟨⟨fun b u w => by
    by_cases hb : b = p
    · subst hb; rw [upd_same] at w; rw [← w]; exact j4
    · rw [upd_ne hb] at w; exact z.ok.sub b u w, V.rel j3 j2 j4 z.ok.sub j1, rs2⟩, z.gr.rel j2 hn j4, fun q m => z.le q (.inl m), hU⟩, fun e2 v2 σ2 S2 H2 n2 s2 => k1 e2 v2 σ2 S2 H2 n2 (ss.trans s2), k2, k3⟩
end
end RQ

/-! RqH: properties and == of a Fill, isinstance of it. -/
namespace RQ
open PySem PySem.Spec PyProof.Rows L2

/-- a getter of the class -/
structure Fpr (P : Program) (w : World) (K : PySem.W.Frag) (mg : Str → Option Value) (base : Heap) (C : Addr) (T : Tx) (f : Str) (i : Nat) : Prop where
  ex : ∃ (p g : Addr) (rest : List Value) (fd : FuncData), PySem.W.findIn K (.ref C) f = some (some (.ref p)) ∧ PySem.W.specialIn K (.ref p) "__get__" = some (some (.builtin "property.__get__")) ∧ PySem.W.takesIn K (.ref p) = some true ∧ PySem.W.recIn K p "property" = some (.ref g :: rest) ∧
    L2.Binds K fd ["self"] [] ∧ FnOk P w K mg base (L2.CX P w) 1 g fd ["self"] (spG K C T (pok fun ds r => ∃ s p t, ds = [.fil s p t] ∧ ([s, p, t] : List D)[i]? = some r))
structure Feq (P : Program) (w : World) (K : PySem.W.Frag) (mg : Str → Option Value) (base : Heap) (C : Addr) (T : Tx) (k : Nat) (Pe : List D → D → Prop) : Prop where
  ex : ∃ (g : Addr) (fd : FuncData), PySem.W.findIn K (.ref C) "__eq__" = some (some (.ref g)) ∧ PySem.W.isFn K (.ref g) = true ∧ L2.Binds K fd ["self", "other"] [] ∧ FnOk P w K mg base (L2.CX P w) k g fd ["self", "other"] (spG K C T (pok Pe))
section
variable {X : Cx} {C : Addr} {T : Tx} {V : Vo} {env : List En} {e a b : Expr} {pos : Pos} {s p t z : D} {k j : Nat}
theorem cx_E0 {H : Hp} {s' s2 : Shared} {v : Value} : L2.CX X.prog X.w X.stack H s' E0 v s2 → False := fun h => by
  obtain ⟨_, _, _, _, _, _, _, _, _, _, _, _, z⟩ := h
  exact z.elim
theorem je_prop {f : Str} {i : Nat} (L : Flc X.K X.mg C) (F : Fpr X.prog X.w X.K X.mg X.base C T f i) (hr : Room j X.A) (hj : 2 ≤ j) (ha : JE X C V env a (· = .fil s p t)) (hz : ([s, p, t] : List D)[i]? = some z) (hb : attributeBase a f X.env (eval a X.env) = eval a X.env := by rfl) : JE X C V env (.Attribute a f pos) (· = z) := by
  obtain ⟨pp, g, rest, fd, h1, h2, h3, h4, h5, h6⟩ := F.ex
  refine (SlX.pe_propSl (E := E0) ha L.cl h1 h2 h3 ⟨rest, h4⟩ (h6.raw h5 .nil) (hr.mono hj) (fun H s e s' => cx_E0) hb).weak fun σ H Q ⟨S, o, q⟩ => ⟨S, o, fun d v S' H' e g j r => ?_⟩
  subst e
  obtain ⟨aa, dx, x, y, w, e1, h1, h2, h3, h4⟩ := R.fil_iff.mp r
  refine ⟨aa, dx, _, e1, Same.slt g.sub h1, S', [.fil s p t], V0, (· = .ok z), g.sub, True.intro, RL.cons (by rw [← e1]; exact r) RL.nil, ⟨rfl, .ok z, ⟨z, ⟨s, p, t, rfl, hz⟩, rfl⟩, rfl⟩, fun d v S2 H2 e2 g2 j2 r2 => ?_, fun er cls dd S2 H2 e2 => by cases e2⟩
  cases e2
  exact q _ v S2 H2 rfl (g.trans g2.up0) (V.gr0 g2 j) r2
/-- a Fill == another one | a list -/
theorem o2_eqF {Pe : List D → D → Prop} {y : D} {c : Bool} (F : Feq X.prog X.w X.K X.mg X.base C T k Pe) (hP : Pe [.fil s p t, y] (.bl c)) : ∃ (g : Addr), PySem.W.findIn X.K (.ref C) "__eq__" = some (some (.ref g)) ∧ PySem.W.isFn X.K (.ref g) = true ∧ ∃ sp, FnR X.prog X.w X.K X.mg X.base (L2.CX X.prog X.w) k g sp ∧
    ∀ S H u v, Same S H → R X.K C S (.fil s p t) u → R X.K C S y v → ∀ Q : VK, (∀ w S' H', Gr M0 S H S' H' → R X.K C S' (.bl c) w → Q w H') → sp [u, v] H Q E0 := by
  obtain ⟨g, fd, h1, h2, h3, h4⟩ := F.ex
  refine ⟨g, h1, h2, _, h4.raw h3 .nil, fun S H u v e r1 r2 Q q => ?_⟩
  exact ⟨S, [.fil s p t, y], V0, (· = .ok (.bl c)), e, True.intro, RL.cons r1 (RL.cons r2 RL.nil), ⟨rfl, .ok (.bl c), ⟨.bl c, hP, rfl⟩, rfl⟩, fun d v S2 H2 e2 g2 j2 r2 => by
    cases e2
    exact q v S2 H2 g2 r2, fun er cls dd S2 H2 e2 => by cases e2⟩
theorem je_eqF {Pe : List D → D → Prop} {s2 p2 t2 : D} {c : Bool} (F : Feq X.prog X.w X.K X.mg X.base C T k Pe) (hr : Room j X.A) (hj : k ≤ j) (hP : Pe [.fil s p t, .fil s2 p2 t2] (.bl c)) (ha : JE X C V env a (· = .fil s p t)) (hb : JE X C V env b (· = .fil s2 p2 t2)) :
    JE X C V env (.Compare a [.Eq] [b] pos) (· = .bl c) := by
  obtain ⟨g, h1, h2, sp, h3, h4⟩ := o2_eqF F hP
  refine je_cmp1 (SlX.op_own (op := .Eq) (E := E0) (fun _ _ => rfl) h1 h2 h3 (hr.mono hj) passL) ha hb (fun S H u v e r1 r2 Q q => ?_) (nomark _)
  obtain ⟨a1, dx, x, y, w, e1, i1, _⟩ := R.fil_iff.mp r1
  obtain ⟨a2, dx2, x2, y2, w2, e2, i2, _⟩ := R.fil_iff.mp r2
  exact ⟨a1, dx, _, a2, C, dx2, _, e1, e2, Same.slt e i1, Same.slt e i2, by unfold PySem.W.notFirst; simp, h4 S H u v e r1 r2 Q q⟩
/-- x op y, y a list -/
def rOwnL (K : PySem.W.Frag) (C : Addr) (sp : Sp) (E : XK) : R2 := fun x y H Q => ∃ a dx vs b xs, x = .ref a ∧ y = .ref b ∧ SlX.Slt H a C dx vs ∧ SqL K H b xs ∧ sp [x, y] H Q E
theorem op_ownL {CX : CXT} {g : Addr} {n : Nat} {sp : Sp} {E : XK} (hn : PySem.W.notFirst X.K C (.type "list") = true) (hs : PySem.W.findIn X.K (.ref C) "__eq__" = some (some (.ref g))) (hf : PySem.W.isFn X.K (.ref g) = true) (F : FnR X.prog X.w X.K X.mg X.base CX n g sp)
    (hr : Room n X.A) (hx : Passes CX X E) : OpR X (compareOp .Eq) (rOwnL X.K C sp E) := by
  intro pins s σ H x y v u Q I rx ry h
  obtain ⟨a, dx, vs, b, xs, rfl, rfl, ha, hb, q⟩ := h
  cases (show v = Value.ref a from rx)
  cases (show u = Value.ref b from ry)
  obtain ⟨sl, od, _, J, _⟩ := SlX.slt_inst I ha
  obtain ⟨its, rv, ⟨o', n', ho', hc', hd', hs'⟩, hz⟩ := I.list hb
  obtain ⟨m, hF⟩ := I.fr
  have hty : PySem.W.Looks (model X.prog X.w) s.heap (typeOf (.ref b)) (.type "list") := fun A Q E s' k q => wpAny_typeOf_ref (k _ _ ho') (by rw [hc']; exact q)
  show wpAny _ _ (richCompare .Eq (.ref a) (.ref b)) _ _ _
  refine PySem.W.cmp_K (op := .Eq) (tb := .type "list") hr.units0 hF I.ok.mod.kin J hty hn hs hf ?_
  refine wpAny_mono (wpAny_call (run_fnR (us := [.ref a, .ref b]) (vs := [.ref a, .ref b]) F hr hx I (.cons rfl (.cons rfl .nil)) q)) (fun w s' z => ?_) fun _ _ x => x
  obtain ⟨z', H', I', rz, qz⟩ := z
  exact SlX.cmpback rz ⟨z', H', I', rz, qz⟩
theorem je_eqFL {Pe : List D → D → Prop} {xs : List D} {c : Bool} (hn : PySem.W.notFirst X.K C (.type "list") = true) (F : Feq X.prog X.w X.K X.mg X.base C T k Pe) (hr : Room j X.A) (hj : k ≤ j) (hP : Pe [.fil s p t, .lst xs] (.bl c)) (ha : JE X C V env a (· = .fil s p t)) (hb : JE X C V env b (· = .lst xs)) :
    JE X C V env (.Compare a [.Eq] [b] pos) (· = .bl c) := by
  obtain ⟨g, h1, h2, sp, h3, h4⟩ := o2_eqF F hP
  refine je_cmp1 (op_ownL (E := E0) hn h1 h2 h3 (hr.mono hj) passL) ha hb (fun S H u v e r1 r2 Q q => ?_) (nomark _)
  obtain ⟨a1, dx, x, y, w, e1, i1, _⟩ := R.fil_iff.mp r1
  obtain ⟨a2, ys, e2, i2, _⟩ := R.lstL r2
  exact ⟨a1, dx, _, a2, _, e1, e2, Same.slt e i1, e.seq i2, h4 S H u v e r1 r2 Q q⟩
/-- isinstance(x, Fill) -/
theorem je_isFillT {p1 p2 : Pos} (z : Zb X.mg) (L : Flc X.K X.mg C) (hi : SlX.SIsi X.K C) (ha : JE X C V env a (· = .fil s p t)) (g1 : Gl X "isinstance" := by rfl) (g2 : Gl X "Fill" := by rfl)
    (he : starEach [a, .Name "Fill" p2] X.env = (false, eval a X.env) :: starEach [.Name "Fill" p2] X.env := by rfl) (he2 : starEach [.Name "Fill" p2] X.env = (false, eval (.Name "Fill" p2) X.env) :: starEach [] X.env := by rfl) (hpl : (backTo pos (starEach [.Name "Fill" p2] X.env)).any (·.1) = false := by rfl) :
    JE X C V env (.Call (.Name "isinstance" p1) [a, .Name "Fill" p2] [] pos) (· = .bl true) :=
  je_B1 (SlX.call_isiSl (.ref C)) g1 z.isinstance (by decide +kernel) (ja_cons ha (ja_cons (je_c (x := .raw (.ref C)) (fun S => R.raw_iff.mpr rfl) (pe_glob (v := .ref C) g2 L.g rfl)) ja_nil he2) he) (oc_of fun S H vs e rr => by
    obtain ⟨v, w, e1, h1, h2⟩ := RL.two rr
    rw [R.raw_iff] at h2
    subst h2 e1
    obtain ⟨a1, dx, x, y, w', e1, i1, _⟩ := R.fil_iff.mp h1
    subst e1
    exact ⟨_, R.bl_iff.mpr rfl, fun Q q => ⟨a1, C, dx, _, .ref C, true, rfl, rfl, fun w h => h, Same.slt e i1, L.cl, hi, by unfold PySem.W.kitOne; simp, q⟩⟩) (by decide) (by decide) he hpl
theorem je_isFillF {p1 p2 : Pos} {xs : List D} (z : Zb X.mg) (L : Flc X.K X.mg C) (hk : PySem.W.kitOne X.K (.type "list") (.ref C) = some false) (hp : plain (.lst xs) = true) (ha : JE X C V env a (· = .lst xs)) (g1 : Gl X "isinstance" := by rfl) (g2 : Gl X "Fill" := by rfl)
    (he : starEach [a, .Name "Fill" p2] X.env = (false, eval a X.env) :: starEach [.Name "Fill" p2] X.env := by rfl) (he2 : starEach [.Name "Fill" p2] X.env = (false, eval (.Name "Fill" p2) X.env) :: starEach [] X.env := by rfl) (hpl : (backTo pos (starEach [.Name "Fill" p2] X.env)).any (·.1) = false := by rfl) :
    JE X C V env (.Call (.Name "isinstance" p1) [a, .Name "Fill" p2] [] pos) (· = .bl false) :=
  je_B1 call_isi g1 z.isinstance (by decide +kernel) (ja_cons ha (ja_cons (je_c (x := .raw (.ref C)) (fun S => R.raw_iff.mpr rfl) (pe_glob (v := .ref C) g2 L.g rfl)) ja_nil he2) he) (oc_of fun S H vs e rr => by
    obtain ⟨v, w, e1, h1, h2⟩ := RL.two rr
    rw [R.raw_iff] at h2
    subst h2 e1
    exact ⟨_, R.bl_iff.mpr rfl, fun Q q => ⟨v, .ref C, .type "list", .ref C, false, rfl, .own C, h1.tyx e hp, hk, q⟩⟩) (by decide) (by decide) he hpl
end
end RQ

/-! RqI: try with several clauses, some of them with a name; the caught error's fields and class. -/
namespace RQ
open PySem PySem.Spec PyProof.Rows L2

abbrev Hd := Value × Option Nat × (Addr → Value → Option Addr → TS)
def endsN (i : Nat) (D : Ends) : Ends := { nx := fun σ' H' => D.nx (σ'.set i none) H', rt := D.rt, bk := fun σ' H' => D.bk (σ'.set i none) H', ct := fun σ' H' => D.ct (σ'.set i none) H' }
def wG (K : PySem.W.Frag) (Wout : WX) (D : Ends) : List Hd → WX
  | [] => Wout
  | (c, none, ts) :: r => fun cls d σ H => ∃ b, PySem.W.exmOne K cls c = some b ∧ (b = true → ∀ a, H a = none → ts a cls d D σ H) ∧ (b = false → wG K Wout D r cls d σ H)
  | (c, some i, ts) :: r => fun cls d σ H => ∃ b, PySem.W.exmOne K cls c = some b ∧ (b = true → ∀ a, H a = none → ts a cls d (endsN i D) (σ.set i (some (.ref a))) H) ∧ (b = false → wG K Wout D r cls d σ H)
inductive HdsG (X : Cx) : List ExceptHandler → List Hd → Prop
  | nil : HdsG X [] []
  | plain {x : Str} {c : Value} {ts : Addr → Value → Option Addr → TS} {b₀ : Stmt} {suite : List Stmt} {np pos' : Pos} {hds : List ExceptHandler} {l : List Hd} (hc : Names X x c)
      (hsu : ∀ (a : Addr) (oe : Obj) (cls : Value) (d : Option Addr) (pn : List (Addr × Obj)), Zc cls d oe → (∃ vs, oe.data = .fields vs) → PSs (X.suite a ((a, oe) :: pn)) (b₀ :: suite) (ts a cls d)) (r : HdsG X hds l) :
      HdsG X (.ExceptHandler (some (.Name x np)) none (b₀ :: suite) pos' :: hds) ((c, none, ts) :: l)
  | named {x n : Str} {i : Nat} {c : Value} {ts : Addr → Value → Option Addr → TS} {b₀ : Stmt} {suite : List Stmt} {np pos' : Pos} {hds : List ExceptHandler} {l : List Hd} (hN : X.N.Nodup) (hi : X.N[i]? = some n) (hln : X.env.kindOf n = some .local) (hc : Names X x c)
      (hsu : ∀ (a : Addr) (oe : Obj) (cls : Value) (d : Option Addr) (pn : List (Addr × Obj)), Zc cls d oe → (∃ vs, oe.data = .fields vs) → PSs (X.suite a ((a, oe) :: pn)) (b₀ :: suite) (ts a cls d)) (r : HdsG X hds l) :
      HdsG X (.ExceptHandler (some (.Name x np)) (some n) (b₀ :: suite) pos' :: hds) ((c, some i, ts) :: l)
section
variable {X : Cx} {body : List Stmt} {h₀ : ExceptHandler} {hds : List ExceptHandler} {l : List Hd} {pos : Pos} {tb : WX → TS} {Wout : WX}
theorem ps_try_gen (hs : X.stack = X.env :: X.outer) (hf : X.env.frame = some X.env.locals) (tk : Takes X Wout)
    (hb : ∀ (W : WX) (pn : List (Addr × Obj)) (xe : Value → Shared → Prop), Takes (X.tr pn xe) W → PassesOwn (model X.prog X.w) X.A X.env xe → PSs (X.tr pn xe) body (tb W))
    (hh : HdsG X (h₀ :: hds) l) : PS X (.Try body (h₀ :: hds) [] [] pos) (fun D σ H => tb (wG X.K Wout D l) D σ H) := by
  refine ⟨fun pins s σ H D I h => ?_⟩
  have ok := I.ok
  have hfr : X.A.frames = some (X.env :: X.outer) := by rw [ok.frames, hs]
  refine wpAny_Try_except ?_
  refine wpAny_mono ((hb (wG X.K Wout D l) (X.pn ++ pins) (fun e s₁ => wpAny (model X.prog X.w) X.A (noteFrame e X.env) (fun _ s₂ => wpAny (model X.prog X.w) X.A (setFlight e none) (fun _ s₃ =>
    wpAny (model X.prog X.w) X.A (handleBy e X.env (h₀ :: hds)) (SP X pins D) X.xe s₃) X.xe s₂) X.xe s₁) (fun u s' xx => ?_) PassesOwn.looking).run [] s σ H D (I.toTry _) h) (fun f s1 hsp => ?_) (fun e s1 he => he)
  · obtain ⟨a, B, sI, pins', σ', H', cls, d, rfl, J', nb, up, sky, na, os, ag, w⟩ := xx
    have J : Inv X pins σ' H' sI := J'.ofTry ok
    have sky' : Sky B (X.env :: X.outer) a (Zc cls d) X.env.locals s'.heap := by rw [← hs]; exact sky
    show wpAny (model X.prog X.w) X.A (noteFrame (.ref a) X.env) _ _ _
    refine Sky.land Zc.steady hfr hf sky' fun h3 fl3 up3 => ?_
    have J3 : Inv X pins σ' H' { s' with heap := h3 } := J.landed nb fl3.1 (up.trans up3) os ag
    obtain ⟨oe3, vs3, he3, hz3, hd3⟩ := fl3.there
    have notFr : ∀ {h : Heap} {o : Obj} {vs : Array Value}, h.FunFrames B (X.env :: X.outer) → h.get? a = some o → o.data = .fields vs → a ∉ frs (X.env :: X.outer) := fun {h o vs} ff e dd hm => by
      obtain ⟨_, o', e', hnf⟩ := ff.mem hm
      rw [e] at e'; cases e'
      exact hnf _ dd
    have nfr := notFr fl3.2.2.1 he3 hd3
    have nL : a ≠ X.env.locals := fun z => nfr (List.mem_filterMap.mpr ⟨X.env, List.mem_cons_self, by rw [hf, z]⟩)
    have nF : a ∉ X.fs := fun hm => by
      obtain ⟨e, he, q⟩ := List.mem_filterMap.mp hm
      exact nfr (List.mem_filterMap.mpr ⟨e, List.mem_cons_of_mem _ he, q⟩)
    have S3 := J3.suite he3 hd3 na nL nF
    have test : ∀ {x : Str} {c : Value} {np : Pos} {Q : Value → Shared → Prop} {E : Value → Shared → Prop}, Names X x c → Q c { s' with heap := h3 } → wpAny (model X.prog X.w) (X.A.mark (some (.ref a))) (eval (.Name x np) X.env) Q E { s' with heap := h3 } := fun {x c np Q E} hc q => by
      obtain ⟨hg, hdbg, hm | ⟨hm, hv, hnn⟩⟩ := hc
      · exact ld_glob (X := X.suite a ((a, oe3) :: (X.pn ++ pins))) S3 hg hm q hdbg
      · exact ld_blt (X := X.suite a ((a, oe3) :: (X.pn ++ pins))) S3 hg hm hv q hnn hdbg
    have go : ∀ {hds' : List ExceptHandler} {l' : List Hd}, HdsG X hds' l' → wG X.K Wout D l' cls d σ' H' →
        wpAny (model X.prog X.w) X.A (handleBy (.ref a) X.env hds') (SP X pins D) X.xe { s' with heap := h3 } := by
      intro hds' l' hk
      induction hk with
      | nil =>
        intro w
        refine wpAny_handleBy_nil ?_
        obtain ⟨k1, k2, k3, oe, vs, T, oT, ts', he, hz, hd, h1, hr⟩ := id fl3
        unfold PySem.passOn
        refine wpAny_bind (wpAny_field he hd h1 ?_)
        rw [if_neg (show ¬ ((Value.ref T == Value.none) = true) from by simp)]
        have fin : wpAny (model X.prog X.w) X.A (setFlight (.ref a) X.env.frame) (fun _ s4 => wpAny (model X.prog X.w) X.A (throw (.ref a) : Sem Flow) (SP X pins D) X.xe s4) X.xe { s' with heap := h3 } := by
          rw [hf]
          refine HandSPX.setFlight_upZ fl3 fun h4 hh4 up4 => wpAny_throw (tk _ _ ?_)
          exact ⟨a, B, sI, pins, σ', H', cls, d, rfl, J, nb, (up.trans up3).trans up4, .inr (.inr (by rw [hs]; exact hh4)), na, os, ag, w⟩
        first
          | exact wpAny_bind (wpAny_pure (wpAny_bind fin))
          | exact wpAny_bind fin
      | @plain x c ts b₀ suite np pos' hds2 l2 hc hsu r ih =>
        intro w
        obtain ⟨b, hb1, hyes, hno⟩ := w
        refine wpAny_handleBy_cons (codeAny_handlers_test ?_) (by intro q; cases q)
        have LT : PySem.W.Looks (model X.prog X.w) h3 (typeOf (.ref a)) cls := fun A Q E s k q => wpAny_typeOf_ref (k _ _ he3) (by rw [hz3.1]; exact q)
        have LM := PySem.W.exm_one (M := model X.prog X.w) (J3.kIn) LT hb1
        refine test hc (LM.here ?_)
        cases b with
        | true =>
          refine codeAny_handlers_suite ?_
          refine HandSPX.lands_againZ fl3 fun h4 fl4 up4 => ?_
          have J4 : Inv X pins σ' H' { s' with heap := h4 } := J.landed nb fl4.1 ((up.trans up3).trans up4) os ag
          obtain ⟨oe4, vs4, he4, hz4, hd4⟩ := fl4.there
          have S4 := J4.suite he4 hd4 na nL nF
          refine wpAny_mono ((hsu a oe4 cls d (X.pn ++ pins) hz4 ⟨_, hd4⟩).run [] _ _ H' _ S4 (hyes rfl a na)) (fun f s6 hsp => ?_) (fun _ _ z => False.elim z)
          cases f with
          | next =>
            obtain ⟨σ6, H6, S6, q6⟩ := hsp
            exact ⟨_, _, S6.unsuite ok, q6⟩
          | brk =>
            obtain ⟨σ6, H6, S6, q6⟩ := hsp
            exact ⟨_, _, S6.unsuite ok, q6⟩
          | cont =>
            obtain ⟨σ6, H6, S6, q6⟩ := hsp
            exact ⟨_, _, S6.unsuite ok, q6⟩
          | ret u =>
            obtain ⟨v6, σ6, H6, S6, r6, q6⟩ := hsp
            exact ⟨_, _, _, S6.unsuite ok, r6, q6⟩
        | false =>
          show wpAny _ X.A (handleBy (.ref a) X.env hds2) _ _ _
          exact ih (hno rfl)
      | @named x n i c ts b₀ suite np pos' hds2 l2 hN hi hln hc hsu r ih =>
        intro w
        have hloc : Loc X.env.scope n := .inl hln
        obtain ⟨b, hb1, hyes, hno⟩ := w
        refine wpAny_handleBy_cons (codeAny_handlers_test ?_) (by intro q; cases q)
        have LT : PySem.W.Looks (model X.prog X.w) h3 (typeOf (.ref a)) cls := fun A Q E s k q => wpAny_typeOf_ref (k _ _ he3) (by rw [hz3.1]; exact q)
        have LM := PySem.W.exm_one (M := model X.prog X.w) (J3.kIn) LT hb1
        refine test hc (LM.here ?_)
        cases b with
        | true =>
          refine codeAny_handlers_suite_as ?_
          refine HandSPX.lands_againZ fl3 fun h4 fl4 up4 => ?_
          have J4 : Inv X pins σ' H' { s' with heap := h4 } := J.landed nb fl4.1 ((up.trans up3).trans up4) os ag
          obtain ⟨oe4, vs4, he4, hz4, hd4⟩ := fl4.there
          have S4 := J4.suite he4 hd4 na nL nF
          refine store_ok (X := X.suite a ((a, oe4) :: (X.pn ++ pins))) (v := .ref a) S4 hN hi hloc rfl (fun s5 S5 => ?_) (.inr hln)
          refine wpAny_mono ((hsu a oe4 cls d (X.pn ++ pins) hz4 ⟨_, hd4⟩).run [] s5 _ H' _ S5 (hyes rfl a na)) (fun f s6 hsp => ?_) (fun _ _ z => False.elim z)
          have end_ : ∀ {σ6 : L2.St} {H6 : Hp} {Q : Shared → Prop}, Inv (X.suite a ((a, oe4) :: (X.pn ++ pins))) [] σ6 H6 s6 → (∀ s7, Inv X pins (σ6.set i none) H6 s7 → Q s7) →
              wpAny (model X.prog X.w) X.A (do bindName X.env n .none; unbindBehindTheSuite X.env n pos') (fun _ s7 => Q s7) X.xe s6 := fun {σ6 H6 Q} S6 hq => gone_ok (S6.unsuite ok) hN hi hln hq
          cases f with
          | next =>
            obtain ⟨σ6, H6, S6, q6⟩ := hsp
            exact end_ S6 fun s7 J7 => ⟨_, _, J7, q6⟩
          | brk =>
            obtain ⟨σ6, H6, S6, q6⟩ := hsp
            exact end_ S6 fun s7 J7 => ⟨_, _, J7, q6⟩
          | cont =>
            obtain ⟨σ6, H6, S6, q6⟩ := hsp
            exact end_ S6 fun s7 J7 => ⟨_, _, J7, q6⟩
          | ret u =>
            obtain ⟨v6, σ6, H6, S6, r6, q6⟩ := hsp
            exact end_ S6 fun s7 J7 => ⟨_, _, _, J7, r6, q6⟩
        | false =>
          show wpAny _ X.A (handleBy (.ref a) X.env hds2) _ _ _
          exact ih (hno rfl)
    exact go hh w
  · cases f with
    | next =>
      obtain ⟨σ', H', J', q⟩ := hsp
      exact wpAny_execs_nil ⟨σ', H', J'.ofTry ok, q⟩
    | brk =>
      obtain ⟨σ', H', J', q⟩ := hsp
      exact ⟨σ', H', J'.ofTry ok, q⟩
    | cont =>
      obtain ⟨σ', H', J', q⟩ := hsp
      exact ⟨σ', H', J'.ofTry ok, q⟩
    | ret u =>
      obtain ⟨v, σ', H', J', r, q⟩ := hsp
      exact ⟨v, σ', H', J'.ofTry ok, r, q⟩
end

/-! ### a try's body: an error comes with the slots as they were -/
section
variable (K : PySem.W.Frag) (C : Addr) (T : Tx) (V : Vo) (env : List En) (N : List En → Prop) (Rt : D → Prop) (W : WX) (Et : Err → Prop)
def tY : TS := fun D σ H => ∃ S, Ok K C V S H σ env ∧ (∀ env' σ' S' H', N env' → Gr V.M S H S' H' → V.J S' H' → RS K C S' σ' env' → D.nx σ' H') ∧
  (∀ d v S' H', Rt d → Gr V.M S H S' H' → V.J S' H' → R K C S' d v → D.rt v H') ∧
  (∀ er cls dd S' H', Et er → Gr V.M S H S' H' → V.J S' H' → RX K C T S' H' er cls dd → W cls dd σ H')
end
abbrev JY (X : Cx) (C : Addr) (T : Tx) (V : Vo) (env : List En) (sts : List Stmt) (N : List En → Prop) (Rt : D → Prop) (W : WX) (Et : Err → Prop) : Prop := PSs X sts (tY X.K C T V env N Rt W Et)
section
variable {X : Cx} {C : Addr} {T : Tx} {V : Vo} {env : List En} {e : Expr} {pos pos' : Pos} {N : List En → Prop} {Rt : D → Prop} {W : WX} {Et : Err → Prop} {r : Except Err D} {i : Nat} {n : Str}
theorem jy_exprX (he : PE X e (tJX X.K C T V env W r)) (ho : ∀ d, r = .ok d → N env) (hE : ∀ er, r = .error er → Et er) (hs : swapsWith e none pos.line X.env = pure false := by rfl) : JY X C T V env [.Expr e pos] N Rt W Et :=
  (pss_one (ps_expr he hs)).weak fun D σ H ⟨S, o, k1, k2, k3⟩ => ⟨S, o, fun d v S' H' e1 g j rr => k1 env σ S' H' (ho d e1) g j (o.rs.mono g.s), fun er cls dd S' H' e1 g j rx => k3 er cls dd S' H' (hE er e1) g j rx⟩
theorem jy_letX (hN : X.N.Nodup) (hi : X.N[i]? = some n) (hx : Loc X.env.scope n) (he : PE X e (tJX X.K C T V env W r)) (ho : ∀ d, r = .ok d → N (env.set i (.d d))) (hE : ∀ er, r = .error er → Et er) (hs : swapsWith e (some (.Name n pos')) pos.line X.env = pure false := by rfl)
    (hf : X.fn n = true ∨ X.env.scope.names.lookup n = some .local := by first | exact .inl rfl | exact .inr rfl | assumption) : JY X C T V env [.Assign [.Name n pos'] e pos] N Rt W Et :=
  (pss_one (ps_set hN hi hx he hs hf)).weak fun D σ H ⟨S, o, k1, k2, k3⟩ => ⟨S, o, fun d v S' H' e1 g j rr => k1 _ _ S' H' (ho d e1) g j ((o.rs.mono g.s).setD i rr), fun er cls dd S' H' e1 g j rx => k3 er cls dd S' H' (hE er e1) g j rx⟩
theorem jy_ifE {c : Expr} {p : Bool} {A B : List Stmt} (hc : JT X C V env c (· = p)) (ha : p = true → JY X C T V env A N Rt W Et) (hb : p = false → JY X C T V env B N Rt W Et) : JY X C T V env [.If c A B pos] N Rt W Et := by
  refine pss_one ⟨fun pins s σ H D I h => ?_⟩
  obtain ⟨S, o, k1, k2, k3⟩ := h
  refine wpAny_If (thn (hc.run pins s σ H (fun c H1 => c = p ∧ tY X.K C T V env N Rt W Et D σ H1) I ⟨S, o, fun c S' H' q g j => ⟨q, S', o.gr g j, fun env' σ' S2 H2 n2 g2 => k1 env' σ' S2 H2 n2 (g.trans g2), fun d v S2 H2 p2 g2 => k2 d v S2 H2 p2 (g.trans g2), fun er cls dd S2 H2 p g2 => k3 er cls dd S2 H2 p (g.trans g2)⟩⟩) fun d s1 ⟨H1, I1, q1⟩ => ?_)
  obtain ⟨q0, q1⟩ := q1
  cases d with
  | true => exact (ha q0.symm).run pins s1 σ H1 D I1 q1
  | false => exact (hb q0.symm).run pins s1 σ H1 D I1 q1
end
/-- the suites of the clauses: what each clause's reading is from, for an error er -/
structure Cl where
  k : Nat
  i : Option Nat
  ts : Addr → Value → Option Addr → TS
def Cl.hd (T : Tx) (c : Cl) : Hd := (.ref (T.cl c.k), c.i, c.ts)
/-- which classes an error of the class k is of -/
def Exm (K : PySem.W.Frag) (T : Tx) (k j : Nat) (b : Bool) : Prop := PySem.W.exmOne K (.ref (T.cl k)) (.ref (T.cl j)) = some b
section
variable {X : Cx} {C : Addr} {T : Tx} {V : Vo} {env : List En} {body : List Stmt} {h₀ : ExceptHandler} {hds : List ExceptHandler} {pos : Pos} {N : List En → Prop} {Rt : D → Prop} {Wout : WX} {Et EtB : Err → Prop} {cs : List Cl}
/-- one clause c takes er: its suite's reading follows from what is wanted -/
def Sui (K : PySem.W.Frag) (C : Addr) (T : Tx) (V : Vo) (env : List En) (N : List En → Prop) (Rt : D → Prop) (er : Err) (c : Cl) : Prop := ∀ (D : Ends) (σ : L2.St) (S H : Hp) (cls : Value) (dd : Option Addr) (a : Addr), Ok K C V S H σ env → RX K C T S H er cls dd → H a = none →
  (∀ env' σ' S' H', N env' → Gr V.M S H S' H' → V.J S' H' → RS K C S' σ' env' → D.nx σ' H') → (∀ d v S' H', Rt d → Gr V.M S H S' H' → V.J S' H' → R K C S' d v → D.rt v H') →
  match c.i with
  | none => c.ts a cls dd D σ H
  | some i => c.ts a cls dd (endsN i D) (σ.set i (some (.ref a))) H
theorem wG_of {K : PySem.W.Frag} {D : Ends} {er : Err} {cls : Value} {dd : Option Addr} {σ : L2.St} {H : Hp} {c : Cl} (hcls : cls = .ref (T.cl er.k)) : ∀ {pre post : List Cl}, (∀ c' ∈ pre, Exm K T er.k c'.k false) → Exm K T er.k c.k true →
    (∀ a, H a = none → match c.i with | none => c.ts a cls dd D σ H | some i => c.ts a cls dd (endsN i D) (σ.set i (some (.ref a))) H) → wG K Wout D ((pre ++ c :: post).map (Cl.hd T)) cls dd σ H
  | [], post, _, h2, h3 => by
    obtain ⟨k, i, ts⟩ := c
    cases i with
    | none => exact ⟨true, by rw [hcls]; exact h2, fun _ a ha => h3 a ha, fun h => nomatch h⟩
    | some i => exact ⟨true, by rw [hcls]; exact h2, fun _ a ha => h3 a ha, fun h => nomatch h⟩
  | ⟨k, i, ts⟩ :: pre, post, h1, h2, h3 => by
    have e1 := h1 _ List.mem_cons_self
    have ih := wG_of hcls (pre := pre) (post := post) (fun c' h => h1 c' (List.mem_cons_of_mem _ h)) h2 h3
    cases i with
    | none => exact ⟨false, by rw [hcls]; exact e1, (fun h => Bool.noConfusion h), fun _ => ih⟩
    | some i => exact ⟨false, by rw [hcls]; exact e1, (fun h => Bool.noConfusion h), fun _ => ih⟩
/-- try: body, clauses cs; every error of the body is taken by one of them -/
theorem jst_try (hs : X.stack = X.env :: X.outer) (hf : X.env.frame = some X.env.locals) (tk : Takes X Wout)
    (hb : ∀ (W : WX) (pn : List (Addr × Obj)) (xe : Value → Shared → Prop), Takes (X.tr pn xe) W → JY (X.tr pn xe) C T V env body N Rt W EtB)
    (hh : HdsG X (h₀ :: hds) (cs.map (Cl.hd T))) (ht : ∀ er, EtB er → ∃ pre c post, cs = pre ++ c :: post ∧ (∀ c' ∈ pre, Exm X.K T er.k c'.k false) ∧ Exm X.K T er.k c.k true ∧ Sui X.K C T V env N Rt er c) :
    JSt X C T V env (.Try body (h₀ :: hds) [] [] pos) N Rt Wout Et :=
  (ps_try_gen (tb := fun W => tY X.K C T V env N Rt W EtB) hs hf tk (fun W pn xe tk' _ => hb W pn xe tk') hh).weak fun D σ H ⟨S, o, k1, k2, k3⟩ => ⟨S, o, k1, k2, fun er cls dd S' H' hE g j rx => by
    obtain ⟨pre, c, post, e, h1, h2, h3⟩ := ht er hE
    rw [e]
    exact wG_of rx.1 h1 h2 fun a ha => h3 D σ S' H' cls dd a (o.gr g j) rx ha (fun env' σ' S2 H2 n2 g2 => k1 env' σ' S2 H2 n2 (g.trans g2)) fun d v S2 H2 p2 g2 => k2 d v S2 H2 p2 (g.trans g2)⟩
/-- a suite that doesn't look at the error -/
theorem sui_plain {K : PySem.W.Frag} {er : Err} {k : Nat} : Sui K C T V env N Rt er ⟨k, none, fun _ _ _ => tS K C T V env N Rt (fun _ _ _ _ => False) (fun _ => False)⟩ := fun D σ S H cls dd a o rx ha k1 k2 => ⟨S, o, k1, k2, fun _ _ _ _ _ _ z => z.elim⟩
end
/-! ### the caught error -/
section
variable {X : Cx} {C : Addr} {T : Tx} {V : Vo} {env : List En} {a : Addr} {oe : Obj} {pn : List (Addr × Obj)} {k : Nat} {er : Err}
/-- isinstance(e, c), e the exception that the suite holds -/
def rIsX (K : PySem.W.Frag) (De a : Addr) (d : Option Addr) : List L2.V → Hp → VK → Prop := fun xs H Q => ∃ (c : L2.V) (cv : Value) (b : Bool), xs = [.ref a, c] ∧ (∀ u, RelV c u → u = cv) ∧ (d = none ∨ ∃ dd fs, d = some dd ∧ H dd = some (.xd fs)) ∧ PySem.W.kitOne K (.ref De) cv = some b ∧ Q (.bl b) H
theorem call_isX {De : Addr} {d : Option Addr} (Ec : ExcC X.K De) (hz : Zc (.ref De) d oe) (hf : ∃ vs, oe.data = .fields vs) : CallR (X.suite a ((a, oe) :: pn)) (.builtin "isinstance") (rIsX X.K De a d) := by
  intro pins s σ H xs us Q I r h
  obtain ⟨c, cv, b, rfl, hcv, hd, e, q⟩ := h
  cases r with
  | cons rx rr =>
    cases rr with
    | cons rt rr =>
      cases rr
      cases rx
      have ec := hcv _ rt
      subst ec
      obtain ⟨hget, _⟩ := I.pin (a, oe) (List.mem_append.mpr (.inl List.mem_cons_self))
      obtain ⟨vs, hv⟩ := hf
      have hclsIn : (PySem.W.clsIn X.K De).isSome = true := by
        obtain ⟨cd, hc, _⟩ := PySem.W.any_some Ec.hd
        rw [hc]; rfl
      have fin : ∀ od, PySem.W.InstAt s.heap a oe De od → wpAny (model X.prog X.w) (X.suite a ((a, oe) :: pn)).A (call (.builtin "isinstance") [.ref a, _]) (EP (X.suite a ((a, oe) :: pn)) pins σ Q) (X.suite a ((a, oe) :: pn)).xe s := fun od J =>
        PySem.W.kia_one (PySem.W.kitx_exc hclsIn Ec.hg Ec.hk Ec.hs Ec.ha Ec.hn Ec.ht Ec.hm) I.kIn J e (fun z => nomatch z) fun tk => ⟨.bl b, H, I.kept (t' := tk) fun _ _ z => z, rfl, q⟩
      rcases hd with hd | ⟨dd, fs, hd, hx⟩
      · refine fin none ?_
        obtain ⟨oc, od, oda, osl⟩ := oe
        obtain ⟨h1, h2⟩ := hz
        dsimp only at h1 h2 hv
        subst h1 hd h2 hv
        exact ⟨hget, rfl, rfl, trivial⟩
      · have hx' : ObjOk X.prog X.w H s.heap dd (.xd fs) := I.hok dd _ hx
        obtain ⟨mA, ⟨od, es, ep, ho, _⟩, _⟩ := hx'
        refine fin (some od) ?_
        obtain ⟨oc, od', oda, osl⟩ := oe
        obtain ⟨h1, h2⟩ := hz
        dsimp only at h1 h2 hv
        subst h1 hd h2 hv
        exact ⟨hget, rfl, rfl, ho⟩
end
end RQ

/-! RqJ: the law's own body: nothing is asked of the heap behind it. -/
namespace RQ
open PySem PySem.Spec PyProof.Rows L2

section
variable (K : PySem.W.Frag) (C : Addr) (V : Vo) (env : List En) (N : List En → Vo → Prop) (Rt : D → Prop)
def tL : TS := fun D σ H => ∃ S, Ok K C V S H σ env ∧ (∀ env' V' σ' S' H', N env' V' → Ok K C V' S' H' σ' env' → D.nx σ' H') ∧ (∀ d v S' H', Rt d → R K C S' d v → D.rt v H')
end
abbrev JL (X : Cx) (C : Addr) (V : Vo) (env : List En) (sts : List Stmt) (N : List En → Vo → Prop) (Rt : D → Prop) : Prop := PSs X sts (tL X.K C V env N Rt)
abbrev JLt (X : Cx) (C : Addr) (V : Vo) (env : List En) (st : Stmt) (N : List En → Vo → Prop) (Rt : D → Prop) : Prop := PS X st (tL X.K C V env N Rt)
section
variable {X : Cx} {C : Addr} {T : Tx} {V : Vo} {env : List En} {e a b : Expr} {es : List Expr} {Φ : D → Prop} {Φs : List D → Prop} {Θ : Bool → Prop} {pos p1 p2 p3 pos' : Pos} {x d : D} {ds : List D} {N N1 N' : List En → Vo → Prop} {Ne : List En → Prop} {Rt : D → Prop} {st : Stmt} {rest sts : List Stmt} {p : Addr} {i : Nat} {n : Str}
theorem JLt.imp (h : JLt X C V env st N Rt) (h1 : ∀ e v, N e v → N' e v) : JLt X C V env st N' Rt := h.weak fun D σ H ⟨S, o, k1, k2⟩ => ⟨S, o, fun env' V' σ' S' H' p => k1 env' V' σ' S' H' (h1 _ _ p), k2⟩
theorem JL.imp (h : JL X C V env sts N Rt) (h1 : ∀ e v, N e v → N' e v) : JL X C V env sts N' Rt := h.weak fun D σ H ⟨S, o, k1, k2⟩ => ⟨S, o, fun env' V' σ' S' H' p => k1 env' V' σ' S' H' (h1 _ _ p), k2⟩
theorem l_nil : JL X C V env [] (fun e v => e = env ∧ v = V) Rt := pss_nil.weak fun D σ H ⟨S, o, k1, _⟩ => k1 env V σ S H ⟨rfl, rfl⟩ o
theorem l_cons (h1 : JLt X C V env st N1 Rt) (h2 : ∀ env' V', N1 env' V' → JL X C V' env' rest N Rt) : JL X C V env (st :: rest) N Rt :=
  (pss_cons h1 (pss_fam (P := fun q : List En × Vo => N1 q.1 q.2) fun q h => h2 q.1 q.2 h)).weak fun D σ H ⟨S, o, k1, k2⟩ => ⟨S, o, fun env' V' σ' S' H' n z => ⟨(env', V'), n, S', z, k1, k2⟩, k2⟩
theorem l_one (h1 : JLt X C V env st N Rt) : JL X C V env [st] N Rt := pss_one h1
theorem l_st (h : JSt X C T V env st Ne Rt (fun _ _ _ _ => False) (fun _ => False)) : JLt X C V env st (fun e v => Ne e ∧ v = V) Rt := h.weak fun D σ H ⟨S, z, k1, k2⟩ => ⟨S, z, fun env' σ' S' H' n g j r => k1 env' V σ' S' H' ⟨n, rfl⟩ ⟨g.sub, j, r⟩, fun d v S' H' p g j r => k2 d v S' H' p r, fun _ _ _ _ _ _ z => z.elim⟩
theorem l_js (h : JS X C T V env sts Ne Rt (fun _ _ _ _ => False) (fun _ => False)) : JL X C V env sts (fun e v => Ne e ∧ v = V) Rt := h.weak fun D σ H ⟨S, z, k1, k2⟩ => ⟨S, z, fun env' σ' S' H' n g j r => k1 env' V σ' S' H' ⟨n, rfl⟩ ⟨g.sub, j, r⟩, fun d v S' H' p g j r => k2 d v S' H' p r, fun _ _ _ _ _ _ z => z.elim⟩
theorem l_jsF (h : JS X C T V env sts (fun _ => False) Rt (fun _ _ _ _ => False) (fun _ => False)) : JL X C V env sts N Rt := (l_js h).imp fun _ _ z => z.1.elim
theorem l_seq (T : Tx) (h : JSt X C T V env st Ne Rt (fun _ _ _ _ => False) (fun _ => False)) (h2 : ∀ env', Ne env' → JL X C V env' rest N Rt) : JL X C V env (st :: rest) N Rt := l_cons (l_st h) fun env' V' ⟨n, e⟩ => by subst e; exact h2 env' n
/-- x = e -/
theorem l_letR (hN : X.N.Nodup) (hi : X.N[i]? = some n) (hx : Loc X.env.scope n) (he : JE X C V env e Φ) (hr : ∀ d, Φ d → JL X C V (env.set i (.d d)) rest N Rt) (hs : swapsWith e (some (.Name n pos')) pos.line X.env = pure false := by rfl)
    (hf : X.fn n = true ∨ X.env.scope.names.lookup n = some .local := by first | exact .inl rfl | exact .inr rfl | assumption) : JL X C V env (.Assign [.Name n pos'] e pos :: rest) N Rt :=
  l_seq ⟨fun _ => 0, fun _ => []⟩ (jst_set hN hi hx he hs hf) fun env' ⟨d, p, q⟩ => by subst q; exact hr d p
theorem l_let (hN : X.N.Nodup) (hi : X.N[i]? = some n) (hx : Loc X.env.scope n) (he : JE X C V env e (· = x)) (hr : JL X C V (env.set i (.d x)) rest N Rt) (hs : swapsWith e (some (.Name n pos')) pos.line X.env = pure false := by rfl)
    (hf : X.fn n = true ∨ X.env.scope.names.lookup n = some .local := by first | exact .inl rfl | exact .inr rfl | assumption) : JL X C V env (.Assign [.Name n pos'] e pos :: rest) N Rt :=
  l_letR hN hi hx he (fun d p => by subst p; exact hr) hs hf
/-- if c: return False, c never so -/
theorem l_not {c : Expr} {A : List Stmt} (hc : JT X C V env c (· = false)) (hr : JL X C V env rest N Rt) : JL X C V env (.If c A [] pos :: rest) N Rt := by
  refine l_cons (N1 := fun e v => e = env ∧ v = V) ?_ fun env' V' ⟨e1, e2⟩ => by subst e1 e2; exact hr
  refine ⟨fun pins s σ H D I h => ?_⟩
  obtain ⟨S, o, k1, k2⟩ := h
  refine wpAny_If (thn (hc.run pins s σ H (fun c H1 => c = false ∧ D.nx σ H1) I ⟨S, o, fun c S' H' q g j => ⟨q, k1 env V σ S' H' ⟨rfl, rfl⟩ (o.gr g j)⟩⟩) fun d s1 ⟨H1, I1, q1⟩ => ?_)
  obtain ⟨q0, q1⟩ := q1
  subst q0
  exact pss_nil.run pins s1 σ H1 D I1 q1
theorem l_ifE {c : Expr} {q : Bool} {A B : List Stmt} (hc : JT X C V env c (· = q)) (ha : q = true → JL X C V env A N Rt) (hb : q = false → JL X C V env B N Rt) : JLt X C V env (.If c A B pos) N Rt := by
  refine ⟨fun pins s σ H D I h => ?_⟩
  obtain ⟨S, o, k1, k2⟩ := h
  refine wpAny_If (thn (hc.run pins s σ H (fun c H1 => c = q ∧ tL X.K C V env N Rt D σ H1) I ⟨S, o, fun c S' H' p g j => ⟨p, S', o.gr g j, k1, k2⟩⟩) fun d s1 ⟨H1, I1, q1⟩ => ?_)
  obtain ⟨q0, q1⟩ := q1
  cases d with
  | true => exact (ha q0.symm).run pins s1 σ H1 D I1 q1
  | false => exact (hb q0.symm).run pins s1 σ H1 D I1 q1
theorem l_ifR {c : Expr} {A B : List Stmt} (hc : JT X C V env c Θ) (ha : (∃ h, Θ h ∧ h = true) → JL X C V env A N Rt) (hb : (∃ h, Θ h ∧ h = false) → JL X C V env B N Rt) : JLt X C V env (.If c A B pos) N Rt := by
  refine ⟨fun pins s σ H D I h => ?_⟩
  obtain ⟨S, o, k1, k2⟩ := h
  refine wpAny_If (thn (hc.run pins s σ H (fun c H1 => Θ c ∧ tL X.K C V env N Rt D σ H1) I ⟨S, o, fun c S' H' p g j => ⟨p, S', o.gr g j, k1, k2⟩⟩) fun d s1 ⟨H1, I1, q1⟩ => ?_)
  obtain ⟨q0, q1⟩ := q1
  cases d with
  | true => exact (ha ⟨_, q0, rfl⟩).run pins s1 σ H1 D I1 q1
  | false => exact (hb ⟨_, q0, rfl⟩).run pins s1 σ H1 D I1 q1
/-- a list stands no longer: it is one's own from here on; of the slots only those that hold no lists are known -/
def Vo.lst0 (V : Vo) : Prop := True
mutual
def nolst : D → Bool
  | .lst _ => false
  | .tup ds => nolsts ds
  | .fil s p t => nolst s && nolst p && nolst t
  | .dct _ ds => nolsts ds
  | _ => true
def nolsts : List D → Bool
  | [] => true
  | d :: ds => nolst d && nolsts ds
end
def delS (S : Hp) (p : Addr) : Hp := fun b => if b = p then none else S b
theorem delS_ne {S : Hp} {p b : Addr} (h : b ≠ p) : delS S p b = S b := if_neg h
theorem delS_same {S : Hp} {p : Addr} : delS S p p = none := if_pos rfl
theorem slt_del {S : Hp} {p a C dx : Addr} {vs : List (Option L2.V)} {xs : List L2.V} (hp : S p = some (.lst xs)) (h : SlX.Slt S a C dx vs) : SlX.Slt (delS S p) a C dx vs := by
  have ne : ∀ {b : Addr} {o : HO}, S b = some o → o ≠ .lst xs → b ≠ p := fun {b o} e n z => by
    subst z; rw [hp] at e; exact n (Option.some.inj e).symm
  rcases h with ⟨h, q⟩ | ⟨h, q⟩
  · exact .inl ⟨by rw [delS_ne (ne h (fun z => nomatch z))]; exact h, q⟩
  · exact .inr ⟨by rw [delS_ne (ne h (fun z => by unfold SlX.SlO at z; cases z))]; exact h, by rw [delS_ne (ne q (fun z => nomatch z))]; exact q⟩
mutual
theorem R.del {K : PySem.W.Frag} {S : Hp} {p : Addr} {xs : List L2.V} (hp : S p = some (.lst xs)) : ∀ {d : D} {v : L2.V}, nolst d = true → R K C S d v → R K C (delS S p) d v
  | .non, v, _, h => by rw [R.non_iff] at h ⊢; exact h
  | .bl b, v, _, h => by rw [R.bl_iff] at h ⊢; exact h
  | .int b, v, _, h => by rw [R.int_iff] at h ⊢; exact h
  | .str b, v, _, h => by rw [R.str_iff] at h ⊢; exact h
  | .raw b, v, _, h => by rw [R.raw_iff] at h ⊢; exact h
  | .tup ds, v, n, h => by
    obtain ⟨a, ys, e1, h1, h2⟩ := R.tup_iff.mp h
    refine R.tup_iff.mpr ⟨a, ys, e1, ?_, RL.del hp (by simpa [nolst] using n) h2⟩
    rcases h1 with (h | ⟨o, h⟩) | h
    · exact .inl (.inl (by rw [delS_ne (fun z => by subst z; rw [hp] at h; cases h)]; exact h))
    · exact .inl (.inr ⟨o, by rw [delS_ne (fun z => by subst z; rw [hp] at h; cases h)]; exact h⟩)
    · exact .inr h
  | .lst _, v, n, _ => by simp [nolst] at n
  | .dct ks ds, v, n, h => by
    obtain ⟨a, kvs, e1, h1, h3, h2⟩ := R.dct_iff.mp h
    refine R.dct_iff.mpr ⟨a, kvs, e1, ?_, h3, RL.del hp (by simpa [nolst] using n) h2⟩
    rcases h1 with h1 | ⟨o, h1⟩
    · exact .inl (by rw [delS_ne (fun z => by subst z; rw [hp] at h1; cases h1)]; exact h1)
    · exact .inr ⟨o, by rw [delS_ne (fun z => by subst z; rw [hp] at h1; cases h1)]; exact h1⟩
  | .tbl l, v, n, h => by
    obtain ⟨a, e1, h1⟩ := R.tbl_iff.mp h
    exact R.tbl_iff.mpr ⟨a, e1, by rw [delS_ne (fun z => by subst z; rw [hp] at h1; cases h1)]; exact h1⟩
  | .fil s q t, v, n, h => by
    obtain ⟨a, dx, x, y, z, e1, h1, h2, h3, h4⟩ := R.fil_iff.mp h
    have n' : (nolst s = true ∧ nolst q = true) ∧ nolst t = true := by simpa [nolst] using n
    exact R.fil_iff.mpr ⟨a, dx, x, y, z, e1, slt_del hp h1, R.del hp n'.1.1 h2, R.del hp n'.1.2 h3, R.del hp n'.2 h4⟩
theorem RL.del {K : PySem.W.Frag} {S : Hp} {p : Addr} {xs : List L2.V} (hp : S p = some (.lst xs)) : ∀ {ds : List D} {vs : List L2.V}, nolsts ds = true → RL K C S ds vs → RL K C (delS S p) ds vs
  | [], vs, _, h => by rw [RL.nil_iff] at h ⊢; exact h
  | d :: ds, vs, n, h => by
    obtain ⟨x, r, e1, h1, h2⟩ := RL.cons_iff.mp h
    have n' : nolst d = true ∧ nolsts ds = true := by simpa [nolsts] using n
    exact RL.cons_iff.mpr ⟨x, r, e1, R.del hp n'.1 h1, RL.del hp n'.2 h2⟩
end
def forgetE : List En → List En
  | [] => []
  | .un :: r => .un :: forgetE r
  | .d x :: r => (if nolst x then .d x else .un) :: forgetE r
theorem RS.forget {K : PySem.W.Frag} {S : Hp} {p : Addr} {xs : List L2.V} (hp : S p = some (.lst xs)) : ∀ {σ : L2.St} {env : List En}, RS K C S σ env → RS K C (delS S p) σ (forgetE env)
  | [], _, h => by cases h; rfl
  | o :: σ, _, ⟨.un, r, e, a, b⟩ => by subst e; exact ⟨_, _, rfl, True.intro, RS.forget hp b⟩
  | o :: σ, _, ⟨.d x, r, e, a, b⟩ => by
    subst e
    refine ⟨_, _, rfl, ?_, RS.forget hp b⟩
    by_cases h : nolst x = true
    · rw [if_pos h]
      obtain ⟨v, e1, h1⟩ := a
      exact ⟨v, e1, R.del hp h h1⟩
    · rw [if_neg h]; exact True.intro
theorem l_unrel (he : env[i]? = some (.d (.lst ds))) (hn : nolsts ds = true) (hV : ∀ p S H xs, V.J S H → S p = some (.lst xs) → V.J (delS S p) H ∧ ¬ V.M p) (hr : ∀ p, JL X C (V.own X.K C p ds) ((forgetE env).set i (.d (.raw (.ref p)))) sts N Rt) : JL X C V env sts N Rt :=
  (pss_fam (P := fun _ : Addr => True) fun p _ => hr p).weak fun D σ H ⟨S, o, k1, k2⟩ => by
    obtain ⟨v, hv, r⟩ := o.rs.getD he
    obtain ⟨p, xs, e1, h1, h2⟩ := R.lst_at.mp r
    subst e1
    obtain ⟨j1, j2⟩ := hV p S H xs o.j h1
    refine ⟨p, True.intro, delS S p, ⟨fun b u w => ?_, ⟨j1, delS_same, j2, xs, o.sub p _ h1, RL.del h1 hn h2⟩, ?_⟩, k1, k2⟩
    · by_cases hb : b = p
      · subst hb; rw [delS_same] at w; cases w
      · rw [delS_ne hb] at w; exact o.sub b u w
    · have h := (o.rs.forget h1).setD i (show R X.K C (delS S p) (.raw (.ref p)) (.ref p) from R.raw_iff.mpr rfl)
      have e : σ.set i (some (.ref p)) = σ := by
        apply List.ext_getElem?
        intro k
        rw [List.getElem?_set]
        by_cases hk : i = k
        · subst hk
          obtain ⟨q1, q2⟩ := List.getElem?_eq_some_iff.mp hv
          rw [if_pos rfl, if_pos q1, hv]
        · rw [if_neg hk]
      rw [e] at h
      exact h
/-- x[k] = e, x a list of one's own -/
theorem l_setR {ie : Expr} {po : Pos} {Θi : Int → Prop} (he : env[i]? = some (.d (.raw (.ref p)))) (hv : PE X (.Name n p1) (tVar i)) (ha : JE X C (V.own X.K C p ds) env e Φ) (hi : JE X C (V.own X.K C p ds) env ie (fun d => ∃ k : Int, d = .int k ∧ Θi k)) (hk : ∀ k, Θi k → 0 ≤ k ∧ k < (ds.length : Int))
    (hg : PG X (.Subscript (.Name n p1) ie po) (gSub (tVar i) (tJ X.K C (V.own X.K C p ds) env (fun d => ∃ k : Int, d = .int k ∧ Θi k)) rSetL)) (hs : swapsWithSole [.Subscript (.Name n p1) ie po] e pos.line X.env = pure false := by rfl) (hw : swappedStores [.Subscript (.Name n p1) ie po] e X.env = pure none := by rfl)
    (h1 : (assignEach [.Subscript (.Name n p1) ie po] X.env).map (·.2) = [assign (.Subscript (.Name n p1) ie po) X.env] := by rfl) :
    JLt X C (V.own X.K C p ds) env (.Assign [.Subscript (.Name n p1) ie po] e pos) (fun env' V' => ∃ d k, Φ d ∧ Θi k ∧ env' = env ∧ V' = V.own X.K C p (ds.set k.toNat d)) Rt :=
  (ps_asg ha hg hs hw h1).weak fun D σ H ⟨S, o, k1, _⟩ => ⟨S, o, fun d v S1 H1 q g j r => by
    obtain ⟨v0, hv0, r0⟩ := o.rs.getD he
    rw [R.raw_iff] at r0
    subst r0
    refine ⟨.ref p, hv0, S1, o.gr g j, fun kd kv S2 H2 ⟨k, ek, hk2⟩ g2 j2 r2 => ?_⟩
    subst ek
    rw [R.int_iff] at r2
    subst r2
    obtain ⟨i1, i2, i3, ws, i4, i5⟩ := j2
    obtain ⟨b0, b1⟩ := hk k hk2
    refine ⟨p, ws, k, k.toNat, rfl, rfl, i4, by unfold ixN; rw [if_pos b0, i5.length, if_pos b1], ?_⟩
    refine k1 env _ σ S2 _ ⟨d, k, q, hk2, rfl, rfl⟩ ⟨fun b u w => by rw [upd_ne (ne_of_none w i2)]; exact g2.sub b u w, ⟨V.mut i3 i2 g2.sub i1, i2, i3, _, upd_same, RL.set (r.mono g2.s) k.toNat i5⟩, (o.rs.mono g.s).mono g2.s⟩⟩
end
/-! ### for -/
section
variable {X : Cx} {C : Addr} {V : Vo} {env : List En} {tg iter : Expr} {pos : Pos} {N : List En → Vo → Prop} {Rt : D → Prop} {body : List Stmt} {Φl : List D → Prop} {bind : List En → D → List En → Prop}
def iJ0 (K : PySem.W.Frag) (C : Addr) (V : Vo) (env : List En) (Φ : List D → Prop) : TI := fun σ H Rr => ∃ S, Ok K C V S H σ env ∧ ∀ ds J S' H', Φ ds → Gr V.M S H S' H' → V.J S' H' → Wk K C (fun _ => none) ds J → Rr J H'
abbrev JI0 (X : Cx) (C : Addr) (V : Vo) (env : List En) (tg iter : Expr) (Φ : List D → Prop) : Prop := PI X tg iter (iJ0 X.K C V env Φ)
theorem ji0_range1R {a : Expr} {p : Pos} {Θ : Int → Prop} (h : JE X C V env a (fun d => ∃ n, d = .int n ∧ Θ n)) (hn : ∀ n, Θ n → -(2 ^ 62) ≤ n ∧ n < 2 ^ 62) (hg : Gl X "range") (hm : X.mg "range" = none) (hs : starEach [a] X.env = [(false, eval a X.env)] := by rfl) :
    JI0 X C V env tg (.Call (.Name "range" p) [a] [] pos) (fun ds => ∃ n, Θ n ∧ ds = rngD 0 n.toNat) := (pi_range1 hg hm (ja_consR h ja_nil (by rw [hs]; rfl)) hs).weak fun σ H Rr ⟨S, o, k⟩ => ⟨S, o, fun ds vs S' H' ⟨d, ds', e1, ⟨n, e2, h2⟩, e3⟩ g j r => by
  subst e3 e2 e1
  obtain ⟨v, r', e4, h4, h5⟩ := RL.cons_iff.mp r
  rw [RL.nil_iff] at h5
  rw [R.int_iff] at h4
  subst h5 h4 e4
  exact ⟨n, rfl, (hn n h2).1, (hn n h2).2, k _ _ S' H' ⟨n, h2, rfl⟩ g j (wk_rng 0 n.toNat)⟩⟩
/-- I ds i env V: what holds ahead of turn i -/
theorem l_for (I : List D → Nat → List En → Vo → Prop) (hp : PassesOwn (model X.prog X.w) X.A X.env X.xe) (hc : X.calm = true) (hi : JI0 X C V env tg iter Φl) (hg : PG X tg (gJ X.K C bind))
    (hbd : ∀ ds i d envI VI, Φl ds → ds[i]? = some d → I ds i envI VI → ∃ envB, bind envI d envB) (h0 : ∀ ds, Φl ds → I ds 0 env V) (hn : ∀ ds envI VI, Φl ds → I ds ds.length envI VI → N envI VI)
    (hb : ∀ q : List D × Nat × D × List En × Vo × List En, (Φl q.1 ∧ q.1[q.2.1]? = some q.2.2.1 ∧ I q.1 q.2.1 q.2.2.2.1 q.2.2.2.2.1 ∧ bind q.2.2.2.1 q.2.2.1 q.2.2.2.2.2) → JL X C q.2.2.2.2.1 q.2.2.2.2.2 body (I q.1 (q.2.1 + 1)) Rt)
    (hs : ∀ x, foldedSetIterable iter X.env x = pure x := by intro _; rfl) : JLt X C V env (.For tg iter body [] pos) N Rt :=
  (ps_for hp hc hi hg (pss_fam hb) hs).weak fun D σ H ⟨S, o, k1, k2⟩ => ⟨S, o, fun ds J S1 H1 p1 g1 j1 wk => by
    exact ⟨fun i m σ' H' => m = ds.length - i ∧ i ≤ ds.length ∧ ∃ S' envI VI, Ok X.K C VI S' H' σ' envI ∧ I ds i envI VI,
      ⟨ds.length, by omega, by omega, S1, env, V, ⟨g1.sub, j1, o.rs.mono g1.s⟩, h0 ds p1⟩, fun i m σ' H' ⟨em, hi, S', envI, VI, o', hI⟩ => by
      by_cases hlt : i < ds.length
      · refine .inr ⟨wk.go i H' (fun _ _ z => nomatch z) hlt, fun σ2 H2 => i + 1 ≤ ds.length ∧ ∃ S2 envI VI, Ok X.K C VI S2 H2 σ2 envI ∧ I ds (i + 1) envI VI, fun σ2 H2 ⟨hl, q⟩ => ⟨ds.length - (i + 1), by omega, rfl, hl, q⟩, fun x H2 y => ?_⟩
        have hd : ds[i]? = some ds[i] := List.getElem?_eq_getElem hlt
        obtain ⟨S2, g2, r2⟩ := wk.yld i ds[i] S' H' x H2 (fun _ _ z => nomatch z) o'.sub hd y
        obtain ⟨envB, hB⟩ := hbd ds i ds[i] envI VI p1 hd hI
        refine ⟨S2, ds[i], envI, envB, g2.sub, o'.rs.mono g2.s, r2, hB, fun σ3 rs3 => ?_⟩
        exact ⟨(ds, i, ds[i], envI, VI, envB), ⟨p1, hd, hI, hB⟩, S2, ⟨g2.sub, VI.gr0 g2 o'.j, rs3⟩, fun env' V' σ4 S4 H4 n4 o4 => ⟨by omega, S4, env', V', o4, n4⟩, k2⟩
      · have e : i = ds.length := by omega
        subst e
        exact .inl ⟨wk.stop _ H' (fun _ _ z => nomatch z) (Nat.le_refl _), k1 envI VI σ' S' H' (hn ds envI VI p1 hI) o'⟩⟩⟩
/-- .. over a range -/
theorem wk_rng0 {K : PySem.W.Frag} (lo : Int) (n : Nat) (S : Hp) : Wk K C S (rngD lo n) (Itr lo n) := wk_rng lo n
end

/-! ### the law -/
def spLaw (K : PySem.W.Frag) : Sp := fun vs H Q _ => ∃ (a : Addr) (ns : List Int), vs = [.ref a] ∧ SqL K H a (ns.map V.int) ∧ ns.length ≤ 63 ∧ ∀ H', Q (.bl true) H'
end RQ

/-! RqK: slices and sums of lists, the suite of a clause with a name, letting a list stand at law level. -/
namespace RQ
open PySem PySem.Spec PyProof.Rows L2

section
variable {X : Cx} {C : Addr} {V : Vo} {env : List En} {e a b : Expr} {Φ : D → Prop} {pos p2 : Pos} {ds es : List D} {k : Nat}
theorem cutV_to {xs : List L2.V} {k : Nat} (h : k ≤ xs.length) : cutV xs none (some (k : Int)) = xs.take k := by
  unfold cutV
  rw [HT.sIx_none, HT.sIx_nat, Nat.min_eq_left h, List.drop_zero, Nat.sub_zero]
theorem cutV_from {xs : List L2.V} {k : Nat} (h : k ≤ xs.length) : cutV xs (some (k : Int)) none = xs.drop k := by
  unfold cutV
  rw [HT.sIx_none, HT.sIx_nat, Nat.min_eq_left h, ← List.length_drop, List.take_length]
theorem je_slTo (ha : JE X C V env a (· = .lst ds)) (hb : JE X C V env b (· = .int (k : Int))) (hk : k ≤ ds.length) : JE X C V env (.Subscript a (.Slice none (some b) none p2) pos) (· = .lst (ds.take k)) :=
  (pe_slice sl_list ha po_none (po_some hb)).weak fun σ H Q ⟨S, o, q⟩ => ⟨S, o, fun d v S1 H1 p1 g1 j1 r1 => by
    subst p1
    show tJ _ _ _ _ _ σ H1 _
    refine ⟨S1, o.gr g1 j1, fun d2 v2 S2 H2 p2 g2 j2 r2 => ?_⟩
    subst p2
    rw [R.int_iff] at r2
    subst r2
    obtain ⟨x, xs, e1, h1, h2⟩ := R.lstL r1
    refine ⟨(k : Int), rfl, x, xs, e1, g2.sub.seq (Same.seq g2.s h1), fun p hp => ?_⟩
    have g3 : Gr M0 S2 H2 (upd S2 p (.lst (cutV xs none (some (k : Int))))) (upd H2 p (.lst (cutV xs none (some (k : Int))))) := .new g2.sub hp
    refine q _ _ _ _ rfl ((g1.trans g2).trans g3.up0) (V.gr0 g3 j2) (R.mkL upd_same ?_)
    have h5 := ((h2.mono g2.s).mono g3.s).take k
    rw [← cutV_to (k := k) (by rw [h2.length]; exact hk)] at h5
    exact h5⟩
theorem je_slFrom (ha : JE X C V env a (· = .lst ds)) (hb : JE X C V env b (· = .int (k : Int))) (hk : k ≤ ds.length) : JE X C V env (.Subscript a (.Slice (some b) none none p2) pos) (· = .lst (ds.drop k)) :=
  (pe_slice sl_list ha (po_some hb) po_none).weak fun σ H Q ⟨S, o, q⟩ => ⟨S, o, fun d v S1 H1 p1 g1 j1 r1 => by
    subst p1
    refine ⟨S1, o.gr g1 j1, fun d2 v2 S2 H2 p2 g2 j2 r2 => ?_⟩
    subst p2
    rw [R.int_iff] at r2
    subst r2
    obtain ⟨x, xs, e1, h1, h2⟩ := R.lstL r1
    refine ⟨(k : Int), rfl, x, xs, e1, g2.sub.seq (Same.seq g2.s h1), fun p hp => ?_⟩
    have g3 : Gr M0 S2 H2 (upd S2 p (.lst (cutV xs (some (k : Int)) none))) (upd H2 p (.lst (cutV xs (some (k : Int)) none))) := .new g2.sub hp
    refine q _ _ _ _ rfl ((g1.trans g2).trans g3.up0) (V.gr0 g3 j2) (R.mkL upd_same ?_)
    have h5 := ((h2.mono g2.s).mono g3.s).drop k
    rw [← cutV_from (k := k) (by rw [h2.length]; exact hk)] at h5
    exact h5⟩
theorem o2_catL {K : PySem.W.Frag} (hz : ds.length + es.length ≤ 1000000) : O2 K C rCat (.lst ds) (.lst es) (.lst (ds ++ es)) := fun S H u v e r1 r2 Q q => by
  obtain ⟨x, xs, e1, h1, h2⟩ := R.lst_at.mp r1
  obtain ⟨y, ys, e2, h3, h4⟩ := R.lst_at.mp r2
  subst e1 e2
  refine ⟨x, y, xs, ys, rfl, rfl, e _ _ h1, e _ _ h3, by rw [h2.length, h4.length]; exact small hz, fun p hp => ?_⟩
  have g : Gr M0 S H (upd S p (.lst (xs ++ ys))) (upd H p (.lst (xs ++ ys))) := .new e hp
  exact q _ _ _ g (R.mkL upd_same ((h2.append h4).mono g.s))
theorem je_catL (ha : JE X C V env a (· = .lst ds)) (hb : JE X C V env b (· = .lst es)) (hz : ds.length + es.length ≤ 1000000) : JE X C V env (.BinOp a .Add b pos) (· = .lst (ds ++ es)) := je_op1 op_cat ha hb (o2_catL hz)
end

/-! ### a list of one's own is let stand -/
section
variable {X : Cx} {C : Addr} {V : Vo} {env : List En} {ds : List D} {N : List En → Vo → Prop} {Rt : D → Prop} {sts : List Stmt} {p : Addr} {i : Nat}
theorem l_rel (he : env[i]? = some (.d (.raw (.ref p)))) (hr : JL X C V (env.set i (.d (.lst ds))) sts N Rt) : JL X C (V.own X.K C p ds) env sts N Rt := hr.weak fun D σ H ⟨S, o, k1, k2⟩ => by
  obtain ⟨v0, hv0, r0⟩ := o.rs.getD he
  rw [R.raw_iff] at r0
  subst r0
  obtain ⟨j1, j2, j3, vs, j4, j5⟩ := o.j
  have ss : Same S (upd S p (.lst vs)) := fun b u w => by rw [upd_ne (ne_of_none w j2)]; exact w
  have rs2 : RS X.K C (upd S p (.lst vs)) σ (env.set i (.d (.lst ds))) := by
    have := (o.rs.mono ss).setD i (show R X.K C (upd S p (.lst vs)) (.lst ds) (.ref p) from R.mkL upd_same (j5.mono ss))
    have e : σ.set i (some (.ref p)) = σ := by
      apply List.ext_getElem?
      intro k
      rw [List.getElem?_set]
      by_cases hk : i = k
      · subst hk
        obtain ⟨h1, h2⟩ := List.getElem?_eq_some_iff.mp hv0
        rw [if_pos rfl, if_pos h1, hv0]
      · rw [if_neg hk]
    rw [e] at this
    exact this
  exact ⟨upd S p (.lst vs), ⟨fun b u w => by
    by_cases hb : b = p
    · subst hb; rw [upd_same] at w; rw [← w]; exact j4
    · rw [upd_ne hb] at w; exact o.sub b u w, V.rel j3 j2 j4 o.sub j1, rs2⟩, k1, k2⟩
end

/-! ### the suite of a clause -/
theorem RS.setUn {K : PySem.W.Frag} {C : Addr} {S : Hp} {v : Option V} : ∀ {σ : L2.St} {env : List En} (i : Nat), RS K C S σ env → RS K C S (σ.set i v) (env.set i .un)
  | [], env, i, h => by cases h; rfl
  | o :: σ, env, 0, ⟨e, r, q, a, b⟩ => by subst q; exact ⟨.un, r, rfl, True.intro, b⟩
  | o :: σ, env, i + 1, ⟨e, r, q, a, b⟩ => by subst q; exact ⟨e, _, rfl, a, RS.setUn i b⟩
def errOk (K : PySem.W.Frag) (C : Addr) (T : Tx) (S : Hp) (er : Err) (dd : Option Addr) : Prop := (er.fs = [] ∧ dd = none) ∨ ∃ a xs vs, dd = some a ∧ S a = some (.xd xs) ∧ RL K C S er.fs vs ∧ ∀ (i : Nat) (f : Str) (v : V), (T.fn er.k)[i]? = some f → vs[i]? = some v → xs.lookup f = some v
theorem errOk.mono {K : PySem.W.Frag} {C : Addr} {T : Tx} {S S' : Hp} {er : Err} {dd : Option Addr} (e : Same S S') : errOk K C T S er dd → errOk K C T S' er dd
  | .inl h => .inl h
  | .inr ⟨a, xs, vs, h1, h2, h3, h4⟩ => .inr ⟨a, xs, vs, h1, e _ _ h2, h3.mono e, h4⟩
def Vo.err (V : Vo) (K : PySem.W.Frag) (C : Addr) (T : Tx) (er : Err) (dd : Option Addr) : Vo := ⟨V.M, fun S H => V.J S H ∧ errOk K C T S er dd, fun S H p j => V.th S H p j.1, fun S H S' H' j ss sub h1 h2 => ⟨V.st S H S' H' j.1 ss sub h1 h2, j.2.mono ss⟩⟩
section
variable {X : Cx} {C : Addr} {T : Tx} {V : Vo} {env : List En} {e : Expr} {pos p : Pos} {a : Addr} {oe : Obj} {cls : Value} {dd : Option Addr} {pn : List (Addr × Obj)} {er : Err} {n : Str} {d : D} {i : Nat} {body : List Stmt} {N : List En → Prop} {Rt : D → Prop} {P : Err → Prop}
def tNs (K : PySem.W.Frag) (C : Addr) (T : Tx) (V : Vo) (env : List En) (N : List En → Prop) (Rt : D → Prop) (P : Err → Prop) (a : Addr) (cls : Value) (dd : Option Addr) : TS := fun D σ H => ∃ S er, P er ∧ Ok K C V S H σ env ∧ RX K C T S H er cls dd ∧
  (∀ env' σ' S' H', N env' → Gr V.M S H S' H' → V.J S' H' → RS K C S' σ' env' → D.nx σ' H') ∧ (∀ d v S' H', Rt d → Gr V.M S H S' H' → V.J S' H' → R K C S' d v → D.rt v H')
theorem pss_err {Xs : Cx} (h : ∀ er, P er → cls = .ref (T.cl er.k) → JS Xs C T (V.err Xs.K C T er dd) env body N Rt (fun _ _ _ _ => False) (fun _ => False)) : PSs Xs body (tNs Xs.K C T V env N Rt P a cls dd) :=
  (pss_fam (P := fun er : Err => P er ∧ cls = .ref (T.cl er.k)) fun er q => h er q.1 q.2).weak fun D σ H ⟨S, er, p, o, rx, k1, k2⟩ => ⟨er, ⟨p, rx.1⟩, S, ⟨o.sub, ⟨o.j, rx.2⟩, o.rs⟩, fun env' σ' S' H' n g j r => k1 env' σ' S' H' n g j.1 r, fun d v S' H' q g j r => k2 d v S' H' q g j.1 r, fun _ _ _ _ _ _ z => z.elim⟩
/-- a clause's suite, the error under a name -/
theorem sui_named {K : PySem.W.Frag} {k : Nat} (hp : P er) {N' : List En → Prop} (hn : ∀ env', N' env' → N (env'.set i .un)) : Sui K C T V env N Rt er ⟨k, some i, fun a => tNs K C T V (env.set i (.d (.raw (.ref a)))) N' Rt P a⟩ := fun D σ S H cls dd a o rx ha k1 k2 =>
  ⟨S, er, hp, ⟨o.sub, o.j, o.rs.setD i (R.raw_iff.mpr rfl)⟩, rx, fun env' σ' S' H' n g j r => k1 _ _ S' H' (hn env' n) g j (r.setUn i), k2⟩
theorem sui_noname {K : PySem.W.Frag} {k : Nat} (hp : P er) : Sui K C T V env N Rt er ⟨k, none, fun a => tNs K C T V env N Rt P a⟩ := fun D σ S H cls dd a o rx ha k1 k2 =>
  ⟨S, er, hp, o, rx, k1, k2⟩
/-- e.f of the caught error -/
theorem je_xf (Tx : XfC X.K (T.cl er.k)) (hno : PySem.W.findIn X.K (.ref (T.cl er.k)) n = some none) (hz : Zc cls dd oe) (hf : ∃ vs, oe.data = .fields vs) (hc : cls = .ref (T.cl er.k)) (he : JE (X.suite a ((a, oe) :: pn)) C (V.err X.K C T er dd) env e (· = .raw (.ref a)))
    (hn : (T.fn er.k)[i]? = some n) (hd : er.fs[i]? = some d) (hb : attributeBase e n X.env (eval e X.env) = eval e X.env := by rfl) : JE (X.suite a ((a, oe) :: pn)) C (V.err X.K C T er dd) env (.Attribute e n pos) (· = d) :=
  (pe_xf Tx hno hz hf he hb).weak fun σ H Q ⟨S, o, q⟩ => ⟨S, o, fun d1 v1 S1 H1 p1 g1 j1 r1 => by
    subst p1
    rw [R.raw_iff] at r1
    rcases j1.2 with ⟨h1, _⟩ | ⟨x, xs, vs, h1, h2, h3, h4⟩
    · rw [h1] at hd; simp at hd
    · obtain ⟨v, hv, rv⟩ := h3.get hd
      exact ⟨r1, hc, x, xs, v, h1, g1.sub _ _ h2, h4 i n v hn hv, q d v S1 H1 rfl g1 j1 rv⟩⟩
/-- isinstance(e, c) of the caught error -/
theorem je_isX {p2 : Pos} {j : Nat} {b : Bool} (z : Zb X.mg) (Ec : ExcC X.K (T.cl er.k)) (hz : Zc cls dd oe) (hf : ∃ vs, oe.data = .fields vs) (hc : cls = .ref (T.cl er.k)) (hg : X.mg n = some (.ref (T.cl j))) (hk : PySem.W.kitOne X.K (.ref (T.cl er.k)) (.ref (T.cl j)) = some b)
    (he : JE (X.suite a ((a, oe) :: pn)) C (V.err X.K C T er dd) env e (· = .raw (.ref a))) (g1 : Gl (X.suite a ((a, oe) :: pn)) "isinstance" := by rfl) (g2 : Gl (X.suite a ((a, oe) :: pn)) n := by rfl) (hdb : (n == ("__debug__" : Str)) = false := by decide)
    (he1 : starEach [e, .Name n p2] X.env = (false, eval e X.env) :: starEach [.Name n p2] X.env := by rfl) (he2 : starEach [.Name n p2] X.env = (false, eval (.Name n p2) X.env) :: starEach [] X.env := by rfl) (hpl : (backTo pos (starEach [.Name n p2] X.env)).any (·.1) = false := by rfl) :
    JE (X.suite a ((a, oe) :: pn)) C (V.err X.K C T er dd) env (.Call (.Name "isinstance" p) [e, .Name n p2] [] pos) (· = .bl b) := by
  subst hc
  refine (pe_callB (call_isX Ec hz hf) g1 z.isinstance (by decide +kernel) (ja_cons he (ja_cons (je_c (x := .raw (.ref (T.cl j))) (fun S => R.raw_iff.mpr rfl) (pe_glob (v := .ref (T.cl j)) g2 hg rfl hdb)) ja_nil he2) he1) (by decide) (by decide) he1 hpl).weak fun σ H Q ⟨S, o, q⟩ => ⟨S, o, fun ds vs S1 H1 p1 g1 j1 r1 => ?_⟩
  subst p1
  obtain ⟨v, w, e1, h1, h2⟩ := RL.two r1
  rw [R.raw_iff] at h1 h2
  subst h1 h2 e1
  refine ⟨.ref (T.cl j), .ref (T.cl j), b, rfl, fun u h => h, ?_, hk, q _ _ S1 H1 rfl g1 j1 (R.bl_iff.mpr rfl)⟩
  rcases j1.2 with ⟨_, h1⟩ | ⟨x, xs, vs, h1, h2, h3, h4⟩
  · exact .inl h1
  · exact .inr ⟨x, xs, h1, g1.sub _ _ h2⟩
end
end RQ

/-! RqL: methods. -/
namespace RQ
open PySem PySem.Spec PyProof.Rows L2
section
variable {P : Program} {w : World} {K : PySem.W.Frag} {mg : Str → Option Value} {base : Heap} {C : Addr} {T : Tx}
theorem meth_pok {x qual : Str} {st : Stmt} {f : Addr} {fd : FuncData} {N ps : List Str} {k : Nat} {Pm : List D → D → Prop} (F : Fun K x qual st f fd) (Sc : FnScope N ps (defScope st)) (hl : ∀ ds r, Pm ds r → ds.length = ps.length)
    (hb : ∀ (cdv : Value) (A : Around) (outer : List Env) (s : Shared) (H : Hp) (E : XK) (ds : List D) (r : D), Room k (A.deeper (envOfC qual (defScope st) s.heap.objs.size f cdv)) → Pm ds r →
      JS (bodyX P w K mg base N qual st f cdv A outer s H E) C T V0 (envS N ds) (defBody st) (fun _ => .non = r) (fun d => d = r) (fun cls d _ H' => E cls d H') (fun er => False)) :
    FnOk P w K mg base (L2.CX P w) (k + 1) f fd ps (spG K C T (pok Pm)) := def_ok F Sc (fun V ds Ψ ⟨_, r, ⟨d, h, _⟩, _⟩ => hl ds d h) fun cdv A outer s H E V ds Ψ hr tk h => by
  obtain ⟨e1, r, ⟨d, h1, e3⟩, e2⟩ := h
  subst e1 e2 e3
  exact (hb cdv A outer s H E ds d hr h1).imp (fun _ h => by rw [h]) (fun _ h => by rw [h]) fun _ h => h.elim
/-- what the text says of a getter: its property, its def -/
structure Dpr (K : PySem.W.Frag) (C : Addr) (x qual : Str) (st : Stmt) : Prop where
  ex : ∃ (p g : Addr) (rest : List Value) (fd : FuncData), PySem.W.findIn K (.ref C) x = some (some (.ref p)) ∧ PySem.W.specialIn K (.ref p) "__get__" = some (some (.builtin "property.__get__")) ∧ PySem.W.takesIn K (.ref p) = some true ∧ PySem.W.recIn K p "property" = some (.ref g :: rest) ∧
    L2.Binds K fd ["self"] [] ∧ Fun K x qual st g fd
theorem Dpr.fpr {x qual : Str} {st : Stmt} {N : List Str} {i : Nat} (d : Dpr K C x qual st) (Sc : FnScope N ["self"] (defScope st))
    (hb : ∀ (g : Addr) (cdv : Value) (A : Around) (outer : List Env) (s : Shared) (H : Hp) (E : XK) (a b c r : D), ([a, b, c] : List D)[i]? = some r →
      JS (bodyX P w K mg base N qual st g cdv A outer s H E) C T V0 (envS N [.fil a b c]) (defBody st) (fun _ => .non = r) (fun d => d = r) (fun cls d _ H' => E cls d H') (fun er => False)) : Fpr P w K mg base C T x i := by
  obtain ⟨p, g, rest, fd, h1, h2, h3, h4, h5, h6⟩ := d.ex
  refine ⟨p, g, rest, fd, h1, h2, h3, h4, h5, meth_pok h6 Sc (fun ds r ⟨_, _, _, e, _⟩ => by rw [e]; rfl) fun cdv A outer s H E ds r hr ⟨a, b, c, e, hz⟩ => ?_⟩
  subst e
  exact hb g cdv A outer s H E a b c r hz
/-- .. of an own == -/
structure Deq (K : PySem.W.Frag) (C : Addr) (st : Stmt) : Prop where
  ex : ∃ (g : Addr) (fd : FuncData), PySem.W.findIn K (.ref C) "__eq__" = some (some (.ref g)) ∧ PySem.W.isFn K (.ref g) = true ∧ L2.Binds K fd ["self", "other"] [] ∧ Fun K "__eq__" "Fill.__eq__" st g fd
end
section
variable {X : Cx} {C : Addr} {T : Tx} {V : Vo} {env : List En} {a b : Expr} {pos : Pos} {s p t : D} {k j : Nat}
theorem jt_eqF {Pe : List D → D → Prop} {s2 p2 t2 : D} {c : Bool} (F : Feq X.prog X.w X.K X.mg X.base C T k Pe) (hr : Room j X.A) (hj : k ≤ j) (hP : Pe [.fil s p t, .fil s2 p2 t2] (.bl c)) (ha : JE X C V env a (· = .fil s p t)) (hb : JE X C V env b (· = .fil s2 p2 t2)) :
    JT X C V env (.Compare a [.Eq] [b] pos) (· = c) := by
  obtain ⟨g, h1, h2, sp, h3, h4⟩ := o2_eqF F hP
  refine jt_cmp1 (SlX.op_own (op := .Eq) (E := E0) (fun _ _ => rfl) h1 h2 h3 (hr.mono hj) passL) ha hb (fun S H u v e r1 r2 Q q => ?_) (nomark _)
  obtain ⟨a1, dx, x, y, w, e1, i1, _⟩ := R.fil_iff.mp r1
  obtain ⟨a2, dx2, x2, y2, w2, e2, i2, _⟩ := R.fil_iff.mp r2
  exact ⟨a1, dx, _, a2, C, dx2, _, e1, e2, Same.slt e i1, Same.slt e i2, by unfold PySem.W.notFirst; simp, h4 S H u v e r1 r2 Q q⟩
theorem jt_eqFL {Pe : List D → D → Prop} {xs : List D} {c : Bool} (hn : PySem.W.notFirst X.K C (.type "list") = true) (F : Feq X.prog X.w X.K X.mg X.base C T k Pe) (hr : Room j X.A) (hj : k ≤ j) (hP : Pe [.fil s p t, .lst xs] (.bl c)) (ha : JE X C V env a (· = .fil s p t)) (hb : JE X C V env b (· = .lst xs)) :
    JT X C V env (.Compare a [.Eq] [b] pos) (· = c) := by
  obtain ⟨g, h1, h2, sp, h3, h4⟩ := o2_eqF F hP
  refine jt_cmp1 (op_ownL (E := E0) hn h1 h2 h3 (hr.mono hj) passL) ha hb (fun S H u v e r1 r2 Q q => ?_) (nomark _)
  obtain ⟨a1, dx, x, y, w, e1, i1, _⟩ := R.fil_iff.mp r1
  obtain ⟨a2, ys, e2, i2, _⟩ := R.lstL r2
  exact ⟨a1, dx, _, a2, _, e1, e2, Same.slt e i1, e.seq i2, h4 S H u v e r1 r2 Q q⟩
end
end RQ

/-! RqM: a target for a value, for over statements with lists of one's own, a written dict that is asked at once. -/
namespace RQ
open PySem PySem.Spec PyProof.Rows L2

section
variable {X : Cx} {C : Addr} {T : Tx} {V : Vo} {env : List En} {e tg : Expr} {Φ : D → Prop} {pos : Pos} {x : D} {N : List En → Prop} {Rt : D → Prop} {W : WX} {Et : Err → Prop} {bind : List En → D → List En → Prop} {rest : List Stmt}
/-- a, b = e -/
theorem jst_asgR (he : JE X C V env e Φ) (hg : PG X tg (gJ X.K C bind)) (hb : ∀ d, Φ d → ∃ envB, bind env d envB) (hs : swapsWithSole [tg] e pos.line X.env = pure false := by rfl) (hw : swappedStores [tg] e X.env = pure none := by rfl)
    (h1 : (assignEach [tg] X.env).map (·.2) = [assign tg X.env] := by rfl) : JSt X C T V env (.Assign [tg] e pos) (fun env' => ∃ d, Φ d ∧ bind env d env') Rt W Et :=
  (ps_asg he hg hs hw h1).weak fun D σ H ⟨S, o, k1, _, _⟩ => ⟨S, o, fun d v S1 H1 q g j r => by
    obtain ⟨envB, hB⟩ := hb d q
    exact ⟨S1, d, env, envB, g.sub, o.rs.mono g.s, r, hB, fun σ' rs => k1 envB σ' S1 H1 ⟨d, q, hB⟩ g j rs⟩⟩
theorem js_unp {is : List Nat} {ds : List D} {es : List Expr} {k : Nat} {p : Pos} (hc : X.calm = true) (he : JE X C V env e (· = .tup ds)) (hg : PGs X es (gNs is)) (hl : ds.length = is.length) (hr : JS X C T V (setAll env is ds) rest N Rt W Et)
    (hn : (assignEach es X.env).length = is.length := by rfl) (hst : (assignEach es X.env).findIdx? (·.1) = none := by rfl) (hs : swapsWithSole [.Tuple es k p] e pos.line X.env = pure false := by rfl) (hw : swappedStores [.Tuple es k p] e X.env = pure none := by rfl)
    (h1 : (assignEach [.Tuple es k p] X.env).map (·.2) = [assign (.Tuple es k p) X.env] := by rfl) : JS X C T V env (.Assign [.Tuple es k p] e pos :: rest) N Rt W Et :=
  js_cons (jst_asgR he (jg_tup hc hg hn hst) (fun d q => ⟨_, ds, q, hl, rfl⟩) hs hw h1) fun env' ⟨d, q, ds', e1, e2, e3⟩ => by
    subst q
    cases e1
    subst e3
    exact hr
end
/-! ### for -/
section
variable {X : Cx} {C : Addr} {T : Tx} {A : Am} {V : Vo} {env : List En} {tg iter : Expr} {pos : Pos} {N : List En → Vo → Prop} {Rt : D → Prop} {W : WX} {Et : Err → Prop} {body : List Stmt} {Φl : List D → Prop} {bind : List En → D → List En → Prop}
theorem z_for (I : List D → Nat → List En → Vo → Prop) (hp : PassesOwn (model X.prog X.w) X.A X.env X.xe) (hc : X.calm = true) (hi : JI X C V env tg iter Φl) (hg : PG X tg (gJ X.K C bind))
    (hbd : ∀ ds i d envI VI, Φl ds → ds[i]? = some d → I ds i envI VI → ∃ envB, bind envI d envB) (h0 : ∀ ds, Φl ds → I ds 0 env V) (hn : ∀ ds envI VI, Φl ds → I ds ds.length envI VI → N envI VI)
    (hb : ∀ q : List D × Nat × D × List En × Vo × List En, (Φl q.1 ∧ q.1[q.2.1]? = some q.2.2.1 ∧ I q.1 q.2.1 q.2.2.2.1 q.2.2.2.2.1 ∧ bind q.2.2.2.1 q.2.2.1 q.2.2.2.2.2) → JZ X C T A q.2.2.2.2.1 q.2.2.2.2.2 body (I q.1 (q.2.1 + 1)) Rt W Et)
    (hs : ∀ x, foldedSetIterable iter X.env x = pure x := by intro _; rfl) : JZt X C T A V env (.For tg iter body [] pos) N Rt W Et :=
  (ps_for hp hc hi hg (pss_fam hb) hs).weak fun D σ H ⟨S, o, k1, k2, k3⟩ => ⟨S, o.ok, fun ds J S1 H1 p1 g1 j1 wk => by
    exact ⟨fun i m σ' H' => m = ds.length - i ∧ i ≤ ds.length ∧ ∃ S' envI VI, Same S1 S' ∧ Zt X.K C A VI S' H' σ' envI ∧ I ds i envI VI,
      ⟨ds.length, by omega, by omega, S1, env, V, .refl _, o.step g1 j1 (o.ok.rs.mono g1.s), h0 ds p1⟩, fun i m σ' H' ⟨em, hi, S', envI, VI, ss, z', hI⟩ => by
      by_cases hlt : i < ds.length
      · refine .inr ⟨wk.go i H' (ss.trans z'.ok.sub) hlt, fun σ2 H2 => i + 1 ≤ ds.length ∧ ∃ S2 envI VI, Same S1 S2 ∧ Zt X.K C A VI S2 H2 σ2 envI ∧ I ds (i + 1) envI VI, fun σ2 H2 ⟨hl, q⟩ => ⟨ds.length - (i + 1), by omega, rfl, hl, q⟩, fun x H2 y => ?_⟩
        have hd : ds[i]? = some ds[i] := List.getElem?_eq_getElem hlt
        obtain ⟨S2, g2, r2⟩ := wk.yld i ds[i] S' H' x H2 ss z'.ok.sub hd y
        obtain ⟨envB, hB⟩ := hbd ds i ds[i] envI VI p1 hd hI
        refine ⟨S2, ds[i], envI, envB, g2.sub, z'.ok.rs.mono g2.s, r2, hB, fun σ3 rs3 => ?_⟩
        exact ⟨(ds, i, ds[i], envI, VI, envB), ⟨p1, hd, hI, hB⟩, S2, z'.step g2.up0 (VI.gr0 g2 z'.ok.j) rs3, fun env' V' σ4 S4 H4 n4 s4 z4 => ⟨by omega, S4, env', V', (ss.trans g2.s).trans s4, z4, n4⟩, k2, k3⟩
      · have e : i = ds.length := by omega
        subst e
        exact .inl ⟨wk.stop _ H' (ss.trans z'.ok.sub) (Nat.le_refl _), k1 envI VI σ' S' H' (hn ds envI VI p1 hI) (g1.s.trans ss) z'⟩⟩⟩
end

/-! ### {k: e, ..}[b] -/
def KVR (K : PySem.W.Frag) (C : Addr) (S : Hp) : List (Str × D) → List (Key × L2.V) → Prop
  | [], kvs => kvs = []
  | (k, d) :: r, kvs => ∃ v t, kvs = (.inr k, v) :: t ∧ R K C S d v ∧ KVR K C S r t
theorem KVR.mono {K : PySem.W.Frag} {C : Addr} {S S' : Hp} (e : Same S S') : ∀ {l : List (Str × D)} {kvs : List (Key × L2.V)}, KVR K C S l kvs → KVR K C S' l kvs
  | [], _, h => h
  | (k, d) :: r, _, ⟨v, t, e1, h1, h2⟩ => ⟨v, t, e1, h1.mono e, KVR.mono e h2⟩
theorem KVR.len {K : PySem.W.Frag} {C : Addr} {S : Hp} : ∀ {l : List (Str × D)} {kvs : List (Key × L2.V)}, KVR K C S l kvs → kvs.length = l.length
  | [], _, h => by cases h; rfl
  | (k, d) :: r, _, ⟨v, t, e1, h1, h2⟩ => by subst e1; simp [h2.len]
theorem KVR.keys {K : PySem.W.Frag} {C : Addr} {S : Hp} : ∀ {l : List (Str × D)} {kvs : List (Key × L2.V)}, KVR K C S l kvs → kvs.map (·.1) = l.map fun p => .inr p.1
  | [], _, h => by cases h; rfl
  | (k, d) :: r, _, ⟨v, t, e1, h1, h2⟩ => by subst e1; simp [h2.keys]
theorem KVR.get {K : PySem.W.Frag} {C : Addr} {S : Hp} {z : D} {w : Str} : ∀ {l : List (Str × D)} {kvs : List (Key × L2.V)}, KVR K C S l kvs → l.lookup w = some z → ∃ v, valV kvs (.inr w) = some v ∧ R K C S z v
  | [], _, _, e => by simp at e
  | (k, d) :: r, _, ⟨v, t, e1, h1, h2⟩, e => by
    subst e1
    by_cases hk : w = k
    · subst hk
      have e2 : d = z := by simpa [List.lookup] using e
      subst e2
      exact ⟨v, valV_pos rfl, h1⟩
    · have hne : (w == k) = false := by simpa using hk
      obtain ⟨u, hu, ru⟩ := KVR.get h2 (by simpa [List.lookup, hne] using e)
      exact ⟨u, by rw [valV_neg (fun q => hk (by cases q; rfl))]; exact hu, ru⟩
theorem mergeK_nodup : ∀ {more acc : List (Key × L2.V)}, ((acc ++ more).map (·.1)).Nodup → mergeK acc more = acc ++ more
  | [], acc, _ => by simp [mergeK]
  | p :: r, acc, h => by
    have h1 : valV acc p.1 = none := by
      have : ∀ q ∈ acc, q.1 ≠ p.1 := fun q hq e => by
        rw [List.map_append, List.nodup_append] at h
        exact h.2.2 q.1 (List.mem_map.mpr ⟨q, hq, rfl⟩) p.1 (by simp) e
      unfold valV
      rw [List.find?_eq_none.mpr (fun q hq => by simpa using this q hq)]
      rfl
    show mergeK (putK acc p.1 p.2) r = _
    rw [putK_new p.2 h1, mergeK_nodup (by simpa using h)]
    simp
section
variable {X : Cx} {C : Addr} {V : Vo} {env : List En} {e b : Expr} {pos p : Pos} {x z : D} {keys : List (Option Expr)} {vals : List Expr} {l : List (Str × D)} {trs : List (TE × TE)} {k w : Str}
structure JP (X : Cx) (C : Addr) (V : Vo) (env : List En) (pos : Pos) (keys : List (Option Expr)) (vals : List Expr) (l : List (Str × D)) : Prop where
  ex : ∃ trs, PPs X pos keys vals trs ∧ ∀ σ S H (Q : List (L2.V × L2.V) → Hp → Prop), Ok X.K C V S H σ env → (∀ kvs S' H', Gr V.M S H S' H' → V.J S' H' → KVR X.K C S' l kvs → Q (kvs.map fun kv => (kV kv.1, kv.2)) H') → tPairs trs σ H Q
theorem jp_nil : JP X C V env pos [] [] [] := ⟨[], pps_nil, fun σ S H Q o k => k [] S H (.refl o.sub) o.j rfl⟩
theorem jp_cons {jj} {p2 : Pos} (hv : JE X C V env e (· = x)) (hr : JP X C V env pos keys vals l) : JP X C V env pos (some (.Constant (.str k) jj p2) :: keys) (e :: vals) ((k, x) :: l) := by
  obtain ⟨trs, h1, h2⟩ := hr.ex
  have hk : JE X C V env (.Constant (.str k) jj p2) (· = .str k) := je_str
  refine ⟨_, pps_cons hk hv h1, fun σ S H Q o q => ⟨S, o, fun d1 v1 S1 H1 e1 g1 j1 r1 => ⟨S1, o.gr g1 j1, fun d2 v2 S2 H2 e2 g2 j2 r2 => ?_⟩⟩⟩
  subst e1 e2
  rw [R.str_iff] at r1
  subst r1
  refine h2 σ S2 H2 _ ((o.gr g1 j1).gr g2 j2) fun kvs S3 H3 g3 j3 r3 => ?_
  exact q ((.inr k, v2) :: kvs) S3 H3 ((g1.trans g2).trans g3) j3 ⟨v2, kvs, rfl, r2.mono g3.s, r3⟩
theorem je_dget (hu : X.A.units + 1 < cLine) (hp : JP X C V env p keys vals l) (hb : JE X C V env b (· = .str w)) (hz : l.lookup w = some z) (hd : (l.map (·.1)).Nodup) (h15 : l.length ≤ 15) (hs : NoSl b) (hall : keys.all (·.isSome) = true := by rfl) (hl : keys.length = vals.length := by rfl) (h0 : keys ≠ [] := by exact fun z => nomatch z)
    (hk15 : keys.length ≤ 15 := by decide) : JE X C V env (.Subscript (.Dict keys vals p) b pos) (· = z) := by
  obtain ⟨trs, h1, h2⟩ := hp.ex
  refine (pe_dget hu (pe_disp h1 hall hl h0 hk15) hb hs).weak fun σ H Q ⟨S, o, q⟩ => fun a ha => ?_
  have sa : S a = none := by
    cases w : S a with
    | none => rfl
    | some u => rw [o.sub a u w] at ha; cases ha
  have ma := V.new ha o.j
  have g0 : Gr V.M S H S (upd H a (.dK [])) := Gr.mine o.sub ha
  refine h2 σ S _ _ (o.gr g0 (V.gr0 (Gr.mine o.sub ha) o.j)) fun kvs S1 H1 g1 j1 r1 => ?_
  have ha1 : H1 a = some (.dK []) := g1.h a _ ma upd_same
  have sa1 : S1 a = none := g1.n a _ upd_same sa
  refine ⟨ha1, kvs, rfl, by rw [r1.len]; exact h15, ?_⟩
  have g2 : Gr V.M S H S1 (upd H1 a (.dK (mergeK [] kvs))) := (g0.trans g1).mut sa1 ha
  have j2 : V.J S1 (upd H1 a (.dK (mergeK [] kvs))) := V.mut ma sa1 g1.sub j1
  refine ⟨S1, o.gr g2 j2, fun d v S3 H3 e3 g3 j3 r3 => ?_⟩
  subst e3
  rw [R.str_iff] at r3
  subst r3
  have hm : mergeK [] kvs = kvs := by
    have := mergeK_nodup (more := kvs) (acc := []) (by
      rw [List.nil_append, r1.keys]
      have : (l.map fun p => (Sum.inr p.1 : Key)) = (l.map (·.1)).map Sum.inr := by simp
      rw [this]
      unfold List.Nodup at hd ⊢
      rw [List.pairwise_map]
      exact hd.imp fun h e => h (by cases e; rfl))
    simpa using this
  obtain ⟨v, hv, rv⟩ := (r1.mono g3.s).get hz
  refine ⟨a, v, rfl, ?_, q z v S3 H3 rfl (g2.trans g3) j3 rv⟩
  have e3 : H3 a = some (.dK kvs) := by rw [g3.h a _ ma upd_same, hm]
  have := DGet.k (k := .inr w) e3
  rw [hv] at this
  exact this
end
end RQ

/-! RqN: slices of tuples, zip of two tuples, comprehensions over pairs. -/
namespace RQ
open PySem PySem.Spec PyProof.Rows L2

section
variable {X : Cx} {C : Addr} {V : Vo} {env : List En} {a b tg iter elt : Expr} {pos p p2 : Pos} {ds es : List D} {k : Nat} {ifs : List Expr} {scope : Scope} {own : List (Str × Nat)}
theorem cutV_fromG {xs : List L2.V} {k : Nat} : cutV xs (some (k : Int)) none = xs.drop k := by
  by_cases h : k ≤ xs.length
  · exact cutV_from h
  · unfold cutV
    rw [HT.sIx_none, HT.sIx_nat, Nat.min_eq_right (by omega), Nat.sub_self, List.take_zero, List.drop_eq_nil_of_le (by omega)]
/-- t[k:] -/
theorem je_slFromT (ha : JE X C V env a (· = .tup ds)) (hb : JE X C V env b (· = .int (k : Int))) : JE X C V env (.Subscript a (.Slice (some b) none none p2) pos) (· = .tup (ds.drop k)) :=
  (pe_slice sl_tupA ha (po_some hb) po_none).weak fun σ H Q ⟨S, o, q⟩ => ⟨S, o, fun d v S1 H1 p1 g1 j1 r1 => by
    subst p1
    refine ⟨S1, o.gr g1 j1, fun d2 v2 S2 H2 p2 g2 j2 r2 => ?_⟩
    subst p2
    rw [R.int_iff] at r2
    subst r2
    obtain ⟨x, xs, e1, h1, h2⟩ := R.tup_iff.mp r1
    refine ⟨(k : Int), rfl, x, xs, e1, Same.seqT g2.sub (Same.seqT g2.s h1), fun hw => ?_, fun hw p hp => ?_⟩
    · rw [HT.sIx_nat] at hw
      have hd : ds.drop k = ds := by
        have hl := h2.length
        by_cases hk : k = 0
        · subst hk; rfl
        · have : ds.length = 0 := by omega
          rw [List.length_eq_zero_iff.mp this]; simp
      refine q _ _ S2 H2 rfl (g1.trans g2) j2 ?_
      rw [hd, ← e1]
      exact r1.mono g2.s
    · have g3 : Gr M0 S2 H2 (upd S2 p (.tup (cutV xs (some (k : Int)) none))) (upd H2 p (.tup (cutV xs (some (k : Int)) none))) := .new g2.sub hp
      have h5 := ((h2.mono g2.s).mono g3.s).drop k
      rw [← cutV_fromG] at h5
      exact q _ _ _ _ rfl ((g1.trans g2).trans g3.up0) (V.gr0 g3 j2) (R.mkT upd_same h5)⟩
def zipD (ds es : List D) : List D := List.zipWith (fun a b => .tup [a, b]) ds es
theorem zipD_get {ds es : List D} {i : Nat} {d : D} (h : (zipD ds es)[i]? = some d) : ∃ x y, ds[i]? = some x ∧ es[i]? = some y ∧ d = .tup [x, y] := by
  unfold zipD at h
  rw [List.getElem?_zipWith] at h
  cases h1 : ds[i]? with
  | none => rw [h1] at h; cases h
  | some x =>
    cases h2 : es[i]? with
    | none => rw [h1, h2] at h; cases h
    | some y => rw [h1, h2] at h; exact ⟨x, y, rfl, rfl, (Option.some.inj h).symm⟩
theorem wk_zipT {K : PySem.W.Frag} {S : Hp} {a b : Addr} {xs ys : List L2.V} (h1 : SqT K S a xs) (h2 : SqT K S b ys) (r1 : RL K C S ds xs) (r2 : RL K C S es ys) : Wk K C S (zipD ds es) (RZ.ItzT K a b) where
  go := fun i H e hi => by
    have hl : i < ds.length ∧ i < es.length := by unfold zipD at hi; rw [List.length_zipWith] at hi; omega
    have hx : i < xs.length := by rw [r1.length]; exact hl.1
    have hy : i < ys.length := by rw [r2.length]; exact hl.2
    exact ⟨xs, ys, xs[i], ys[i], Same.seqT e h1, Same.seqT e h2, List.getElem?_eq_getElem hx, List.getElem?_eq_getElem hy⟩
  stop := fun i H e hi => ⟨xs, ys, Same.seqT e h1, Same.seqT e h2, by rw [r1.length, r2.length]; unfold zipD at hi; rw [List.length_zipWith] at hi; omega⟩
  yld := fun i d S1 H1 x H2 e1 e2 hd ⟨T, u, v, e3, hT, e4, f1, f2⟩ => by
    obtain ⟨dx, dy, q1, q2, e5⟩ := zipD_get hd
    obtain ⟨u', k1, k2⟩ := r1.get q1
    obtain ⟨v', k3, k4⟩ := r2.get q2
    have g1 := f1 xs (Same.seqT e2 (Same.seqT e1 h1))
    have g2 := f2 ys (Same.seqT e2 (Same.seqT e1 h2))
    rw [k1] at g1
    rw [k3] at g2
    obtain rfl := Option.some.inj g1
    obtain rfl := Option.some.inj g2
    subst e3 e4 e5
    have g : Gr M0 S1 H1 (upd S1 T (.tup [u', v'])) (upd H1 T (.tup [u', v'])) := .new e2 hT
    exact ⟨_, g, R.mkT upd_same (RL.cons ((k2.mono e1).mono g.s) (RL.cons ((k4.mono e1).mono g.s) RL.nil))⟩
theorem ji_zipT {elts : List Expr} {kk : Nat} {tpos : Pos} (ha : JE X C V env a (· = .tup ds)) (hb : JE X C V env b (· = .tup es)) (hg : Gl X "zip") (hm : X.mg "zip" = none)
    (hs2 : starEach [b] X.env = (false, eval b X.env) :: starEach [] X.env := by rfl) (hs : starEach [a, b] X.env = (false, eval a X.env) :: starEach [b] X.env := by rfl) (hpl : (backTo pos (starEach [b] X.env)).any (·.1) = false := by rfl) :
    JI X C V env (.Tuple elts kk tpos) (.Call (.Name "zip" p) [a, b] [] pos) (· = zipD ds es) := (RZ.pi_zipA hg hm (ja_cons ha (ja_cons hb ja_nil hs2) hs) hs hpl).weak fun σ H Rr ⟨S, o, k⟩ => ⟨S, o, fun dd vs S' H' e g j r => by
  subst e
  obtain ⟨v, w, e4, h4, h5⟩ := RL.two r
  obtain ⟨x, xs, e1, h1, h2⟩ := R.tup_iff.mp h4
  obtain ⟨y, ys, e2, h3, h6⟩ := R.tup_iff.mp h5
  subst e4 e1 e2
  exact ⟨x, y, xs, ys, rfl, .inr ⟨Same.seqT g.sub h1, Same.seqT g.sub h3, k _ _ S' H' rfl g j (wk_zipT h1 h3 h2 h6)⟩⟩⟩
/-- items known, all tuples; the target a tuple of names -/
theorem je_lcT {is : List Nat} {ds : List D} (t : D → Bool) (f : D → D) (hc : X.calm = true) (hN : X.N.Nodup) (hi : JI X C V env tg iter (· = ds)) (ok : BlkOk X.N X.env.scope scope own) (hsh : ∀ d ∈ ds, ∃ es, d = .tup es ∧ es.length = is.length)
    (hg : ∀ (s : Shared) (H : Hp) (Cc : Addr) (cl : List (Str × Addr)) (fp : List Addr), PG (X.blk s H scope (compEnvC scope cl Cc X.env) fp) tg (gB X.K C (own.map (·.2)) (bT is)))
    (ht : ∀ (s : Shared) (H : Hp) (Cc : Addr) (cl : List (Str × Addr)) (fp : List Addr) (es : List D), .tup es ∈ ds → es.length = is.length → PTs (X.blk s H scope (compEnvC scope cl Cc X.env) fp) ifs (tJT X.K C V (setAll (wipeE env (own.map (·.2))) is es) (· = t (.tup es))))
    (he : ∀ (s : Shared) (H : Hp) (Cc : Addr) (cl : List (Str × Addr)) (fp : List Addr) (es : List D), .tup es ∈ ds → es.length = is.length → t (.tup es) = true → PE (X.blk s H scope (compEnvC scope cl Cc X.env) fp) elt (tJ X.K C V (setAll (wipeE env (own.map (·.2))) is es) (· = f (.tup es))))
    (hz : ds.length ≤ 1000000) (hs : ∀ x, foldedSetIterable iter X.env x = pure x := by intro _; rfl) :
    JE X C V env (.ListComp elt [⟨tg, iter, ifs, 0⟩] scope pos) (· = .lst ((ds.filter t).map f)) :=
  je_lcG (bind := bT is) (tq := fun d b => b = t d) (fq := fun d y => y = f d) hc hN hi ok hg
    (fun s H Cc cl fp q ⟨⟨ds', e1, h1⟩, es, e2, h2, h3⟩ => by subst e1; rw [h3, e2]; exact ht s H Cc cl fp es (by rw [← e2]; exact h1) h2)
    (fun s H Cc cl fp q ⟨⟨⟨ds', e1, h1⟩, hq⟩, es, e2, h2, h3⟩ => by subst e1; rw [h3]; rw [e2] at hq ⊢; exact he s H Cc cl fp es (by rw [← e2]; exact h1) h2 hq.symm)
    (fun ds' d e h => by subst e; obtain ⟨es, e1, h1⟩ := hsh d h; exact ⟨_, es, e1, h1, rfl⟩) (fun ds' e => by subst e; exact hz)
    (fun ds' ys e r => by subst e; rw [Lc.det r]) hs
end
end RQ

/-! RqO: constant places, whole numbers that are not told exactly. -/
namespace RQ
open PySem PySem.Spec PyProof.Rows L2

section
variable {X : Cx} {C : Addr} {V : Vo} {env : List En} {e a b c : Expr} {pos p p2 : Pos} {x z : D} {ds : List D} {i : Int} {jj : Nat}
theorem je_ixTc (ha : JE X C V env a (· = .tup ds)) (h : ds[i.toNat]? = some z) (h0 : 0 ≤ i := by decide) : JE X C V env (.Subscript a (.Constant (.int i) jj p2) pos) (· = z) :=
  je_ixT (k := i.toNat) ha (je_int.to (congrArg D.int (by omega))) h (fun _ _ => rfl)
theorem je_ixLc (ha : JE X C V env a (· = .lst ds)) (h : ds[i.toNat]? = some z) (h0 : 0 ≤ i := by decide) : JE X C V env (.Subscript a (.Constant (.int i) jj p2) pos) (· = z) :=
  je_ixL (k := i.toNat) ha (je_int.to (congrArg D.int (by omega))) h (fun _ _ => rfl)
/-- a whole number of which something is known -/
abbrev isI (Θ : Int → Prop) : D → Prop := fun d => ∃ i : Int, d = .int i ∧ Θ i
variable {Θ Θa Θb : Int → Prop} {j : Int}
theorem je_det {Φ : D → Prop} (h : JE X C V env e (· = x)) (w : Φ x) : JE X C V env e Φ := h.imp fun d q => by rw [q]; exact w
theorem je_detI (h : JE X C V env e (· = .int i)) : JE X C V env e (isI (· = i)) := h.imp fun d q => ⟨i, q, rfl⟩
theorem je_opI {op : Operator} {r : R2} (ho : OpR X (binaryOp op) r) (ha : JE X C V env a (isI Θa)) (hb : JE X C V env b (isI Θb)) (hd : ∀ i j, Θa i → Θb j → ∃ k, Θ k ∧ O2 X.K C r (.int i) (.int j) (.int k)) : JE X C V env (.BinOp a op b pos) (isI Θ) :=
  je_op ho ha hb fun x y ⟨i, e1, h1⟩ ⟨j, e2, h2⟩ => by
    obtain ⟨k, q1, q2⟩ := hd i j h1 h2
    subst e1 e2
    exact ⟨.int k, ⟨k, rfl, q1⟩, q2⟩
theorem je_addI (ha : JE X C V env a (isI Θa)) (hb : JE X C V env b (isI Θb)) : JE X C V env (.BinOp a .Add b pos) (isI fun k => ∃ i j, Θa i ∧ Θb j ∧ k = i + j) := je_opI op_add ha hb fun i j h1 h2 => ⟨_, ⟨i, j, h1, h2, rfl⟩, o2_I0 fun S => R.int_iff.mpr rfl⟩
theorem je_subI (ha : JE X C V env a (isI Θa)) (hb : JE X C V env b (isI Θb)) : JE X C V env (.BinOp a .Sub b pos) (isI fun k => ∃ i j, Θa i ∧ Θb j ∧ k = i - j) := je_opI op_sub ha hb fun i j h1 h2 => ⟨_, ⟨i, j, h1, h2, rfl⟩, o2_I0 fun S => R.int_iff.mpr rfl⟩
theorem je_mulI (ha : JE X C V env a (isI Θa)) (hb : JE X C V env b (isI Θb)) (hc : ∀ i j, Θa i → Θb j → CMulW i j) : JE X C V env (.BinOp a .Mult b pos) (isI fun k => ∃ i j, Θa i ∧ Θb j ∧ k = i * j) := je_opI op_mulW ha hb fun i j h1 h2 => ⟨_, ⟨i, j, h1, h2, rfl⟩, o2_I (hc i j h1 h2) fun S => R.int_iff.mpr rfl⟩
theorem je_divI (ha : JE X C V env a (isI Θa)) (hb : JE X C V env b (isI Θb)) (hc : ∀ i j, Θa i → Θb j → CDivW i j) : JE X C V env (.BinOp a .FloorDiv b pos) (isI fun k => ∃ i j, Θa i ∧ Θb j ∧ k = i / j) := je_opI op_fdivW ha hb fun i j h1 h2 => ⟨_, ⟨i, j, h1, h2, rfl⟩, o2_I (hc i j h1 h2) fun S => R.int_iff.mpr rfl⟩
theorem je_modI (ha : JE X C V env a (isI Θa)) (hb : JE X C V env b (isI Θb)) (hc : ∀ j, Θb j → 0 < j) : JE X C V env (.BinOp a .Mod b pos) (isI fun k => ∃ i j, Θa i ∧ Θb j ∧ k = i % j) := je_opI op_mod ha hb fun i j h1 h2 => ⟨_, ⟨i, j, h1, h2, rfl⟩, o2_I (hc j h2) fun S => R.int_iff.mpr rfl⟩
theorem je_impI (h : JE X C V env e (isI Θa)) (w : ∀ i, Θa i → Θ i) : JE X C V env e (isI Θ) := h.imp fun d ⟨i, q, r⟩ => ⟨i, q, w i r⟩
/-- comparisons -/
theorem jt_cmpI {op : CmpOp} {r : R2} {f : Int → Int → Bool} (ho : OpR X (compareOp op) r) (ha : JE X C V env a (isI Θa)) (hb : JE X C V env b (isI Θb)) (hm : behindInMarks op b = false) (hd : ∀ i j, O2 X.K C r (.int i) (.int j) (.bl (f i j))) : JT X C V env (.Compare a [op] [b] pos) (fun c => ∃ i j, Θa i ∧ Θb j ∧ c = f i j) :=
  jt_cmp ho ha hb (fun x y ⟨i, e1, h1⟩ ⟨j, e2, h2⟩ => ⟨f i j, ⟨i, j, h1, h2, rfl⟩, by subst e1 e2; exact hd i j⟩) hm
theorem jt_ltI (ha : JE X C V env a (isI Θa)) (hb : JE X C V env b (isI Θb)) : JT X C V env (.Compare a [.Lt] [b] pos) (fun c => ∃ i j, Θa i ∧ Θb j ∧ c = decide (i < j)) := jt_cmpI op_lt ha hb (nomark _) fun i j => o2_I0 fun S => R.bl_iff.mpr rfl
theorem jt_gtI (ha : JE X C V env a (isI Θa)) (hb : JE X C V env b (isI Θb)) : JT X C V env (.Compare a [.Gt] [b] pos) (fun c => ∃ i j, Θa i ∧ Θb j ∧ c = decide (j < i)) := jt_cmpI op_gt ha hb (nomark _) fun i j => o2_I0 fun S => R.bl_iff.mpr rfl
theorem jt_eqI' (hu : X.A.units + 64 < cLine) (ha : JE X C V env a (isI Θa)) (hb : JE X C V env b (isI Θb)) : JT X C V env (.Compare a [.Eq] [b] pos) (fun c => ∃ i j, Θa i ∧ Θb j ∧ c = decide (i = j)) := jt_cmpI (op_eqD hu) ha hb (nomark _) fun i j => by rw [← dec_beq]; exact o2_eq okD_int okD_int
/-- min, max of two -/
theorem min_if (i j : Int) : (if j < i then j else i) = min i j := by split <;> omega
theorem max_if (i j : Int) : (if j > i then j else i) = max i j := by split <;> omega
theorem je_minI (hc : X.calm = true) (z : Zb X.mg) (ha : JE X C V env a (isI Θa)) (hb : JE X C V env b (isI Θb)) (hg : Gl X "min" := by rfl) (he : starEach [a, b] X.env = (false, eval a X.env) :: starEach [b] X.env := by rfl) (he2 : starEach [b] X.env = (false, eval b X.env) :: starEach [] X.env := by rfl) (hpl : (backTo pos (starEach [b] X.env)).any (·.1) = false := by rfl) :
    JE X C V env (.Call (.Name "min" p) [a, b] [] pos) (isI fun k => ∃ i j, Θa i ∧ Θb j ∧ k = min i j) :=
  je_B (call_min2 hc) hg z.min (by decide +kernel) (ja_consR ha (ja_consR hb ja_nil he2) he) (fun ds ⟨d, r, e1, ⟨i, e2, h2⟩, d3, r3, e3, ⟨j, e4, h4⟩, e5⟩ => ⟨.int (min i j), ⟨_, rfl, i, j, h2, h4, rfl⟩, by
    subst e1 e2 e3 e4 e5
    refine oc_of fun S H vs e rr => ?_
    obtain ⟨v, w, e1, h1, h2⟩ := RL.two rr
    rw [R.int_iff] at h1 h2
    subst h1 h2 e1
    exact ⟨_, R.int_iff.mpr rfl, fun Q q => ⟨i, j, rfl, by rw [min_if]; exact q⟩⟩⟩) (by decide) (by decide) he hpl
theorem je_maxI (hc : X.calm = true) (z : Zb X.mg) (ha : JE X C V env a (isI Θa)) (hb : JE X C V env b (isI Θb)) (hg : Gl X "max" := by rfl) (he : starEach [a, b] X.env = (false, eval a X.env) :: starEach [b] X.env := by rfl) (he2 : starEach [b] X.env = (false, eval b X.env) :: starEach [] X.env := by rfl) (hpl : (backTo pos (starEach [b] X.env)).any (·.1) = false := by rfl) :
    JE X C V env (.Call (.Name "max" p) [a, b] [] pos) (isI fun k => ∃ i j, Θa i ∧ Θb j ∧ k = max i j) :=
  je_B (call_max2 hc) hg z.max (by decide +kernel) (ja_consR ha (ja_consR hb ja_nil he2) he) (fun ds ⟨d, r, e1, ⟨i, e2, h2⟩, d3, r3, e3, ⟨j, e4, h4⟩, e5⟩ => ⟨.int (max i j), ⟨_, rfl, i, j, h2, h4, rfl⟩, by
    subst e1 e2 e3 e4 e5
    refine oc_of fun S H vs e rr => ?_
    obtain ⟨v, w, e1, h1, h2⟩ := RL.two rr
    rw [R.int_iff] at h1 h2
    subst h1 h2 e1
    exact ⟨_, R.int_iff.mpr rfl, fun Q q => ⟨i, j, rfl, by rw [max_if]; exact q⟩⟩⟩) (by decide) (by decide) he hpl
theorem je_detO (h : JE X C V env e (isI (· = i))) : JE X C V env e (· = .int i) := h.imp fun d ⟨k, q, r⟩ => by rw [q, r]
/-- tuple(a list), list(a list), list(a tuple) -/
theorem oc_tupL {K : PySem.W.Frag} {xs : List D} : OC K C (fun vs H Q => ∃ p ys, vs = [.ref p] ∧ ((SqL K H p ys ∧ ∀ l, H l = none → Q (.ref l) (upd H l (.tup ys))) ∨ (SqT K H p ys ∧ Q (.ref p) H))) [.lst xs] (.tup xs) := fun S H vs e rr Q q => by
  obtain ⟨v, e1, h1⟩ := RL.one rr
  obtain ⟨p, ys, e2, h2, h3⟩ := R.lstL h1
  subst e2 e1
  refine ⟨p, ys, rfl, .inl ⟨e.seq h2, fun l hl => ?_⟩⟩
  have g : Gr M0 S H (upd S l (.tup ys)) (upd H l (.tup ys)) := .new e hl
  exact q _ _ _ g (R.mkT upd_same (h3.mono g.s))
theorem oc_listT {K : PySem.W.Frag} {xs : List D} : OC K C (fun vs H Q => ∃ p ys, vs = [.ref p] ∧ (SqL K H p ys ∨ SqT K H p ys) ∧ ∀ l, H l = none → Q (.ref l) (upd H l (.lst ys))) [.tup xs] (.lst xs) := fun S H vs e rr Q q => by
  obtain ⟨v, e1, h1⟩ := RL.one rr
  obtain ⟨p, ys, e2, h2, h3⟩ := R.tup_iff.mp h1
  subst e2 e1
  refine ⟨p, ys, rfl, .inr (Same.seqT e h2), fun l hl => ?_⟩
  have g : Gr M0 S H (upd S l (.lst ys)) (upd H l (.lst ys)) := .new e hl
  exact q _ _ _ g (R.mkL upd_same (h3.mono g.s))
theorem je_tupleL (z : Zb X.mg) (ha : JE X C V env a (· = .lst ds)) (hg : Gl X "tuple" := by rfl) (he : starEach [a] X.env = (false, eval a X.env) :: starEach [] X.env := by rfl) (hpl : (backTo pos (starEach [] X.env)).any (·.1) = false := by rfl) : JE X C V env (.Call (.Name "tuple" p) [a] [] pos) (· = .tup ds) :=
  je_Ty1 call_tuple_of hg z.tuple (by decide +kernel) (ja_cons ha ja_nil he) oc_tupL (by decide) (by decide) he hpl
theorem je_listT (z : Zb X.mg) (ha : JE X C V env a (· = .tup ds)) (hg : Gl X "list" := by rfl) (he : starEach [a] X.env = (false, eval a X.env) :: starEach [] X.env := by rfl) (hpl : (backTo pos (starEach [] X.env)).any (·.1) = false := by rfl) : JE X C V env (.Call (.Name "list" p) [a] [] pos) (· = .lst ds) :=
  je_Ty1 call_list_of hg z.list (by decide +kernel) (ja_cons ha ja_nil he) oc_listT (by decide) (by decide) he hpl
theorem je_abs (z : Zb X.mg) (ha : JE X C V env a (· = .int i)) (hg : Gl X "abs" := by rfl) (he : starEach [a] X.env = (false, eval a X.env) :: starEach [] X.env := by rfl) (hpl : (backTo pos (starEach [] X.env)).any (·.1) = false := by rfl) : JE X C V env (.Call (.Name "abs" p) [a] [] pos) (· = .int (i.natAbs : Int)) :=
  je_B1 call_abs hg z.abs (by decide +kernel) (ja_cons ha ja_nil he) oc_abs (by decide) (by decide) he hpl
/-- a list of so many whole numbers -/
def intS (k : Nat) : List D → Prop := fun l => ∃ xs : List Int, l = xs.map .int ∧ xs.length = k
theorem ja_int0 : JA X C V env [] (intS 0) := ja_nil.imp fun l e => ⟨[], e, rfl⟩
theorem ja_intS {es : List Expr} {k : Nat} (ha : JE X C V env e (isI Θ)) (hr : JA X C V env es (intS k)) (hs : starEach (e :: es) X.env = (false, eval e X.env) :: starEach es X.env := by rfl) : JA X C V env (e :: es) (intS (k + 1)) :=
  (ja_consR ha hr hs).imp fun l ⟨d, ds, e1, ⟨i, e2, _⟩, xs, e3, e4⟩ => ⟨i :: xs, by rw [e1, e2, e3]; rfl, by rw [List.length_cons, e4]⟩
/-- a call by what is known of the arguments -/
theorem je_calP {T : Tx} {j k : Nat} {x : Str} {ps : List Str} {es : List Expr} {Φs : List D → Prop} {Φ : D → Prop} {P : List D → D → Prop} (F : Fn X.prog X.w X.K X.mg X.base C T x k ps (pok P)) (hr : Room j X.A) (hk : k ≤ j) (ha : JA X C V env (e :: es) Φs) (hd : ∀ ds, Φs ds → ∃ z, P ds z ∧ Φ z) (hg : Gl X x := by rfl)
    (hdb : (x == ("__debug__" : Str)) = false := by decide) (he : starEach (e :: es) X.env = (false, eval e X.env) :: starEach es X.env := by rfl) (hpl : (backTo pos (starEach es X.env)).any (·.1) = false := by rfl) : JE X C V env (.Call (.Name x p) (e :: es) [] pos) Φ :=
  je_calG F hr hk ha (fun ds q => by
    obtain ⟨z, h1, h2⟩ := hd ds q
    obtain ⟨Ψ, a, b, c⟩ := pok_use (P := P) h1
    exact .inr ⟨Ψ, a, b, fun d hd => by rw [c d hd]; exact h2⟩) hg hdb he hpl
/-- lo <= x <= hi as a test -/
theorem jt_chainLe {i j k : Int} (ha : JE X C V env a (· = .int i)) (hb : JE X C V env b (· = .int j)) (hc : JE X C V env c (· = .int k)) (hm : lastMarks [.LtE, .LtE] [b, c] = false := by rfl) : JT X C V env (.Compare a [.LtE, .LtE] [b, c] pos) (· = (decide (i ≤ j) && decide (j ≤ k))) :=
  (pt_chain op_le op_le ha hb hc hm).weak fun σ H Q ⟨S, o, q⟩ => ⟨S, o, fun d1 v1 S1 H1 p1 g1 j1 r1 => ⟨S1, o.gr g1 j1, fun d2 v2 S2 H2 p2 g2 j2 r2 => by
    subst p1 p2
    rw [R.int_iff] at r1 r2
    subst r1 r2
    refine ⟨i, j, rfl, rfl, decide (i ≤ j), rfl, ?_⟩
    by_cases hij : i ≤ j
    · rw [decide_eq_true hij]
      refine iteT ⟨S2, (o.gr g1 j1).gr g2 j2, fun d3 v3 S3 H3 p3 g3 j3 r3 => ?_⟩
      subst p3
      rw [R.int_iff] at r3
      subst r3
      exact ⟨j, k, rfl, rfl, _, rfl, q _ S3 H3 (by rw [decide_eq_true hij, Bool.true_and]) ((g1.trans g2).trans g3) j3⟩
    · rw [decide_eq_false hij]
      exact iteF ⟨_, rfl, q _ S2 H2 (by rw [decide_eq_false hij, Bool.false_and]) (g1.trans g2) j2⟩⟩⟩
end
end RQ

/-! RqP: dicts of the module with text keys. -/
namespace RQ
open PySem PySem.Spec PyProof.Rows L2

structure GDct (K : PySem.W.Frag) (C : Addr) (w : World) (mg : Str → Option Value) (x : Str) (l : List (Str × D)) : Prop where
  ex : ∃ (a : Addr) (es : Array DictEntry) (n : Nat), mg x = some (.ref a) ∧ KDict K w a es n ∧ (∀ k d, l.lookup k = some d → ∃ u v, PySem.W.nsIn K a k = some (some u) ∧ RelV v u ∧ ∀ S, R K C S d v) ∧ (∀ k, l.lookup k = none → PySem.W.nsIn K a k = some none)
/-- an entry, as written: hash, key's token, value; what it is -/
structure GEn where
  k : Str
  h : Int
  t : Tok
  u : Value
  d : D
def GEn.e (q : GEn) : DictEntry := ⟨q.h, .str q.k q.t, q.u⟩
theorem gen_find : ∀ (l : List GEn) (k : Str), ((l.map GEn.e).find? (·.key.isStr k)).map DictEntry.val = (l.map fun q => (q.k, q.u)).lookup k
  | [], k => rfl
  | q :: l, k => by
    rw [List.map_cons, List.find?_cons, List.map_cons, List.lookup_cons]
    show (match (q.k == k) with | true => some q.e | false => (l.map GEn.e).find? (·.key.isStr k)).map DictEntry.val = _
    by_cases h : k = q.k
    · subst h; simp [GEn.e]
    · have h1 : (q.k == k) = false := by simpa using fun z => h z.symm
      have h2 : (k == q.k) = false := by simpa using h
      rw [h1, h2]
      exact gen_find l k
theorem gen_ns {K : PySem.W.Frag} {a : Addr} {es : Array DictEntry} {n : Nat} {l : List GEn} (hl : K.lookup a = some ⟨.type "dict", none, .dict es n, #[]⟩) (e : es = (l.map GEn.e).toArray) (k : Str) : PySem.W.nsIn K a k = some ((l.map fun q => (q.k, q.u)).lookup k) := by
  subst e
  unfold PySem.W.nsIn
  rw [hl]
  dsimp only
  rw [← gen_find l k]
  cases h : (l.map GEn.e).find? (·.key.isStr k) with
  | some e => rfl
  | none =>
    have : (l.map GEn.e).any (·.refKey) = false := by
      rw [List.any_map]
      apply List.any_eq_false.mpr
      intro x _ hx
      have : x.e.refKey = false := rfl
      rw [show ((fun x => x.refKey) ∘ GEn.e) x = x.e.refKey from rfl, this] at hx
      cases hx
    simp only [this]
    rfl
theorem lookup_map2 {α β γ : Type} {f : α → Str} {g : α → β} {g2 : α → γ} {P : α → Prop} : ∀ (l : List α) (k : Str), (∀ q ∈ l, P q) → (∀ d, List.lookup k (l.map fun q => (f q, g2 q)) = some d → ∃ q, P q ∧ List.lookup k (l.map fun q => (f q, g q)) = some (g q) ∧ d = g2 q) ∧ (List.lookup k (l.map fun q => (f q, g2 q)) = none → List.lookup k (l.map fun q => (f q, g q)) = none)
  | [], k, _ => ⟨(fun d h => by cases h), fun _ => rfl⟩
  | q :: l, k, hp => by
    have ih := lookup_map2 (f := f) (g := g) (g2 := g2) l k fun q h => hp q (List.mem_cons_of_mem _ h)
    simp only [List.map_cons, List.lookup_cons]
    by_cases h : (k == f q) = true
    · rw [h]
      exact ⟨fun d e => ⟨q, hp q List.mem_cons_self, rfl, (Option.some.inj e).symm⟩, fun e => by cases e⟩
    · have h' : (k == f q) = false := by simpa using h
      rw [h']
      exact ih
theorem gdct_mk {K : PySem.W.Frag} {C : Addr} {w : World} {mg : Str → Option Value} {x : Str} {a : Addr} {es : Array DictEntry} {n : Nat} (l : List GEn) (hm : mg x = some (.ref a)) (hl : K.lookup a = some ⟨.type "dict", none, .dict es n, #[]⟩) (e : es = (l.map GEn.e).toArray) (hlow : (a == sysModules) = false)
    (hh : ∀ q ∈ l, q.h = PyData.keyHash w.params q.k) (hr : ∀ q ∈ l, ∃ v, RelV v q.u ∧ ∀ S, R K C S q.d v) : GDct K C w mg x (l.map fun q => (q.k, q.d)) := by
  refine ⟨a, es, n, hm, ⟨hl, ?_, hlow⟩, fun k d hd => ?_, fun k hd => ?_⟩
  · subst e
    rw [List.toList_toArray]
    clear hr hl
    induction l with
    | nil => trivial
    | cons q l ih => exact ⟨⟨q.k, q.t, rfl, hh q List.mem_cons_self⟩, ih fun q h => hh q (List.mem_cons_of_mem _ h)⟩
  · obtain ⟨q, hq, h1, h2⟩ := (lookup_map2 (f := GEn.k) (g := GEn.u) (g2 := GEn.d) (P := fun q => ∃ v, RelV v q.u ∧ ∀ S, R K C S q.d v) l k hr).1 d hd
    obtain ⟨v, h3, h4⟩ := hq
    subst h2
    exact ⟨q.u, v, by rw [gen_ns hl e, h1], h3, h4⟩
  · rw [gen_ns hl e, (lookup_map2 (f := GEn.k) (g := GEn.u) (g2 := GEn.d) (P := fun _ => True) l k fun _ _ => trivial).2 hd]
section
variable {X : Cx} {C : Addr} {V : Vo} {env : List En} {a b : Expr} {pos p : Pos} {d : D} {x k : Str} {l : List (Str × D)}
/-- X[k] -/
theorem je_gdget (G : GDct X.K C X.w X.mg x l) (hb : JE X C V env b (· = .str k)) (h : l.lookup k = some d) (hg : Gl X x := by rfl) (hs : PlainIx b := by exact fun _ _ => rfl) (hdb : (x == ("__debug__" : Str)) = false := by decide) : JE X C V env (.Subscript (.Name x p) b pos) (· = d) := by
  obtain ⟨q, es, n, h1, h2, h3, _⟩ := G.ex
  obtain ⟨u, v, h4, h5, h6⟩ := h3 k d h
  refine je_ix (Φa := (· = .raw (.ref q))) ix_kdict (je_c (fun S => R.raw_iff.mpr rfl) (pe_glob (v := .ref q) hg h1 rfl hdb)) hb hs fun x' y' e1 e2 => ⟨d, rfl, ?_⟩
  subst e1 e2
  refine o2_of fun S H a b e r1 r2 => ?_
  rw [R.raw_iff] at r1
  rw [R.str_iff] at r2
  subst r1 r2
  exact ⟨v, h6 S, fun Q hq => ⟨q, k, v, rfl, rfl, ⟨es, n, u, h2.at_, h2.lit, h4, h5⟩, hq⟩⟩
theorem GDct.ns {K : PySem.W.Frag} {w : World} {mg : Str → Option Value} (G : GDct K C w mg x l) : ∃ (q : Addr) (es : Array DictEntry) (n : Nat), mg x = some (.ref q) ∧ KDict K w q es n ∧ ∀ k, ∃ r : Option Value, PySem.W.nsIn K q k = some r ∧ r.isSome = (l.lookup k).isSome := by
  obtain ⟨q, es, n, h1, h2, h3, h4⟩ := G.ex
  refine ⟨q, es, n, h1, h2, fun k => ?_⟩
  cases h : l.lookup k with
  | none => exact ⟨none, h4 k h, rfl⟩
  | some d =>
    obtain ⟨u, v, h5, _⟩ := h3 k d h
    exact ⟨some u, h5, rfl⟩
/-- k in X, k not in X -/
theorem je_inGD (G : GDct X.K C X.w X.mg x l) (ha : JE X C V env a (· = .str k)) (hg : Gl X x := by rfl) (hdb : (x == ("__debug__" : Str)) = false := by decide) : JE X C V env (.Compare a [.In] [.Name x p] pos) (· = .bl (l.lookup k).isSome) := by
  obtain ⟨q, es, n, h1, h2, h3⟩ := G.ns
  refine je_cmp1 (op_in_kd h2) ha (je_c (x := .raw (.ref q)) (fun S => R.raw_iff.mpr rfl) (pe_glob (v := .ref q) hg h1 rfl hdb)) (o2_of fun S H a b e r1 r2 => ?_) rfl
  rw [R.str_iff] at r1
  rw [R.raw_iff] at r2
  subst r1 r2
  obtain ⟨r, h4, h5⟩ := h3 k
  exact ⟨_, R.bl_iff.mpr rfl, fun Q hq => ⟨k, r, rfl, rfl, h4, by rw [h5]; exact hq⟩⟩
theorem jt_niGD (G : GDct X.K C X.w X.mg x l) (ha : JE X C V env a (· = .str k)) (hg : Gl X x := by rfl) (hdb : (x == ("__debug__" : Str)) = false := by decide) : JT X C V env (.Compare a [.NotIn] [.Name x p] pos) (· = !(l.lookup k).isSome) := by
  obtain ⟨q, es, n, h1, h2, h3⟩ := G.ns
  refine jt_cmp1 (op_notIn_kd h2) ha (je_c (x := .raw (.ref q)) (fun S => R.raw_iff.mpr rfl) (pe_glob (v := .ref q) hg h1 rfl hdb)) (o2_of fun S H a b e r1 r2 => ?_) rfl
  rw [R.str_iff] at r1
  rw [R.raw_iff] at r2
  subst r1 r2
  obtain ⟨r, h4, h5⟩ := h3 k
  exact ⟨_, R.bl_iff.mpr rfl, fun Q hq => ⟨k, r, rfl, rfl, h4, by rw [h5]; exact hq⟩⟩
theorem je_neS {s t : Str} (hu : X.A.units + 64 < cLine) (ha : JE X C V env a (· = .str s)) (hb : JE X C V env b (· = .str t)) (h1 : okD (.str s) = true := by decide +kernel) (h2 : okD (.str t) = true := by decide +kernel) : JE X C V env (.Compare a [.NotEq] [b] pos) (· = .bl (!decide (s = t))) := (je_ne hu ha hb h1 h2).to (by rw [dec_beqS])
end
end RQ

/-! RqQ: lists that are not told exactly. -/
namespace RQ
open PySem PySem.Spec PyProof.Rows L2
section
variable {X : Cx} {C : Addr} {V : Vo} {env : List En} {e a b : Expr} {pos : Pos} {Φ : D → Prop} {Φs : List D → Prop} {Θ Θa : Int → Prop}
/-- so many whole numbers, of each of which something is known -/
def intT (Θ : Int → Prop) (k : Nat) : List D → Prop := fun l => ∃ xs : List Int, l = xs.map .int ∧ xs.length = k ∧ ∀ x ∈ xs, Θ x
theorem ja_intT0 : JA X C V env [] (intT Θ 0) := ja_nil.imp fun l e => ⟨[], e, rfl, fun _ h => by cases h⟩
theorem ja_intTS {es : List Expr} {k : Nat} (ha : JE X C V env e (isI Θa)) (hw : ∀ i, Θa i → Θ i) (hr : JA X C V env es (intT Θ k)) (hs : starEach (e :: es) X.env = (false, eval e X.env) :: starEach es X.env := by rfl) : JA X C V env (e :: es) (intT Θ (k + 1)) :=
  (ja_consR ha hr hs).imp fun l ⟨d, ds, e1, ⟨i, e2, h2⟩, xs, e3, e4, e5⟩ => ⟨i :: xs, by rw [e1, e2, e3]; rfl, by rw [List.length_cons, e4], fun x hx => by
    rcases List.mem_cons.mp hx with h | h
    · rw [h]; exact hw i h2
    · exact e5 x h⟩
/-- an item of such a list at a drawn place -/
theorem je_ixLRR {n : Int} (ha : JE X C V env a (fun d => ∃ ds, d = .lst ds ∧ Φs ds)) (hb : JE X C V env b (fun d => ∃ i : Int, d = .int i ∧ 0 ≤ i ∧ i < n)) (hn : ∀ ds, Φs ds → n ≤ ds.length) (hΦ : ∀ ds, Φs ds → ∀ d, d ∈ ds → Φ d) (hs : PlainIx b := by exact fun _ _ => rfl) : JE X C V env (.Subscript a b pos) Φ :=
  je_ix ix_list ha hb hs fun x' y' ⟨ds, e1, h3⟩ ⟨i, e2, h0, h1⟩ => by
    subst e1 e2
    have h4 := hn ds h3
    have hl : i.toNat < ds.length := by omega
    refine ⟨ds[i.toNat], hΦ ds h3 _ (List.getElem_mem hl), ?_⟩
    have e : i = (i.toNat : Int) := by omega
    have h := o2_ixL (K := X.K) (C := C) (List.getElem?_eq_getElem hl)
    rw [← e] at h
    exact h
theorem je_intL {es : List Expr} {k : Nat} {pos : Pos} (h : JA X C V env es (intT Θ k)) (hk : k ≤ 1000000 := by decide) : JE X C V env (.List es pos) (fun d => ∃ ds, d = .lst ds ∧ intT Θ k ds) := je_lstR h fun ds ⟨xs, e1, e2, e3⟩ => ⟨by rw [e1, List.length_map, e2]; exact hk, ds, rfl, xs, e1, e2, e3⟩
theorem intT_len {k : Nat} {ds : List D} (h : intT Θ k ds) : ds.length = k := by
  obtain ⟨xs, e1, e2, _⟩ := h
  rw [e1, List.length_map, e2]
theorem intT_mem {k : Nat} {ds : List D} (h : intT Θ k ds) : ∀ d ∈ ds, isI Θ d := fun d hd => by
  obtain ⟨xs, e1, e2, e3⟩ := h
  rw [e1] at hd
  obtain ⟨i, hi, e⟩ := List.mem_map.mp hd
  exact ⟨i, e.symm, e3 i hi⟩
end
theorem gv_str {K : PySem.W.Frag} {C : Addr} {x : Str} {t : Tok} : ∃ v, RelV v (.str x t) ∧ ∀ S, R K C S (.str x) v := ⟨.str x, ⟨t, rfl⟩, fun S => R.str_iff.mpr rfl⟩
theorem gv_tup {K : PySem.W.Frag} {C : Addr} {a : Addr} {o : Obj} {its : Array Value} {k : Nat} {xs : List L2.V} {ds : List D} (h1 : K.lookup a = some o) (h2 : o.cls = .type "tuple") (h3 : o.data = .seq its k) (h4 : its.size ≤ sizeLine) (h5 : Vals xs its.toList) (h6 : ∀ S, RL K C S ds xs) : ∃ v, RelV v (.ref a) ∧ ∀ S, R K C S (.tup ds) v :=
  ⟨.ref a, rfl, fun S => R.tup_iff.mpr ⟨a, xs, rfl, .inr ⟨o, its, k, h1, h2, h3, h4, h5⟩, h6 S⟩⟩
end RQ

/-! RqR: reversed slices, slices and parts of texts, dicts with text keys that stand. -/
namespace RQ
open PySem PySem.Spec PyProof.Rows L2

/-! ### t[::-1] of a tuple -/
section
variable {prog : Program} {w : World} {A : Around} {E : Value → Shared → Prop} {s : Shared}
theorem rev_adjust (n : Nat) : Builtin.Slice.sliceAdjust none none (-1) (n : Int) = ((n : Int) - 1, -1) := by
  have h1 : ((-1 : Int) < 0) := by decide
  unfold Builtin.Slice.sliceAdjust
  simp only [h1, if_true]
theorem rev_places (n : Nat) : Builtin.Slice.slicePlaces ((n : Int) - 1) (-1) (-1) = n := by
  unfold Builtin.Slice.slicePlaces
  have h1 : ¬ ((-1 : Int) > 0) := by decide
  simp only [h1, if_false]
  by_cases h : ((n : Int) - 1 > -1)
  · rw [if_pos h]
    have : ((n : Int) - 1 - -1 - 1) / - -1 + 1 = n := by
      rw [show (- -1 : Int) = 1 by decide, Int.ediv_one]; omega
    rw [this]; omega
  · rw [if_neg h]; omega
theorem sliceApplied_rev {sl : Addr} {vs : Value} {n : Nat} {Q : Int × Int × Nat → Shared → Prop} (hs : s.heap.IsSliceOf sl .none .none vs) (ps : IsPart vs (some (-1)))
    (h : Q ((n : Int) - 1, -1, n) s) : wpAny (model prog w) A (Builtin.Slice.sliceApplied (.ref sl) (pure (n : Int))) Q E s := by
  obtain ⟨os, hos, hcs, hds⟩ := id hs
  unfold Builtin.Slice.sliceApplied Builtin.Slice.sliceFields
  refine wpAny_bind (wpAny_bind (wpAny_field hos hds (x := .none) rfl (wpAny_bind (wpAny_field hos hds (x := .none) rfl (wpAny_bind (wpAny_field hos hds (x := vs) rfl (wpAny_pure ?_)))))))
  refine wpAny_bind (HT.slicePart_ ps ?_)
  show wpAny _ _ (if ((-1 : Int) == 0) = true then _ else _) _ _ s
  rw [if_neg (by decide)]
  refine wpAny_bind (slicePart_none (wpAny_bind (slicePart_none (wpAny_bind (wpAny_pure ?_)))))
  show wpAny _ _ (match Builtin.Slice.sliceAdjust none none (-1) (n : Int) with | (lo, hi) => pure (lo, (-1 : Int), Builtin.Slice.slicePlaces lo hi (-1))) _ _ s
  rw [rev_adjust n]
  show wpAny _ _ (pure ((n : Int) - 1, (-1 : Int), Builtin.Slice.slicePlaces ((n : Int) - 1) (-1) (-1))) _ _ s
  rw [rev_places]
  exact wpAny_pure h
theorem rev_pick (xs : Array Value) : ((List.range xs.size).filterMap fun (m : Nat) => xs[((xs.size : Int) - 1 + (m : Int) * -1).toNat]?).toArray = xs.toList.reverse.toArray := by
  have e : ((List.range xs.size).filterMap fun (m : Nat) => xs[((xs.size : Int) - 1 + (m : Int) * -1).toNat]?) = ((List.range xs.size).map fun k => xs.size - 1 - k).filterMap (xs[·]?) := by
    rw [List.filterMap_map]
    congr 1
    funext m
    show xs[((xs.size : Int) - 1 + (m : Int) * -1).toNat]? = xs[xs.size - 1 - m]?
    rw [show ((xs.size : Int) - 1 + (m : Int) * -1).toNat = xs.size - 1 - m by omega]
  rw [e, PySem.W.krv_range, List.filterMap_reverse, PySem.W.krv_all]
theorem getItem_tuple_rev {t sl : Addr} {items : Array Value} {vs : Value} {Q : Value → Shared → Prop} (ht : IsTup s.heap t items) (hs : s.heap.IsSliceOf sl .none .none vs) (ps : IsPart vs (some (-1)))
    (h : Q (.ref s.heap.objs.size) { s with heap := s.heap.push { cls := .type "tuple", data := .seq items.toList.reverse.toArray } })
    (hsz : items.size ≤ sizeLine) : wpAny (model prog w) A (getItem (.ref t) (.ref sl)) Q E s := by
  have htake : sizeOk (.seq items.toList.reverse.toArray) := by
    show items.toList.reverse.toArray.size ≤ sizeLine
    rw [List.size_toArray, List.length_reverse, Array.length_toList]
    exact hsz
  obtain ⟨os, hos, hcs, hds⟩ := id hs
  have hTs : s.TypeIs (.ref sl) "slice" := ⟨os, hos, hcs⟩
  unfold getItem
  try with_reducible refine wpAny_holding ?_
  first | refine wpAny_bind (wpAny_pure ?_) | skip
  refine wpAny_bind (wpAny_sequenceKey ht.typeIs (by decide) ?_)
  refine wpAny_bind (wpAny_callSpecial?_slot (name := Str.ofString "__getitem__") ht.typeIs PyProof.Rows.slot_tuple_getitem
    (wpAny_call_entry PyProof.Rows.slot_tuple_getitem ht.typeIs entry_tuple_getitem ?_ (args_tuple_getitem _ _)))
  show wpAny _ _ (Builtin.Tuple.tupleItemsOf (.ref t) >>= _) _ _ s
  refine wpAny_bind (tupleItemsOf_ ht ?_)
  refine wpAny_bind (wpAny_typeOf hTs ?_)
  rw [if_pos (by decide)]
  refine wpAny_bind (sliceApplied_rev hs ps ?_)
  have hno : ¬ ((((items.size : Int) - 1) == 0 && (-1 : Int) == 1 && items.size == items.size) = true) := by
    intro q
    rw [Bool.and_eq_true, Bool.and_eq_true] at q
    exact absurd q.1.2 (by decide)
  show wpAny _ _ (if ((((items.size : Int) - 1) == 0 && (-1 : Int) == 1 && items.size == items.size) = true) then _ else _) _ _ s
  rw [if_neg hno, rev_pick]
  first
    | exact wpAny_bind (m := Builtin.Tuple.tupleExact _) (wpAny_newObj_type (wpAny_pure ⟨_, rfl, wpAny_pure h⟩) htake)
    | exact wpAny_bind (m := Builtin.Tuple.tupleExact _) (wpAny_newObj_type (wpAny_bind (wpAny_pure (wpAny_pure ⟨_, rfl, wpAny_pure h⟩))) htake)
    | exact wpAny_bind (wpAny_bind (m := Builtin.Tuple.tupleExact _) (wpAny_newObj_type (wpAny_pure (wpAny_pure ⟨_, rfl, wpAny_pure h⟩)) htake))
    | exact wpAny_bind (wpAny_bind (m := Builtin.Tuple.tupleExact _) (wpAny_newObj_type (wpAny_pure ⟨_, rfl, wpAny_pure h⟩) htake))
end
def tRevT (K : PySem.W.Frag) (te : TE) : TE := fun σ H Q => te σ H fun x H1 => ∃ a xs, x = .ref a ∧ SqT K H1 a xs ∧ ∀ p, H1 p = none → Q (.ref p) (upd H1 p (.tup xs.reverse))
theorem pe_revT {X : Cx} {e : Expr} {te : TE} {k : Nat} {p1 p2 p3 pos : Pos} (he : PE X e te) : PE X (.Subscript e (.Slice none none (some (.UnaryOp .USub (.Constant (.int 1) k p1) p2)) p3) pos) (tRevT X.K te) := by
  refine ⟨fun pins s σ H Q I h => ?_⟩
  refine Subscript_ (thn (he.run pins s σ H _ I h) fun v s1 ⟨x, H1, I1, r1, q1⟩ => ?_)
  obtain ⟨a, xs, ex, hx, q⟩ := q1
  subst ex
  cases r1
  have hst : PO X (some (.UnaryOp .USub (.Constant (.int 1) k p1) p2)) (tPart (tUn (rU fun i => .int (-i)) (tC (.int 1)))) := po_some (pe_un un_neg pe_int)
  refine wpAny_Slice (thn (po_none.run pins s1 σ H1 (fun o H2 => o = none ∧ H2 = H1) I1 ⟨rfl, rfl⟩) fun vl s2 ⟨l, H2, I2, pl, el, e2⟩ => ?_)
  subst el e2
  refine thn (po_none.run pins s2 σ H2 (fun o H3 => o = none ∧ H3 = H2) I2 ⟨rfl, rfl⟩) fun vu s3 ⟨u, H3, I3, pu, eu, e3⟩ => ?_
  subst eu e3
  refine thn (hst.run pins s3 σ H3 (fun o H4 => o = some (-1) ∧ H4 = H3) I3 ⟨1, rfl, -1, rfl, rfl, rfl⟩) fun vs s4 ⟨o, H4, I4, ps, eo, e4⟩ => ?_
  subst eo e4
  cases pl
  cases pu
  have I5 : Inv X pins σ H4 { s4 with heap := s4.heap.push { cls := .type "slice", data := .fields #[.none, .none, vs] } } := I4.kept (t' := s4.toks) fun b ob q => Heap.get?_push_of_some _ q
  obtain ⟨its, r, ht, hz⟩ := I5.tuple hx
  have hlen := r.length
  show wpAny (model X.prog X.w) X.A (subscriptTail e (.Slice none none (some (.UnaryOp .USub (.Constant (.int 1) k p1) p2)) p3) (.ref a) (.ref s4.heap.objs.size)) (EP X pins σ Q) X.xe { s4 with heap := s4.heap.push { cls := .type "slice", data := .fields #[.none, .none, vs] } }
  refine tail_any (ops := [.ref a, .ref s4.heap.objs.size]) ht.typeIs PyProof.Rows.slot_tuple_getitem.lookup ?_ (by with_unfolding_all rfl)
  refine getItem_tuple_rev ht (Heap.IsSliceOf.new _ .none .none vs) ps ?_ (by rw [List.size_toArray]; omega)
  refine ⟨.ref _, _, I5.laid (t' := s4.toks) (o := .tup xs.reverse) (fun b ob q => Heap.get?_push_of_some _ q) (Nat.le_refl _) ?_, rfl, q _ (I5.hok.fresh (Nat.le_refl _))⟩
  exact ⟨by rw [List.length_reverse]; exact hz, _, r.reverse, _, Heap.get?_push_size _ rfl, rfl, _, rfl⟩
section
variable {X : Cx} {C : Addr} {V : Vo} {env : List En} {e a b : Expr} {pos p p1 p2 p3 : Pos} {ds : List D} {k : Nat} {x z : D} {w u : Str}
theorem je_revT (ha : JE X C V env a (· = .tup ds)) : JE X C V env (.Subscript a (.Slice none none (some (.UnaryOp .USub (.Constant (.int 1) k p1) p2)) p3) pos) (· = .tup ds.reverse) :=
  (pe_revT ha).weak fun σ H Q ⟨S, o, q⟩ => ⟨S, o, fun d v S' H' p1 g j r => by
    subst p1
    obtain ⟨y, xs, e1, h1, h2⟩ := R.tup_iff.mp r
    refine ⟨y, xs, e1, Same.seqT g.sub h1, fun p hp => ?_⟩
    have g2 : Gr M0 S' H' (upd S' p (.tup xs.reverse)) (upd H' p (.tup xs.reverse)) := .new g.sub hp
    exact q _ _ _ _ rfl (g.trans g2.up0) (V.gr0 g2 j) (R.mkT upd_same (h2.mono g2.s).reverse)⟩
theorem je_revL (ha : JE X C V env a (· = .lst ds)) : JE X C V env (.Subscript a (.Slice none none (some (.UnaryOp .USub (.Constant (.int 1) k p1) p2)) p3) pos) (· = .lst ds.reverse) :=
  (pe_revL ha).weak fun σ H Q ⟨S, o, q⟩ => ⟨S, o, fun d v S' H' p1 g j r => by
    subst p1
    obtain ⟨y, xs, e1, h1, h2⟩ := R.lstL r
    refine ⟨y, xs, e1, g.sub.seq h1, fun p hp => ?_⟩
    have g2 : Gr M0 S' H' (upd S' p (.lst xs.reverse)) (upd H' p (.lst xs.reverse)) := .new g.sub hp
    exact q _ _ _ _ rfl (g.trans g2.up0) (V.gr0 g2 j) (R.mkL upd_same (h2.mono g2.s).reverse)⟩
/-- xs[-1] -/
theorem je_lastL {jj : Nat} (ha : JE X C V env a (· = .lst ds)) (h : ds.getLast? = some z) : JE X C V env (.Subscript a (.UnaryOp .USub (.Constant (.int 1) jj p1) p2) pos) (· = z) :=
  je_ix ix_list ha (je_nint (X := X) (C := C) (V := V) (env := env) (k := 1)) (fun _ _ => rfl) fun x' y' e1 e2 => ⟨z, rfl, by
    subst e1 e2
    refine o2_of fun S H u v e r1 r2 => ?_
    obtain ⟨p, xs, e1, h1, h2⟩ := R.lstL r1
    rw [R.int_iff] at r2
    subst e1 r2
    have hl := h2.length
    have hne : ds ≠ [] := fun z => by rw [z] at h; cases h
    have hpos : 0 < ds.length := List.length_pos_iff.mpr hne
    rw [List.getLast?_eq_getElem?] at h
    obtain ⟨w, h3, h4⟩ := h2.get h
    refine ⟨w, h4, fun Q q => ⟨p, xs, _, w, rfl, rfl, e.seq h1, ?_, q⟩⟩
    rw [← hl] at h3
    have e2 : ixN xs.length (-1) = some (xs.length - 1) := by
      unfold ixN
      rw [if_neg (by decide), if_pos (by omega)]
      congr 1
      omega
    show (ixN xs.length (-1)).bind (fun j => xs[j]?) = some w
    rw [e2]
    exact h3⟩
/-! texts -/
theorem je_slStr (ha : JE X C V env a (· = .str w)) (hb : JE X C V env b (· = .int (k : Int))) (hw : w.length ≤ 1000000) (hu : cutS w none (some (k : Int)) = u) : JE X C V env (.Subscript a (.Slice none (some b) none p2) pos) (· = .str u) :=
  (pe_slice sl_str ha po_none (po_some hb)).weak fun σ H Q ⟨S, o, q⟩ => ⟨S, o, fun d v S1 H1 p1 g1 j1 r1 => by
    subst p1
    show tJ _ _ _ _ _ σ H1 _
    refine ⟨S1, o.gr g1 j1, fun d2 v2 S2 H2 p2 g2 j2 r2 => ?_⟩
    subst p2
    rw [R.int_iff] at r2
    rw [R.str_iff] at r1
    subst r2 r1
    exact ⟨(k : Int), rfl, w, rfl, small hw, q _ _ S2 H2 rfl (g1.trans g2) j2 (R.str_iff.mpr (by rw [hu]))⟩⟩
theorem je_split {apos : Pos} (ha : JE X C V env a (· = .str w)) (hb : JE X C V env b (· = .str u)) (hu : (u.length == 0) = false) (hw : w.length ≤ 1000000) (hs : starEach [b] X.env = [(false, eval b X.env)] := by rfl) (hbase : attributeBase a "split" X.env (eval a X.env) = eval a X.env := by rfl) (hline : (apos.endLine == pos.line) = true := by rfl) :
    JE X C V env (.Call (.Attribute a "split" apos) [b] [] pos) (· = .lst ((Txt.split w u).map .str)) :=
  (pe_split ha hb hs hbase hline).weak fun σ H Q ⟨S, o, q⟩ => ⟨S, o, fun d v S1 H1 p1 g1 j1 r1 => by
    subst p1
    rw [R.str_iff] at r1
    subst r1
    refine ⟨⟨w, rfl⟩, S1, o.gr g1 j1, fun d2 v2 S2 H2 p2 g2 j2 r2 => ?_⟩
    subst p2
    rw [R.str_iff] at r2
    subst r2
    refine ⟨w, u, rfl, rfl, hu, ?_, fun p hp => ?_⟩
    · have : (1000002 : Nat) ≤ sizeLine := by rw [sizeLine_eq]; decide
      omega
    · have g3 : Gr M0 S2 H2 (upd S2 p (.lst ((Txt.split w u).map L2.V.str))) (upd H2 p (.lst ((Txt.split w u).map L2.V.str))) := .new g2.sub hp
      exact q _ _ _ _ rfl ((g1.trans g2).trans g3.up0) (V.gr0 g3 j2) (R.mkL upd_same (RL.strs _))⟩
def inS (w u : Str) : Bool := !(Builtin.Str.occurrences u w 0 u.length 1).isEmpty
theorem je_inS (ha : JE X C V env a (· = .str w)) (hb : JE X C V env b (· = .str u)) (hm : behindInMarks .In b = false := by rfl) : JE X C V env (.Compare a [.In] [b] pos) (· = .bl (inS w u)) := je_cmp1 op_in_str ha hb (o2_of fun S H x y e r1 r2 => by
  rw [R.str_iff] at r1 r2
  subst r1 r2
  exact ⟨_, R.bl_iff.mpr rfl, fun Q q => ⟨w, u, rfl, rfl, q⟩⟩) hm
theorem jt_inS (ha : JE X C V env a (· = .str w)) (hb : JE X C V env b (· = .str u)) (hm : behindInMarks .In b = false := by rfl) : JT X C V env (.Compare a [.In] [b] pos) (· = inS w u) := jt_cmp1 op_in_str ha hb (o2_of fun S H x y e r1 r2 => by
  rw [R.str_iff] at r1 r2
  subst r1 r2
  exact ⟨_, R.bl_iff.mpr rfl, fun Q q => ⟨w, u, rfl, rfl, q⟩⟩) hm
theorem jt_niL (ha : JE X C V env a (· = x)) (hb : JE X C V env b (· = .lst ds)) (hx : flat x = true) (hd : ds.all flat = true) (hm : behindInMarks .NotIn b = false := by rfl) : JT X C V env (.Compare a [.NotIn] [b] pos) (· = !inD x ds) := jt_cmp1 op_notIn_seq ha hb (o2_inL true hx hd) hm
/-! dicts with text keys -/
theorem KVR.keys' {K : PySem.W.Frag} {S : Hp} : ∀ {l : List (Str × D)} {kvs : List (Key × L2.V)}, KVR K C S l kvs → kvs.map (·.1) = (l.map (·.1)).map Sum.inr ∧ RL K C S (l.map (·.2)) (kvs.map (·.2))
  | [], _, h => by cases h; exact ⟨rfl, RL.nil⟩
  | (k, d) :: r, _, ⟨v, t, e1, h1, h2⟩ => by
    subst e1
    obtain ⟨i1, i2⟩ := KVR.keys' h2
    exact ⟨by rw [List.map_cons, List.map_cons, List.map_cons, i1], RL.cons h1 i2⟩
theorem kvr_of {K : PySem.W.Frag} {S : Hp} : ∀ {ks : List Str} {ds : List D} {kvs : List (Key × L2.V)}, kvs.map (·.1) = ks.map Sum.inr → RL K C S ds (kvs.map (·.2)) → KVR K C S (ks.zip ds) kvs
  | [], ds, kvs, h, r => by
    have : kvs = [] := by simpa using h
    subst this
    cases ds <;> exact rfl
  | k :: ks, ds, kvs, h, r => by
    obtain ⟨⟨k', v⟩, t, rfl⟩ : ∃ q t, kvs = q :: t := by
      cases kvs with
      | nil => cases h
      | cons q t => exact ⟨q, t, rfl⟩
    have h' : k' = Sum.inr k ∧ t.map (·.1) = ks.map Sum.inr := by simpa using h
    cases ds with
    | nil => rw [List.map_cons] at r; have := RL.nil_iff.mp r; cases this
    | cons d ds =>
      rw [List.map_cons] at r
      obtain ⟨v', r', e, h1, h2⟩ := RL.cons_iff.mp r
      cases e
      exact ⟨v, t, by rw [h'.1], h1, kvr_of h'.2 h2⟩
theorem je_dctE {keys : List (Option Expr)} {vals : List Expr} {l : List (Str × D)} (hp : JP X C V env p keys vals l) (hd : (l.map (·.1)).Nodup) (h15 : l.length ≤ 15) (hall : keys.all (·.isSome) = true := by rfl) (hl : keys.length = vals.length := by rfl) (h0 : keys ≠ [] := by exact fun z => nomatch z) (hk15 : keys.length ≤ 15 := by decide) :
    JE X C V env (.Dict keys vals p) (· = .dct (l.map (·.1)) (l.map (·.2))) := by
  obtain ⟨trs, h1, h2⟩ := hp.ex
  refine (pe_disp h1 hall hl h0 hk15).weak fun σ H Q ⟨S, o, q⟩ => fun a ha => ?_
  have sa : S a = none := by
    cases w : S a with
    | none => rfl
    | some u => rw [o.sub a u w] at ha; cases ha
  have ma := V.new ha o.j
  have g0 : Gr V.M S H S (upd H a (.dK [])) := Gr.mine o.sub ha
  refine h2 σ S _ _ (o.gr g0 (V.gr0 (Gr.mine o.sub ha) o.j)) fun kvs S1 H1 g1 j1 r1 => ?_
  have ha1 : H1 a = some (.dK []) := g1.h a _ ma upd_same
  have sa1 : S1 a = none := g1.n a _ upd_same sa
  refine ⟨ha1, kvs, rfl, by rw [r1.len]; exact h15, ?_⟩
  have g2 : Gr V.M S H S1 (upd H1 a (.dK (mergeK [] kvs))) := (g0.trans g1).mut sa1 ha
  have j2 : V.J S1 (upd H1 a (.dK (mergeK [] kvs))) := V.mut ma sa1 g1.sub j1
  have hm : mergeK [] kvs = kvs := by
    have := mergeK_nodup (more := kvs) (acc := []) (by
      rw [List.nil_append, r1.keys]
      have : (l.map fun p => (Sum.inr p.1 : Key)) = (l.map (·.1)).map Sum.inr := by simp
      rw [this]
      unfold List.Nodup at hd ⊢
      rw [List.pairwise_map]
      exact hd.imp fun h e => h (by cases e; rfl))
    simpa using this
  rw [hm] at g2 j2 ⊢
  have g3 : Gr V.M S H (upd S1 a (.dK kvs)) (upd H1 a (.dK kvs)) := g2.rel sa1 ha upd_same
  have ss : Same S1 (upd S1 a (.dK kvs)) := fun b u q => by rw [upd_ne (ne_of_none q sa1)]; exact q
  obtain ⟨i1, i2⟩ := KVR.keys' (r1.mono ss)
  exact q _ (.ref a) _ _ rfl g3 (V.rel ma sa1 upd_same g2.sub j2) (R.dct_iff.mpr ⟨a, kvs, rfl, .inl upd_same, i1, i2⟩)
/-- x[k], x a dict that stands -/
theorem je_dctG {ks : List Str} (hu : X.A.units + 1 < cLine) (ha : JE X C V env a (· = .dct ks ds)) (hb : JE X C V env b (· = .str w)) (hz : (ks.zip ds).lookup w = some z) (hs : NoSl b := by exact fun _ _ => rfl) : JE X C V env (.Subscript a b pos) (· = z) :=
  (pe_dget hu ha hb hs).weak fun σ H Q ⟨S, o, q⟩ => ⟨S, o, fun d v S1 H1 p1 g1 j1 r1 => ⟨S1, o.gr g1 j1, fun d2 v2 S2 H2 p2 g2 j2 r2 => by
    subst p1 p2
    rw [R.str_iff] at r2
    subst r2
    obtain ⟨a, kvs, e1, h1, h2, h3⟩ := R.dct_iff.mp r1
    subst e1
    obtain ⟨v, hv, rv⟩ := (kvr_of h2 (h3.mono g2.s)).get hz
    refine ⟨a, v, rfl, ?_, q z v S2 H2 rfl (g1.trans g2) j2 rv⟩
    have : DGet H2 a (kV (.inr w)) (valV kvs (.inr w)) := .inl ⟨kvs, .inr w, Same.rd g2.sub (Same.rd g2.s h1), rfl, rfl⟩
    rw [hv] at this
    exact this⟩⟩
end
end RQ

/-! RqS: for k in d, d a dict with text keys that stands. -/
namespace RQ
open PySem PySem.Spec PyProof.Rows L2

/-- the one place a changes between a dict and the same dict locked -/
structure Swp (S S' : Hp) (a : Addr) (kvs : List (Key × L2.V)) : Prop where
  ne : ∀ b, b ≠ a → S' b = S b
  one : Rd S a (.dK kvs)
  two : Rd S' a (.dK kvs)
section
variable {K : PySem.W.Frag} {C : Addr} {S S' : Hp} {a : Addr} {kvs : List (Key × L2.V)}
theorem Swp.o (h : Swp S S' a kvs) {b : Addr} {o : HO} (e : S b = some o) (n1 : o ≠ .dK kvs) (n2 : ∀ q, o ≠ .frz q (.dK kvs)) : S' b = some o := by
  by_cases hb : b = a
  · subst hb
    rcases h.one with r | ⟨q, r⟩
    · rw [e] at r; exact absurd (Option.some.inj r) n1
    · rw [e] at r; exact absurd (Option.some.inj r) (n2 q)
  · rw [h.ne b hb]; exact e
theorem Swp.slt (h : Swp S S' a kvs) {b C dx : Addr} {vs : List (Option L2.V)} (x : SlX.Slt S b C dx vs) : SlX.Slt S' b C dx vs := by
  rcases x with ⟨x, q⟩ | ⟨x, q⟩
  · exact .inl ⟨h.o x (fun z => nomatch z) (fun _ z => nomatch z), q⟩
  · exact .inr ⟨h.o x (fun z => by unfold SlX.SlO at z; cases z) (fun _ z => by unfold SlX.SlO at z; cases z), h.o q (fun z => nomatch z) (fun _ z => nomatch z)⟩
mutual
theorem R.swp (h : Swp S S' a kvs) : ∀ {d : D} {v : L2.V}, R K C S d v → R K C S' d v
  | .non, v, x => by rw [R.non_iff] at x ⊢; exact x
  | .bl b, v, x => by rw [R.bl_iff] at x ⊢; exact x
  | .int b, v, x => by rw [R.int_iff] at x ⊢; exact x
  | .str b, v, x => by rw [R.str_iff] at x ⊢; exact x
  | .raw b, v, x => by rw [R.raw_iff] at x ⊢; exact x
  | .tup ds, v, x => by
    obtain ⟨b, ys, e1, h1, h2⟩ := R.tup_iff.mp x
    refine R.tup_iff.mpr ⟨b, ys, e1, ?_, RL.swp h h2⟩
    rcases h1 with (h1 | ⟨o, h1⟩) | h1
    · exact .inl (.inl (h.o h1 (fun z => nomatch z) (fun _ z => nomatch z)))
    · exact .inl (.inr ⟨o, h.o h1 (fun z => nomatch z) (fun _ z => by cases z)⟩)
    · exact .inr h1
  | .lst ds, v, x => by
    obtain ⟨b, ys, e1, h1, h2⟩ := R.lst_at.mp x
    exact R.lst_at.mpr ⟨b, ys, e1, h.o h1 (fun z => nomatch z) (fun _ z => nomatch z), RL.swp h h2⟩
  | .dct ks ds, v, x => by
    obtain ⟨b, kv, e1, h1, h3, h2⟩ := R.dct_iff.mp x
    by_cases hb : b = a
    · have h1' : Rd S a (.dK kv) := by rw [← hb]; exact h1
      have e : kv = kvs := by
        rcases h1' with h1 | ⟨o, h1⟩ <;> rcases h.one with q | ⟨o', q⟩ <;> rw [q] at h1 <;> cases h1 <;> rfl
      exact R.dct_iff.mpr ⟨b, kv, e1, (by rw [hb, e]; exact h.two), h3, RL.swp h h2⟩
    · refine R.dct_iff.mpr ⟨b, kv, e1, ?_, h3, RL.swp h h2⟩
      rcases h1 with h1 | ⟨o, h1⟩
      · exact .inl (by rw [h.ne b hb]; exact h1)
      · exact .inr ⟨o, by rw [h.ne b hb]; exact h1⟩
  | .tbl l, v, x => by
    obtain ⟨b, e1, h1⟩ := R.tbl_iff.mp x
    exact R.tbl_iff.mpr ⟨b, e1, h.o h1 (fun z => nomatch z) (fun _ z => nomatch z)⟩
  | .fil s q t, v, x => by
    obtain ⟨b, dx, x, y, z, e1, h1, h2, h3, h4⟩ := R.fil_iff.mp x
    exact R.fil_iff.mpr ⟨b, dx, x, y, z, e1, h.slt h1, R.swp h h2, R.swp h h3, R.swp h h4⟩
theorem RL.swp (h : Swp S S' a kvs) : ∀ {ds : List D} {vs : List L2.V}, RL K C S ds vs → RL K C S' ds vs
  | [], vs, x => by rw [RL.nil_iff] at x ⊢; exact x
  | d :: ds, vs, x => by
    obtain ⟨y, r, e1, h1, h2⟩ := RL.cons_iff.mp x
    exact RL.cons_iff.mpr ⟨y, r, e1, R.swp h h1, RL.swp h h2⟩
end
theorem RS.swp (h : Swp S S' a kvs) : ∀ {σ : L2.St} {env : List En}, RS K C S σ env → RS K C S' σ env
  | [], _, x => by cases x; rfl
  | o :: σ, _, ⟨.un, r, e, x, b⟩ => by subst e; exact ⟨_, _, rfl, True.intro, RS.swp h b⟩
  | o :: σ, _, ⟨.d x, r, e, y, b⟩ => by
    subst e
    obtain ⟨v, e1, h1⟩ := y
    exact ⟨_, _, rfl, ⟨v, e1, R.swp h h1⟩, RS.swp h b⟩
end
section
variable {X : Cx} {C : Addr} {T : Tx} {V : Vo} {env : List En} {tg iter : Expr} {pos : Pos} {N : List En → Prop} {Rt : D → Prop} {W : WX} {Et : Err → Prop} {body : List Stmt} {bind : List En → D → List En → Prop} {ks : List Str} {ds : List D}
/-- the walk over a dict's keys -/
theorem wk_keys {K : PySem.W.Frag} {S : Hp} {d : Addr} {o : Obj} {kvs : List (Key × L2.V)} (h : S d = some (.frz o (.dK kvs))) (hk : kvs.map (·.1) = ks.map Sum.inr) : Wk K C S (ks.map D.str) (Itk d o kvs) := by
  have hl : kvs.length = ks.length := by have := congrArg List.length hk; simpa using this
  refine ⟨fun i H e hi => ⟨e _ _ h, by rw [List.length_map] at hi; omega⟩, fun i H e hi => ⟨e _ _ h, by rw [List.length_map] at hi; omega⟩, fun i x S1 H1 y H2 e1 e2 hd ⟨e3, k, v, e4, e5⟩ => ?_⟩
  subst e3 e5
  refine ⟨S1, .refl e2, ?_⟩
  rw [List.getElem?_map] at hd
  have h1 : (kvs.map (·.1))[i]? = some k := by rw [List.getElem?_map, e4]; rfl
  rw [hk, List.getElem?_map] at h1
  cases hks : ks[i]? with
  | none => rw [hks] at h1; cases h1
  | some w =>
    rw [hks] at h1 hd
    cases h1
    cases hd
    exact R.str_iff.mpr rfl
theorem ps_or {st : Stmt} {t t' : TS} (h : PS X st t) (h' : PS X st t') : PS X st (fun D σ H => t D σ H ∨ t' D σ H) := ⟨fun pins s σ H D I q => q.elim (h.run pins s σ H D I) (h'.run pins s σ H D I)⟩
/-- for tg in d: nothing is raised in it -/
theorem jst_forD (I : Nat → List En → Prop) (hp : PassesOwn (model X.prog X.w) X.A X.env X.xe) (hc : X.calm = true) {i : Nat} {n : Str} {p : Pos} (he : env[i]? = some (.d (.dct ks ds))) (hv : PE X (.Name n p) (tVar i)) (hg : PG X tg (gJ X.K C bind))
    (hV : ∀ S H a kvs u, Same S H → V.J S H → S a = some u → Rd S a (.dK kvs) → ∀ u', V.J (upd S a u') (upd H a u') ∧ ¬ V.M a)
    (hbd : ∀ i d envI, (ks.map D.str)[i]? = some d → I i envI → ∃ envB, bind envI d envB) (h0 : I 0 env) (hn : ∀ envI, I ks.length envI → N envI)
    (hb : ∀ q : Nat × D × List En × List En, ((ks.map D.str)[q.1]? = some q.2.1 ∧ I q.1 q.2.2.1 ∧ bind q.2.2.1 q.2.1 q.2.2.2) → JS X C T V q.2.2.2 body (I (q.1 + 1)) Rt W (fun _ => False))
    (hs : ∀ x, foldedSetIterable (.Name n p) X.env x = pure x := by intro _; rfl) : JSt X C T V env (.For tg (.Name n p) body [] pos) N Rt W Et := by
  have base0 := ps_for hp hc (pi_keys hv) hg (pss_fam hb) hs (pos := pos)
  have base := ps_or (ps_lock base0) base0
  refine base.weak fun Dd σ H ⟨S, o, k1, k2, k3⟩ => ?_
  obtain ⟨v0, hv0, r0⟩ := o.rs.getD he
  obtain ⟨a, kvs', e1, h1, h2, h3⟩ := R.dct_iff.mp r0
  subst e1
  have hks : kvs'.length = ks.length := by have := congrArg List.length h2; simpa using this
  rcases h1 with ha | ⟨od, ha⟩
  rotate_left
  · refine .inr ⟨.ref a, hv0, a, od, rfl, .inl ⟨kvs', o.sub _ _ ha, ?_⟩⟩
    have wk : Wk X.K C S (ks.map D.str) (Itk a od kvs') := wk_keys ha h2
    refine ⟨fun i m σ' H' => m = ks.length - i ∧ i ≤ ks.length ∧ ∃ S' envI, Gr V.M S H S' H' ∧ V.J S' H' ∧ RS X.K C S' σ' envI ∧ I i envI,
      ⟨ks.length, by omega, by omega, _, env, .refl o.sub, o.j, o.rs, h0⟩, fun i m σ' H' ⟨em, hi, S', envI, g, j, rs, hI⟩ => ?_⟩
    by_cases hlt : i < ks.length
    · refine .inr ⟨wk.go i H' (g.s.trans g.sub) (by rw [List.length_map]; exact hlt), fun σ2 H2 => i + 1 ≤ ks.length ∧ ∃ S2 envI, Gr V.M S H S2 H2 ∧ V.J S2 H2 ∧ RS X.K C S2 σ2 envI ∧ I (i + 1) envI, fun σ2 H2 ⟨hl, q⟩ => ⟨ks.length - (i + 1), by omega, rfl, hl, q⟩, fun x H2 y => ?_⟩
      have hd : (ks.map D.str)[i]? = some (.str ks[i]) := by rw [List.getElem?_map, List.getElem?_eq_getElem hlt]; rfl
      obtain ⟨S2, g2, r2⟩ := wk.yld i _ S' H' x H2 g.s g.sub hd y
      obtain ⟨envB, hB⟩ := hbd i _ envI hd hI
      refine ⟨S2, _, envI, envB, g2.sub, rs.mono g2.s, r2, hB, fun σ3 rs3 => ?_⟩
      have gA := g.trans g2.up0
      exact ⟨(i, _, envI, envB), ⟨hd, hI, hB⟩, S2, ⟨g2.sub, V.gr0 g2 j, rs3⟩, fun env' σ4 S4 H4 n4 g4 j4 r4 => ⟨by omega, S4, env', gA.trans g4, j4, r4, n4⟩, fun d v S4 H4 p4 g4 j4 r4 => k2 d v _ _ p4 (gA.trans g4) j4 r4, fun _ _ _ _ _ _ z => z.elim⟩
    · have e : i = ks.length := by omega
      subst e
      exact .inl ⟨wk.stop _ H' (g.s.trans g.sub) (by rw [List.length_map]; exact Nat.le_refl _), k1 envI σ' _ _ (hn envI hI) g j rs⟩
  have hH := o.sub _ _ ha
  refine .inl ⟨a, .dK kvs', hH, True.intro, fun od => ?_⟩
  have nm := (hV S H a kvs' _ o.sub o.j ha (.inl ha) (.dK kvs')).2
  have sw : Swp S (upd S a (.frz od (.dK kvs'))) a kvs' := ⟨fun b hb => upd_ne hb, .inl ha, .inr ⟨od, upd_same⟩⟩
  have sub1 : Same (upd S a (.frz od (.dK kvs'))) (upd H a (.frz od (.dK kvs'))) := fun b u q => by
    by_cases hb : b = a
    · subst hb; rw [upd_same] at q ⊢; exact q
    · rw [upd_ne hb] at q ⊢; exact o.sub b u q
  have j1 := (hV S H a kvs' _ o.sub o.j ha (.inl ha) (.frz od (.dK kvs'))).1
  -- from the locked heaps back
  have back : ∀ {S2 H2 : Hp}, Gr V.M (upd S a (.frz od (.dK kvs'))) (upd H a (.frz od (.dK kvs'))) S2 H2 → V.J S2 H2 → Gr V.M S H (upd S2 a (.dK kvs')) (upd H2 a (.dK kvs')) ∧ V.J (upd S2 a (.dK kvs')) (upd H2 a (.dK kvs')) ∧ Swp S2 (upd S2 a (.dK kvs')) a kvs' ∧ H2 a = some (.frz od (.dK kvs')) := fun {S2 H2} g j => by
    have f2 : S2 a = some (.frz od (.dK kvs')) := g.s a _ upd_same
    have f3 := g.sub a _ f2
    refine ⟨⟨fun b u q => ?_, fun b u q => ?_, fun b u n q => ?_, fun b u q => ?_, fun b u q n => ?_⟩, (hV S2 H2 a kvs' _ g.sub j f2 (.inr ⟨od, f2⟩) (.dK kvs')).1, ⟨fun b hb => upd_ne hb, .inr ⟨od, f2⟩, .inl upd_same⟩, f3⟩
    · by_cases hb : b = a
      · subst hb; rw [upd_same, ← ha]; exact q
      · rw [upd_ne hb]; exact g.s b u (by rw [upd_ne hb]; exact q)
    · by_cases hb : b = a
      · subst hb; rw [upd_same] at q ⊢; exact q
      · rw [upd_ne hb] at q ⊢; exact g.sub b u q
    · by_cases hb : b = a
      · subst hb; rw [upd_same, ← hH]; exact q
      · rw [upd_ne hb]; exact g.h b u n (by rw [upd_ne hb]; exact q)
    · by_cases hb : b = a
      · subst hb; exact ⟨_, upd_same⟩
      · rw [upd_ne hb]; exact g.m b u (by rw [upd_ne hb]; exact q)
    · by_cases hb : b = a
      · subst hb; rw [ha] at n; cases n
      · rw [upd_ne hb]; exact g.n b u (by rw [upd_ne hb]; exact q) (by rw [upd_ne hb]; exact n)
  refine ⟨.ref a, hv0, a, od, rfl, .inl ⟨kvs', upd_same, ?_⟩⟩
  have wk : Wk X.K C (upd S a (.frz od (.dK kvs'))) (ks.map D.str) (Itk a od kvs') := wk_keys upd_same h2
  refine ⟨fun i m σ' H' => m = ks.length - i ∧ i ≤ ks.length ∧ ∃ S' envI, Gr V.M (upd S a (.frz od (.dK kvs'))) (upd H a (.frz od (.dK kvs'))) S' H' ∧ V.J S' H' ∧ RS X.K C S' σ' envI ∧ I i envI,
    ⟨ks.length, by omega, by omega, _, env, .refl sub1, j1, o.rs.swp sw, h0⟩, fun i m σ' H' ⟨em, hi, S', envI, g, j, rs, hI⟩ => ?_⟩
  by_cases hlt : i < ks.length
  · refine .inr ⟨wk.go i H' (g.s.trans g.sub) (by rw [List.length_map]; exact hlt), fun σ2 H2 => i + 1 ≤ ks.length ∧ ∃ S2 envI, Gr V.M (upd S a (.frz od (.dK kvs'))) (upd H a (.frz od (.dK kvs'))) S2 H2 ∧ V.J S2 H2 ∧ RS X.K C S2 σ2 envI ∧ I (i + 1) envI, fun σ2 H2 ⟨hl, q⟩ => ⟨ks.length - (i + 1), by omega, rfl, hl, q⟩, fun x H2 y => ?_⟩
    have hd : (ks.map D.str)[i]? = some (.str ks[i]) := by rw [List.getElem?_map, List.getElem?_eq_getElem hlt]; rfl
    obtain ⟨S2, g2, r2⟩ := wk.yld i _ S' H' x H2 g.s g.sub hd y
    obtain ⟨envB, hB⟩ := hbd i _ envI hd hI
    refine ⟨S2, _, envI, envB, g2.sub, rs.mono g2.s, r2, hB, fun σ3 rs3 => ?_⟩
    have gA := g.trans g2.up0
    refine ⟨(i, _, envI, envB), ⟨hd, hI, hB⟩, S2, ⟨g2.sub, V.gr0 g2 j, rs3⟩, fun env' σ4 S4 H4 n4 g4 j4 r4 => ⟨by omega, S4, env', gA.trans g4, j4, r4, n4⟩, fun d v S4 H4 p4 g4 j4 r4 => ?_, fun _ _ _ _ _ _ z => z.elim⟩
    obtain ⟨q1, q2, q3, q4⟩ := back (gA.trans g4) j4
    exact ⟨q4, k2 d v _ _ p4 q1 q2 (R.swp q3 r4)⟩
  · have e : i = ks.length := by omega
    subst e
    obtain ⟨q1, q2, q3, q4⟩ := back g j
    exact .inl ⟨wk.stop _ H' (g.s.trans g.sub) (by rw [List.length_map]; exact Nat.le_refl _), q4, k1 envI σ' _ _ (hn envI hI) q1 q2 (RS.swp q3 rs)⟩
end
end RQ

/-! RqT: calls without arguments. -/
namespace RQ
open PySem PySem.Spec PyProof.Rows L2
section
variable {X : Cx} {C : Addr} {T : Tx} {V : Vo} {env : List En} {pos p : Pos} {j k : Nat} {x : Str} {z : D}
theorem je_cal0 {P : List D → D → Prop} (F : Fn X.prog X.w X.K X.mg X.base C T x k [] (pok P)) (hr : Room j X.A) (hk : k ≤ j) (hd : P [] z) (hg : Gl X x := by rfl) (hdb : (x == ("__debug__" : Str)) = false := by decide) : JE X C V env (.Call (.Name x p) [] [] pos) (· = z) := by
  obtain ⟨f, fd, h1, h2, h3, h4⟩ := F.ex
  refine (pe_call0 h4 (hr.mono hk) hg h1 h2 h3 .nil passL hdb).weak fun σ H Q ⟨S, o, q⟩ => ?_
  obtain ⟨Ψ, a, b, c⟩ := pok_use (P := P) hd
  exact ⟨S, [], V0, Ψ, o.sub, True.intro, RL.nil, a, fun d v S2 H2 p2 g2 j2 r2 => q d v S2 H2 (c d p2) g2.up0 (V.gr0 g2 o.j) r2, fun er cls dd S' H' z => (b er z).elim⟩
end
end RQ

/-! RqU: tables of sets of any size to 8192 slots; len(set(xs)), xs a list of tuples of whole numbers. -/
namespace RQ
open PySem PySem.Spec PyProof.Rows L2

/-! ### i -> 5 i + 1 by remainders of a power of two meets all -/
def hop (i : Nat) : Nat → Nat
  | 0 => i
  | n + 1 => hop i n * 5 + 1
theorem hop_plus (i a : Nat) : ∀ b, hop i (a + b) = hop (hop i a) b
  | 0 => rfl
  | b + 1 => congrArg (· * 5 + 1) (hop_plus i a b)
theorem hop_two (k : Nat) : ∃ u v : Nat, ∀ i, hop i (2 ^ k) = i * (1 + 4 * 2 ^ k * u) + 2 ^ k * (2 * v + 1) := by
  induction k with
  | zero => exact ⟨1, 0, fun i => by show i * 5 + 1 = _; omega⟩
  | succ k ih =>
    obtain ⟨u, v, e⟩ := ih
    refine ⟨u + 2 * 2 ^ k * (u * u), v + 2 ^ k * u * (2 * v + 1), fun i => ?_⟩
    rw [Nat.pow_succ, Nat.mul_comm (2 ^ k) 2, Nat.two_mul, hop_plus, e, e]
    generalize 2 ^ k = q
    grind


theorem half_turn {q y j w : Nat} (hq : 0 < q) (e : y % q = j % q) (ne : y % (q * 2) ≠ j % (q * 2)) : (y + q + q * 2 * w) % (q * 2) = j % (q * 2) := by
  rw [Nat.add_mul_mod_self_left, Nat.mod_mul, Nat.mod_mul (x := j), Nat.add_mod_right, Nat.add_div_right _ hq, e]
  rw [Nat.mod_mul, Nat.mod_mul (x := j), e] at ne
  have a : y / q % 2 ≠ j / q % 2 := fun z => ne (by rw [z])
  have b : (y / q).succ % 2 = j / q % 2 := by omega
  rw [b]
theorem hop_all (k : Nat) : ∀ i j, ∃ n, n < 2 ^ k ∧ hop i n % 2 ^ k = j % 2 ^ k := by
  induction k with
  | zero => exact fun i j => ⟨0, by decide, by rw [Nat.pow_zero, Nat.mod_one, Nat.mod_one]⟩
  | succ k ih =>
    intro i j
    obtain ⟨n, hn, e⟩ := ih i j
    obtain ⟨u, v, f⟩ := hop_two k
    have hq : 0 < 2 ^ k := Nat.two_pow_pos k
    rw [Nat.pow_succ]
    rcases Classical.em (hop i n % (2 ^ k * 2) = j % (2 ^ k * 2)) with c | c
    · exact ⟨n, by omega, c⟩
    · refine ⟨n + 2 ^ k, by omega, ?_⟩
      rw [hop_plus, f]
      have g : hop i n * (1 + 4 * 2 ^ k * u) + 2 ^ k * (2 * v + 1) = hop i n + 2 ^ k + 2 ^ k * 2 * (2 * hop i n * u + v) := by
        generalize 2 ^ k = q
        generalize hop i n = y
        grind
      rw [g]
      exact half_turn hq e c
/-- the masks: a power of two less one -/
def Two (m : Nat) : Prop := ∃ k, 3 ≤ k ∧ k ≤ 13 ∧ m + 1 = 2 ^ k
theorem Two.big {m : Nat} (t : Two m) : 7 ≤ m ∧ m ≤ 8191 := by
  obtain ⟨k, a, b, e⟩ := t
  have h1 : 2 ^ 3 ≤ 2 ^ k := Nat.pow_le_pow_right (by decide) a
  have h2 : 2 ^ k ≤ 2 ^ 13 := Nat.pow_le_pow_right (by decide) b
  omega
theorem Two.odd {m : Nat} (t : Two m) : m % 2 = 1 := by
  obtain ⟨k, a, b, e⟩ := t
  obtain ⟨c, rfl⟩ : ∃ c, k = c + 1 := ⟨k - 1, by omega⟩
  rw [Nat.pow_succ] at e
  omega
theorem lcg_hop (m i : Nat) : ∀ n, lcgI m i n % (m + 1) = hop i n % (m + 1)
  | 0 => rfl
  | n + 1 => by
    show (lcgI m i n * 5 + 1) % (m + 1) % (m + 1) = (hop i n * 5 + 1) % (m + 1)
    rw [Nat.mod_mod, Nat.add_mod, Nat.mul_mod, lcg_hop m i n, ← Nat.mul_mod, ← Nat.add_mod]
theorem lcg_low {m i : Nat} (h : i ≤ m) : ∀ n, lcgI m i n ≤ m
  | 0 => h
  | n + 1 => Nat.le_of_lt_succ (Nat.mod_lt _ (Nat.succ_pos m))
theorem lcg_every {m i j : Nat} (t : Two m) (hi : i ≤ m) (hj : j ≤ m) : ∃ n, n ≤ m ∧ lcgI m i n = j := by
  obtain ⟨k, _, _, e⟩ := t
  obtain ⟨n, a, b⟩ := hop_all k i j
  refine ⟨n, by omega, ?_⟩
  have c := lcg_hop m i n
  rw [e, b, ← e, Nat.mod_eq_of_lt (Nat.lt_succ_of_le (lcg_low hi n)), Nat.mod_eq_of_lt (Nat.lt_succ_of_le hj)] at c
  exact c

/-! ### the way of a hash through the slots -/
theorem starts_every {m : Nat} (t : Two m) (x : Int) {j : Nat} (hj : j ≤ m) : ∃ n, n < SetTable.turns m ∧ runI m (SetTable.bits x) n = j := by
  obtain ⟨n, a, e⟩ := lcg_every t (runI_le m (SetTable.bits x) 12) hj
  exact ⟨12 + n, by show 12 + n < m + 15; omega, (runI_tail (bits_lt x) n).trans e⟩
theorem way_every {m : Nat} (t : Two m) (x : Int) {j : Nat} (hj : j ≤ m) : ∃ n, n < 10 * SetTable.turns m ∧ way m x n = j := by
  obtain ⟨n, a, e⟩ := starts_every t x hj
  obtain ⟨c, b, f⟩ := run_nth m (SetTable.bits x) n
  exact ⟨c, by omega, (congrArg SetTable.Probe.j f).trans e⟩
theorem way_low (m : Nat) (x : Int) (n : Nat) : way m x n ≤ m := by
  have a : SetTable.bits x % (m + 1) ≤ m := Nat.le_of_lt_succ (Nat.mod_lt _ (Nat.succ_pos m))
  obtain ⟨b, c, _⟩ := runEnd_bd a
  exact Nat.le_trans (Nat.le_add_right _ _) (nth_in n (runAt m (SetTable.bits x % (m + 1)) (SetTable.bits x)) (by
    show SetTable.bits x % (m + 1) + (SetTable.runEnd m (SetTable.bits x % (m + 1)) - SetTable.bits x % (m + 1)) ≤ m
    omega))
/-- the first slot of the way that a property holds of -/
theorem way_least {m : Nat} {p : Nat → Prop} {x : Int} {n : Nat} (h : p (way m x n)) : ∃ k, k ≤ n ∧ p (way m x k) ∧ ∀ c, c < k → ¬ p (way m x c) :=
  st_least (p := fun c => p (way m x c)) n h

/-! ### a table in order -/
structure Tb (t : SetTable) (xs : List Int) : Prop where
  up : Ris t.place.toList
  clean : t.dummies = #[]
  len : t.place.size = xs.length
  two : Two t.mask
  low : ∀ j ∈ t.place.toList, j ≤ t.mask
  met : ∀ (i : Nat) (x : Int) (j : Nat), xs[i]? = some x → t.place.toList[i]? = some j → ∃ k, way t.mask x k = j ∧ ∀ c, c < k → way t.mask x c ∈ t.place.toList
section
variable {t : SetTable} {xs : List Int}
theorem Tb.gap (T : Tb t xs) (h : xs.length ≤ t.mask) (x : Int) : ∃ k, k < 10 * SetTable.turns t.mask ∧ way t.mask x k ∉ t.place.toList ∧ ∀ c, c < k → way t.mask x c ∈ t.place.toList := by
  obtain ⟨j, a, b⟩ := st_missing t.place.toList (t.mask + 1) (by rw [Array.length_toList, T.len]; omega)
  obtain ⟨n, d, e⟩ := way_every T.two x (Nat.le_of_lt_succ a)
  obtain ⟨k, f, g, q⟩ := way_least (m := t.mask) (x := x) (p := fun j => j ∉ t.place.toList) (n := n) (by rw [e]; exact b)
  exact ⟨k, by omega, g, fun c hc => Classical.not_not.mp (q c hc)⟩
/-- a hash that stands in the table is met ahead of the gap -/
theorem Tb.ahead (T : Tb t xs) {x : Int} {k i j : Nat} (h : way t.mask x k ∉ t.place.toList) (hi : xs[i]? = some x) (hj : t.place.toList[i]? = some j) : ∃ c, c < k ∧ way t.mask x c = j := by
  obtain ⟨c, e, f⟩ := T.met i x j hi hj
  refine ⟨c, Nat.lt_of_not_le fun z => ?_, e⟩
  rcases Nat.eq_or_lt_of_le z with y | y
  · exact h (by rw [y, e]; exact List.mem_of_getElem? hj)
  · exact h (f k y)
/-- one more -/
theorem Tb.more (T : Tb t xs) {x : Int} {k p : Nat} (hp : SetTable.below t.place (way t.mask x k) = p) (h : way t.mask x k ∉ t.place.toList) (hb : ∀ c, c < k → way t.mask x c ∈ t.place.toList) :
    p ≤ xs.length ∧ Tb (t.put (way t.mask x k)).1 (xs.take p ++ x :: xs.drop p) ∧ (t.put (way t.mask x k)).1.fill = xs.length + 1 := by
  have a : p ≤ t.place.size := hp ▸ (below_cut T.up (way t.mask x k)).1
  have a1 : p ≤ t.place.toList.length := by rw [Array.length_toList]; exact a
  have a2 : p ≤ xs.length := T.len ▸ a
  have b : (t.put (way t.mask x k)).1.place.toList = t.place.toList.take p ++ way t.mask x k :: t.place.toList.drop p := by rw [put_place, hp]
  have d : (t.put (way t.mask x k)).1.place.size = xs.length + 1 := by
    rw [← Array.length_toList, b, len_ins _ a1, Array.length_toList, T.len]
  have more : ∀ {j}, j ∈ t.place.toList → j ∈ (t.put (way t.mask x k)).1.place.toList := fun hj => by rw [b]; exact mem_ins.mpr (.inr hj)
  have cl := put_dm T.clean (way t.mask x k)
  refine ⟨a2, ?_, ?_⟩
  · constructor
    · exact ris_insert T.up fun z => h (List.mem_of_getElem? (Array.getElem?_toList.trans z))
    · exact cl
    · rw [d, len_ins _ a2]
    · exact T.two
    · intro j hj
      rw [b] at hj
      rcases mem_ins.mp hj with z | z
      · exact z ▸ way_low t.mask x k
      · exact T.low j z
    · intro i y j hy hj
      rw [tins_get _ a2] at hy
      rw [b, tins_get _ a1] at hj
      have old : ∀ i : Nat, xs[i]? = some y → t.place.toList[i]? = some j → ∃ k', way t.mask y k' = j ∧ ∀ c, c < k' → way t.mask y c ∈ (t.put (way t.mask x k)).1.place.toList := fun i u v => by
        obtain ⟨k', e, f⟩ := T.met i y j u v
        exact ⟨k', e, fun c hc => more (f c hc)⟩
      split at hy
      · next z => rw [if_pos z] at hj; exact old _ hy hj
      · next z =>
        rw [if_neg z] at hj
        split at hy
        · next z2 =>
          rw [if_pos z2] at hj
          cases hy
          cases hj
          exact ⟨k, rfl, fun c hc => more (hb c hc)⟩
        · next z2 => rw [if_neg z2] at hj; exact old _ hy hj
  · show (t.put (way t.mask x k)).1.place.size + (t.put (way t.mask x k)).1.dummies.size = _
    rw [d, cl] <;> rfl
end

/-! ### laid anew -/
theorem free_way {m : Nat} (t : Two m) (ow : Array (Option Nat)) (x : Int) {j : Nat} (hj : j ≤ m) (hf : oAt ow j = none) :
    ∃ k, SetTable.layClean.free m ow (SetTable.turns m) (SetTable.bits x % (m + 1)) (SetTable.bits x) = some (way m x k) ∧ oAt ow (way m x k) = none ∧ ∀ c, c < k → oAt ow (way m x c) ≠ none := by
  obtain ⟨n, a, e⟩ := starts_every t x hj
  have b : way m x (off m (SetTable.bits x % (m + 1)) (SetTable.bits x) n) = j := by
    unfold way
    rw [nth_off, itL_run]
    exact e
  obtain ⟨k, d, f, g⟩ := way_least (m := m) (x := x) (p := fun j => oAt ow j = none) (n := off m (SetTable.bits x % (m + 1)) (SetTable.bits x) n) (by rw [b]; exact hf)
  refine ⟨k, free_spec m ow _ n _ _ k a d (fun c hc => ?_) (Option.isNone_iff_eq_none.mpr f), f, g⟩
  exact Bool.eq_false_iff.mpr fun z => g c hc (Option.isNone_iff_eq_none.mp z)
theorem own_more {m : Nat} (t : Two m) {xs : List Int} {ow : Array (Option Nat)} (W : L2.Own m xs ow) (h : xs.length ≤ m) (x : Int) :
    ∃ j, SetTable.layClean.free m ow (SetTable.turns m) (SetTable.bits x % (m + 1)) (SetTable.bits x) = some j ∧ L2.Own m (xs ++ [x]) (ow.setIfInBounds j (some xs.length)) := by
  obtain ⟨sl, sl1, sl2⟩ := W.ps
  obtain ⟨i, a, b⟩ := st_missing sl (m + 1) (by omega)
  have e : oAt ow i = none := Classical.byContradiction fun z => b (sl2 i (Nat.le_of_lt_succ a) z)
  obtain ⟨k, f, g, q⟩ := free_way t ow x (Nat.le_of_lt_succ a) e
  have low := way_low m x k
  have ins : way m x k < ow.size := by rw [W.sz]; omega
  generalize hw : way m x k = w at f g low ins
  have here : oAt (ow.setIfInBounds w (some xs.length)) w = some xs.length := oAt_set_self _ ins
  have there : ∀ {j}, j ≠ w → oAt (ow.setIfInBounds w (some xs.length)) j = oAt ow j := fun z => oAt_set_ne _ z
  have full : ∀ {j}, oAt ow j ≠ none → oAt (ow.setIfInBounds w (some xs.length)) j ≠ none := fun {j} z => by
    rcases Classical.em (j = w) with y | y
    · rw [y, here]; simp
    · rw [there y]; exact z
  refine ⟨w, f, ?_⟩
  constructor
  · rw [Array.size_setIfInBounds, W.sz]
  · intro j n hj hn
    rcases Classical.em (j = w) with y | y
    · rw [y, here] at hn
      cases hn
      exact ⟨x, k, by simp, hw.trans y.symm, fun c hc => full (q c hc)⟩
    · rw [there y] at hn
      obtain ⟨x', k', u1, u2, u3⟩ := W.at_ j n hj hn
      exact ⟨x', k', by rw [List.getElem?_append_left (List.getElem?_eq_some_iff.mp u1).1, u1], u2, fun c hc => full (u3 c hc)⟩
  · intro n hn
    rw [List.length_append] at hn
    rcases Nat.lt_or_ge n xs.length with y | y
    · obtain ⟨j, u1, u2⟩ := W.all n y
      exact ⟨j, u1, by rw [there (fun z => by rw [z, g] at u2; cases u2), u2]⟩
    · have z : n = xs.length := Nat.le_antisymm (Nat.le_of_lt_succ hn) y
      exact ⟨w, low, z ▸ here⟩
  · refine ⟨w :: sl, by simp [sl1], fun j hj z => ?_⟩
    rcases Classical.em (j = w) with y | y
    · exact y ▸ List.mem_cons_self
    · exact List.mem_cons_of_mem _ (sl2 j hj (by rwa [there y] at z))
theorem own_all {m : Nat} (t : Two m) : ∀ (ys xs : List Int) (ow : Array (Option Nat)), L2.Own m xs ow → xs.length + ys.length ≤ m →
    ∃ ow', ys.foldl (stepF m) (some (ow, xs.length)) = some (ow', xs.length + ys.length) ∧ L2.Own m (xs ++ ys) ow'
  | [], xs, ow, W, _ => ⟨ow, rfl, by simpa using W⟩
  | y :: ys, xs, ow, W, h => by
    have h' : xs.length + (ys.length + 1) ≤ m := h
    obtain ⟨j, e, W1⟩ := own_more t W (by omega) y
    obtain ⟨ow', f, W2⟩ := own_all t ys (xs ++ [y]) _ W1 (by simp; omega)
    refine ⟨ow', ?_, by simpa using W2⟩
    have l : (xs ++ [y]).length = xs.length + 1 := by simp
    rw [l] at f
    rw [List.foldl_cons, stepF_some e, f, List.length_cons, Nat.add_assoc, Nat.add_comm 1]
theorem tb_laid (t : SetTable) {xs : Array Int} {n m : Nat} (hn : SetTable.sizeAbove n = m + 1) (hm : Two m) (hx : xs.size ≤ m) :
    ∃ t' od, t.relaid xs n = some (t', od) ∧ od.toList.Perm (List.range xs.size) ∧ Tb t' (od.toList.map fun i => xs.getD i 0) ∧ t'.mask = m ∧ t'.led = t.led ∧ t'.plain = t.plain := by
  obtain ⟨ow, e, W⟩ := own_all hm xs.toList [] _ (L2.Own.init m) (by simpa using hx)
  rw [List.nil_append] at W
  have lay : SetTable.layClean m xs = some ow := by
    rw [layClean_eq]
    show Option.map _ (xs.toList.foldl (stepF m) (some (Array.replicate (m + 1) none, ([] : List Int).length))) = _
    rw [e] <;> rfl
  obtain ⟨r1, r2⟩ := ris_live (fun j => ow.getD j none) (List.range (m + 1)) List.pairwise_lt_range
  have inL : ∀ {j k}, (j, k) ∈ liveOf m ow ↔ j ≤ m ∧ oAt ow j = some k := fun {j k} => mem_live W.sz
  have count : (liveOf m ow).length = xs.size := by
    obtain ⟨sl, sl1, sl2⟩ := W.ps
    refine Nat.le_antisymm ?_ ?_
    · have nd : ((liveOf m ow).map (·.1)).Nodup := List.Pairwise.imp (fun h => Nat.ne_of_lt h) r1
      have q := nat_nodup_len ((liveOf m ow).map (·.1)) sl nd fun j hj => by
        obtain ⟨⟨j', k⟩, u, rfl⟩ := List.mem_map.mp hj
        obtain ⟨u1, u2⟩ := inL.mp u
        exact sl2 _ u1 (by rw [u2]; simp)
      rw [List.length_map, sl1] at q
      exact q
    · have q := nat_nodup_len (List.range xs.size) ((liveOf m ow).map (·.2)) List.nodup_range fun k hk => by
        obtain ⟨j, u⟩ := W.all k (List.mem_range.mp hk)
        exact List.mem_map.mpr ⟨(j, k), inL.mpr u, rfl⟩
      rw [List.length_range, List.length_map] at q
      exact q
  refine ⟨tabOf t m ow, ((liveOf m ow).map (·.2)).toArray, ?_, ?_, ?_, rfl, rfl, rfl⟩
  · rw [relaid_eq, hn, Nat.add_sub_cancel, lay] <;> rfl
  · refine perm_range _ _ (by simpa using count) fun k hk => ?_
    obtain ⟨j, u⟩ := W.all k hk
    exact List.mem_map.mpr ⟨(j, k), inL.mpr u, rfl⟩
  · constructor
    · exact r1
    · rfl
    · show ((liveOf m ow).map (·.1)).toArray.size = (((liveOf m ow).map (·.2)).map _).length
      simp
    · exact hm
    · exact fun j hj => Nat.le_of_lt_succ (List.mem_range.mp (r2 j hj))
    · intro i x j hx' hj
      have hj' : ((liveOf m ow).map (·.1))[i]? = some j := hj
      have hx2 : (((liveOf m ow).map (·.2)).map fun i => xs.getD i 0)[i]? = some x := hx'
      rw [List.getElem?_map] at hj'
      obtain ⟨⟨j', k⟩, u, rfl⟩ := Option.map_eq_some_iff.mp hj'
      rw [List.map_map, List.getElem?_map, u] at hx2
      obtain ⟨u1, u2⟩ := inL.mp (List.mem_of_getElem? u)
      obtain ⟨y, c, v1, v2, v3⟩ := W.at_ j' k u1 u2
      have same : y = x := by
        have z : xs[k]? = some y := by rw [← Array.getElem?_toList, v1]
        have z2 : xs.getD k 0 = x := Option.some.inj hx2
        rw [← z2, Array.getD_eq_getD_getElem?, z] <;> rfl
      subst same
      refine ⟨c, v2, fun b hb => ?_⟩
      obtain ⟨n, hn⟩ := Option.ne_none_iff_exists'.mp (v3 b hb)
      exact List.mem_map.mpr ⟨(_, n), inL.mpr ⟨way_low m y b, hn⟩, rfl⟩
end RQ

/-! RqV: a set of tuples of whole numbers, searched and added to. -/
namespace RQ
open PySem PySem.Spec PyProof.Rows L2

/-- the probe of a hash's way -/
def stp (m : Nat) (x : Int) (c : Nat) : SetTable.Probe := nth m (runAt m (SetTable.bits x % (m + 1)) (SetTable.bits x)) c
theorem stp_plus (m : Nat) (x : Int) (c d : Nat) : nth m (stp m x c) d = stp m x (c + d) := (nth_add m c _ d).symm
theorem stp_bare (m : Nat) (x : Int) : ∀ c, (stp m x c).dummy = none
  | 0 => rfl
  | c + 1 => by
    have e : stp m x (c + 1) = adv m (stp m x c) := nth_succ m _ c
    rw [e]
    unfold adv
    split
    · exact stp_bare m x c
    · exact stp_bare m x c

section
variable {P : Program} {w : World}
/-- the set at a has the tuples of L, in the order of its table -/
structure Bag (P : Program) (w : World) (h : Heap) (a : Addr) (L : List (Addr × List Int)) (es : Array (Int × Value)) (ep : Nat) (t : SetTable) : Prop where
  here : ∃ o, h.get? a = some o ∧ o.ExactSet ∧ o.data = .set es ep t
  rows : es.toList = rowsOf P w L
  tb : Tb t (L.map fun q => thash P w q.2)
  apart : (L.map Prod.snd).Nodup
  tups : ∀ q ∈ L, IsT P w h q.2 q.1
  plain : t.plain = true
  room : L.length * 5 < t.mask * 3
variable {h : Heap} {a : Addr} {L : List (Addr × List Int)} {es : Array (Int × Value)} {ep : Nat} {t : SetTable}
theorem rows_size (e : es.toList = rowsOf P w L) : es.size = L.length := by
  rw [← Array.length_toList, e]
  exact List.length_map _
theorem rows_get (e : es.toList = rowsOf P w L) {i : Nat} {q : Addr × List Int} (hq : L[i]? = some q) : es[i]? = some (thash P w q.2, Value.ref q.1) := by
  rw [← Array.getElem?_toList, e, rowsOf, List.getElem?_map, hq] <;> rfl
theorem tb_fits {xs : List Int} (T : Tb t xs) (hl : xs.length ≤ t.mask) {n : Nat} (hn : n = xs.length) : t.fits n = true := by
  have a := T.len
  simp only [SetTable.fits, SetTable.fill, T.clean, Bool.and_eq_true, beq_iff_eq, decide_eq_true_eq]
  refine ⟨by omega, ?_⟩
  show t.place.size + 0 ≤ t.mask
  omega
theorem Bag.fits (B : Bag P w h a L es ep t) : t.fits es.size = true := by
  have r := B.room
  exact tb_fits B.tb (by rw [List.length_map]; omega) (by rw [List.length_map]; exact rows_size B.rows)
theorem Bag.stays (B : Bag P w h a L es ep t) : ¬ t.gaveWay = true := by
  simp [SetTable.gaveWay, B.tb.two.odd]
end

section
variable {P : Program} {w : World} {A : Around} {E : Value → Shared → Prop} {s : Shared} {a : Addr} {L : List (Addr × List Int)} {es : Array (Int × Value)} {ep : Nat} {t : SetTable} {x : Addr} {k : List Int} {Q : SetFound → Shared → Prop} {g : Nat}
/-- the search of a tuple, from the c-th slot of its way on -/
theorem bag_from (B : Bag P w s.heap a L es ep t) (hx : IsT P w s.heap k x) (hu : A.units < cLine) (hg : g < 10 * SetTable.turns t.mask) (g0 : way t.mask (thash P w k) g ∉ t.place.toList)
    (g1 : ∀ c, c < g → way t.mask (thash P w k) c ∈ t.place.toList) (yes : k ∈ L.map Prod.snd → Q (.there none) s) (no : k ∉ L.map Prod.snd → Q (.free (way t.mask (thash P w k) g) false) s) (f : Nat) :
    ∀ (c : Nat) (st : Option SetTable.Probe), st.getD (t.probeStart (thash P w k)) = stp t.mask (thash P w k) c → c ≤ g → g < c + f →
      (∀ (i : Nat) (q : Addr × List Int), L[i]? = some q → q.2 = k → ∃ d, c ≤ d ∧ d < g ∧ t.place.toList[i]? = some (way t.mask (thash P w k) d)) →
      wpAny (model P w) A (setSearchFrom a (.ref x) (thash P w k) true f st) Q E s := by
  induction f with
  | zero => intro c _ _ u v; omega
  | succ f ih =>
    intro c st hst hc hf left
    obtain ⟨o, ho, _, hd⟩ := B.here
    have hash : ∀ {i : Nat} {q : Addr × List Int}, L[i]? = some q → ((es[i]?.map Prod.fst).getD 0) = thash P w q.2 := fun hq => by rw [rows_get B.rows hq] <;> rfl
    have sl : ∀ d, (nth t.mask (stp t.mask (thash P w k) c) d).j = way t.mask (thash P w k) (c + d) := fun d => congrArg SetTable.Probe.j (stp_plus _ _ c d)
    have gc : c + (g - c) = g := by omega
    have word := go_spec t B.tb.up B.tb.clean (fun i => (es[i]?.map Prod.fst).getD 0) (thash P w k) (10 * SetTable.turns t.mask) (g - c) (stp t.mask (thash P w k) c) (stp_bare _ _ c) (by omega)
      (fun d hd => by rw [sl]; exact g1 _ (by omega)) (by rw [sl, gc]; exact g0)
    rw [setSearchFrom_succ]
    refine wpAny_bind (wpAny_setState_of ho hd B.fits ?_)
    dsimp only
    refine wp_if_neg B.stays ?_
    rw [hst]
    rcases word with ⟨d, i, hdg, hi, _, skip, hp⟩ | ⟨skip, hp⟩
    · have hp2 : t.probe (fun i => (es[i]?.map Prod.fst).getD 0) (thash P w k) (stp t.mask (thash P w k) c) = some (.candidate (way t.mask (thash P w k) (c + d)) i (stp t.mask (thash P w k) (c + (d + 1)))) := by
        rw [← sl, ← stp_plus]
        exact hp
      rw [hp2]
      dsimp only
      rw [sl] at hi
      obtain ⟨q, hq⟩ : ∃ q, L[i]? = some q := by
        have u : i < t.place.toList.length := (List.getElem?_eq_some_iff.mp hi).1
        rw [Array.length_toList, B.tb.len, List.length_map] at u
        exact ⟨_, List.getElem?_eq_getElem u⟩
      have live := slot_live B.tb.up hi
      have body : wpAny (model P w) A (searchRest a (.ref x) (thash P w k) true f es t (way t.mask (thash P w k) (c + d)) i (stp t.mask (thash P w k) (c + (d + 1)))) Q E s := by
        unfold searchRest
        rw [rows_get B.rows hq]
        refine wpAny_bind (wpAny_holding (wpAny_eqBool_tuple hu (B.tups q (List.mem_of_getElem? hq)) hx ?_))
        refine wpAny_bind (wpAny_setState_of ho hd B.fits ?_)
        dsimp only
        by_cases e : q.2 = k
        · refine wp_if_pos (by simp [e]) (wpAny_pure (yes ?_))
          exact e ▸ List.mem_map_of_mem (List.mem_of_getElem? hq)
        · refine wp_if_neg (by simp [e]) ?_
          rw [sameMem]
          simp only [if_true, live, rows_get B.rows hq]
          refine wpAny_bind (wpAny_isSame_ref_self (wpAny_bind (wpAny_pure ?_)))
          simp only [if_true]
          refine wp_if_neg (by simp [e]) (ih (c + (d + 1)) _ rfl (by omega) (by omega) fun i' q' hq' hk' => ?_)
          obtain ⟨d', u1, u2, u3⟩ := left i' q' hq' hk'
          refine ⟨d', ?_, u2, u3⟩
          refine Classical.byContradiction fun z => ?_
          have cut : d' < c + d ∨ d' = c + d := by omega
          rcases cut with y | y
          · exact skip (d' - c) i' (by omega) (by rw [sl, Nat.add_sub_cancel' u1]; exact u3) (by rw [hash hq', hk'])
          · rw [y] at u3
            have same := (slot_live B.tb.up u3).symm.trans live
            cases same
            rw [hq] at hq'
            cases hq'
            exact e hk'
      by_cases hl : t.led = true
      · exact wp_if_neg (by simp [hl]) body
      · refine wp_if_pos (by simp [hl]) (wpAny_bind (seen_tup hx (fun v hv => ?_) ?_))
        · obtain ⟨r, hr, rfl⟩ := List.mem_map.mp hv
          have hr2 : r ∈ es.toList := (by simpa using hr : r ∈ es ∧ _).1.val
          rw [B.rows] at hr2
          obtain ⟨q', hq', rfl⟩ := List.mem_map.mp hr2
          exact ⟨q'.2, q'.1, rfl, B.tups q' hq'⟩
        · exact wp_if_neg (by decide) body
    · have hp2 : t.probe (fun i => (es[i]?.map Prod.fst).getD 0) (thash P w k) (stp t.mask (thash P w k) c) = some (.empty (way t.mask (thash P w k) g) none) := by
        have u := sl (g - c)
        rw [gc] at u
        rw [← u]
        exact hp
      rw [hp2]
      refine wpAny_pure (no fun hm => ?_)
      obtain ⟨q, hq, hk⟩ := List.mem_map.mp hm
      obtain ⟨i, hi⟩ := List.getElem?_of_mem hq
      obtain ⟨d, u1, u2, u3⟩ := left i q hi hk
      exact skip (d - c) i (by omega) (by rw [sl, Nat.add_sub_cancel' u1]; exact u3) (by rw [hash hi, hk])
theorem bag_search (B : Bag P w s.heap a L es ep t) (hx : IsT P w s.heap k x) (hu : A.units < cLine) (yes : k ∈ L.map Prod.snd → Q (.there none) s)
    (no : ∀ g, k ∉ L.map Prod.snd → way t.mask (thash P w k) g ∉ t.place.toList → (∀ c, c < g → way t.mask (thash P w k) c ∈ t.place.toList) → Q (.free (way t.mask (thash P w k) g) false) s) :
    wpAny (model P w) A (setSearch a (.ref x) (thash P w k) true) Q E s := by
  have room := B.room
  have big := B.tb.two.big
  obtain ⟨g, hg, g0, g1⟩ := B.tb.gap (by rw [List.length_map]; omega) (thash P w k)
  refine bag_from B hx hu hg g0 g1 yes (fun z => no g z g0 g1) 100000 0 none rfl (Nat.zero_le g) (by have : SetTable.turns t.mask = t.mask + 15 := rfl; omega) fun i q hq hk => ?_
  have u : i < t.place.toList.length := by
    rw [Array.length_toList, B.tb.len, List.length_map]
    exact (List.getElem?_eq_some_iff.mp hq).1
  have hj := List.getElem?_eq_getElem u
  obtain ⟨d, u1, u2⟩ := B.tb.ahead g0 (i := i) (by rw [List.getElem?_map, hq, ← hk] <;> rfl) hj
  exact ⟨d, Nat.zero_le d, u1, by rw [u2, hj]⟩
end
end RQ

/-! RqW: a set of tuples grows. -/
namespace RQ
open PySem PySem.Spec PyProof.Rows L2

theorem above_two (n : Nat) (h : n ≤ 8191) : ∃ m, SetTable.sizeAbove n = m + 1 ∧ Two m ∧ n ≤ m := by
  have go : ∀ (c k : Nat), 3 ≤ k → k + c = 13 → ∀ f, c < f → (∃ m, SetTable.sizeAbove.go n f (2 ^ k) = m + 1 ∧ Two m ∧ n ≤ m) := by
    intro c
    induction c with
    | zero =>
      intro k a b f hf
      obtain ⟨f, rfl⟩ : ∃ e, f = e + 1 := ⟨f - 1, by omega⟩
      have e : k = 13 := by omega
      subst e
      refine ⟨8191, ?_, ⟨13, by decide, by decide, rfl⟩, h⟩
      show (if 2 ^ 13 ≤ n then _ else 2 ^ 13) = _
      rw [if_neg (by omega)]
    | succ c ih =>
      intro k a b f hf
      obtain ⟨f, rfl⟩ : ∃ e, f = e + 1 := ⟨f - 1, by omega⟩
      show ∃ m, (if 2 ^ k ≤ n then SetTable.sizeAbove.go n f (2 ^ k * 2) else 2 ^ k) = m + 1 ∧ _
      by_cases d : 2 ^ k ≤ n
      · rw [if_pos d, ← Nat.pow_succ]
        exact ih (k + 1) (by omega) (by omega) f (by omega)
      · have pos := Nat.two_pow_pos k
        rw [if_neg d]
        exact ⟨2 ^ k - 1, by omega, ⟨k, a, by omega, by omega⟩, by omega⟩
  exact go 10 3 (by decide) (by decide) 64 (by decide)

section
variable {P : Program} {w : World} {A : Around} {E : Value → Shared → Prop} {s : Shared} {a : Addr} {L : List (Addr × List Int)} {es : Array (Int × Value)} {ep : Nat} {t : SetTable} {x : Addr} {k : List Int}
/-- the table laid anew -/
theorem bag_relay {o : Obj} (ho : s.heap.get? a = some o) (hex : o.ExactSet) (hd : o.data = .set es ep t) (rows : es.toList = rowsOf P w L) (T : Tb t (L.map fun q => thash P w q.2)) (hl : L.length ≤ t.mask)
    (apart : (L.map Prod.snd).Nodup) (tups : ∀ q ∈ L, IsT P w s.heap q.2 q.1) (plain : t.plain = true) {n : Nat} (hn : n ≤ 8191) (hn2 : L.length * 5 < n * 3) {Q : Unit → Shared → Prop}
    (go : ∀ h' L' es' ep' t', Heap.SameBut a s.heap h' → Bag P w h' a L' es' ep' t' → L'.Perm L → Q () { s with heap := h' }) : wpAny (model P w) A (setRelay a n) Q E s := by
  obtain ⟨m, em, tm, nm⟩ := above_two n hn
  have big := tm.big
  have sz := rows_size rows
  obtain ⟨t', od, e, pm, T', mk, _, pl⟩ := tb_laid t (xs := es.map Prod.fst) em tm (by rw [Array.size_map, sz]; omega)
  rw [Array.size_map, sz] at pm
  obtain ⟨M, r1, r2, r3⟩ := order_rows L es od rows pm
  rw [← r3] at T'
  have sz' : (od.filterMap (es[·]?)).size = es.size := by rw [rows_size r1, r2.length_eq, sz]
  rw [setRelay_eq]
  refine wpAny_bind (wpAny_setState_of ho hd (tb_fits T (by rw [List.length_map]; exact hl) (by rw [List.length_map, sz])) ?_)
  dsimp only
  refine wp_if_neg (by rw [sizeLine_eq, em]; omega) ?_
  rw [e]
  refine wpAny_bind (wp_if_neg (by rw [sz']; simp) (wpAny_pure ?_))
  dsimp only
  refine wpAny_storeSet_of ho hd ?_ (by rw [sz', sz, sizeLine_eq]; omega)
  have but : Heap.SameBut a s.heap (s.heap.update a (Obj.putSet (od.filterMap (es[·]?)) t')) := Heap.SameBut.update ..
  refine go _ M _ _ t' but ⟨⟨_, store_at ho hd, ⟨hex.1, hex.2.1, hex.2.2⟩, rfl⟩, r1, T', ?_, fun q hq => isT_same (tups q (r2.mem_iff.mp hq)) ho hd but, pl.trans plain, ?_⟩ r2
  · exact (r2.map Prod.snd).nodup_iff.mpr apart
  · rw [r2.length_eq, mk]; omega
/-- one tuple added -/
theorem bag_add (B : Bag P w s.heap a L es ep t) (hx : IsT P w s.heap k x) (hu : A.units < cLine) (few : L.length + 1 ≤ 2000) {Q : Bool → Shared → Prop}
    (go : ∀ b h' L' es' ep' t', Heap.SameBut a s.heap h' → Bag P w h' a L' es' ep' t' → (k ∈ L.map Prod.snd → L' = L) → (k ∉ L.map Prod.snd → L'.Perm ((x, k) :: L)) → Q b { s with heap := h' }) :
    wpAny (model P w) A (setAddHashed a (.ref x) (thash P w k)) Q E s := by
  obtain ⟨o, ho, hex, hd⟩ := B.here
  have sz := rows_size B.rows
  have room := B.room
  have big := B.tb.two.big
  unfold setAddHashed
  refine wpAny_holding ?_
  show wpAny _ _ (setAddHashedIn a _ _ (99999 + 1)) _ _ s
  rw [setAddHashedIn_succ]
  refine wpAny_bind (wpAny_setState_of ho hd B.fits ?_)
  dsimp only
  refine wp_if_neg (by simp [byScan, Value.scannable]) ?_
  refine wpAny_bind (bag_search B hx hu (fun hm => ?_) fun g hm g0 g1 => ?_)
  · exact wpAny_pure (go false s.heap L es ep t (Heap.SameBut.refl a s.heap) B (fun _ => rfl) fun z => (z hm).elim)
  · dsimp only
    refine wpAny_bind (wpAny_setState_of ho hd B.fits ?_)
    obtain ⟨low, T1, fl⟩ := B.tb.more rfl g0 g1
    have n1 : (t.put (way t.mask (thash P w k) g)).2 = SetTable.below t.place (way t.mask (thash P w k) g) := rfl
    have n2 : (t.put (way t.mask (thash P w k) g)).1.plain = t.plain := rfl
    have n3 : (t.put (way t.mask (thash P w k) g)).1.mask = t.mask := rfl
    generalize SetTable.below t.place (way t.mask (thash P w k) g) = p at low T1 n1
    generalize t.put (way t.mask (thash P w k) g) = pt at T1 fl n1 n2 n3 ⊢
    obtain ⟨t1, p1⟩ := pt
    dsimp only at T1 fl n1 n2 n3 ⊢
    subst n1
    have pl1 : t1.plain = true := n2.trans B.plain
    refine wp_if_pos pl1 (wpAny_bind (hashBy_tup hx ?_))
    simp only [if_true]
    have pm := put_perm L p1 (x, k)
    have rows1 : (SetTable.insertAt es p1 (thash P w k, Value.ref x)).toList = rowsOf P w (L.take p1 ++ (x, k) :: L.drop p1) := by rw [SetTable.toList_insertAt, B.rows, rows_put]
    have T2 : Tb t1 ((L.take p1 ++ (x, k) :: L.drop p1).map fun q => thash P w q.2) := by simpa using T1
    generalize L.take p1 ++ (x, k) :: L.drop p1 = L1 at pm rows1 T2
    generalize SetTable.insertAt es p1 (thash P w k, Value.ref x) = es1 at rows1 ⊢
    have len1 : L1.length = L.length + 1 := pm.length_eq
    have sz1 : es1.size = L.length + 1 := (rows_size rows1).trans len1
    have apart1 : (L1.map Prod.snd).Nodup := (pm.map Prod.snd).nodup_iff.mpr (List.nodup_cons.mpr ⟨hm, B.apart⟩)
    refine wpAny_bind (wpAny_storeSet_of ho hd ?_ (by rw [sz1, sizeLine_eq]; omega))
    have but : Heap.SameBut a s.heap (s.heap.update a (Obj.putSet es1 t1)) := Heap.SameBut.update ..
    have ho1 := store_at (es' := es1) (t' := t1) ho hd
    generalize s.heap.update a (Obj.putSet es1 t1) = h1 at but ho1 ⊢
    have tups1 : ∀ q ∈ L1, IsT P w h1 q.2 q.1 := fun q hq => by
      rcases List.mem_cons.mp (pm.mem_iff.mp hq) with e | hq
      · exact e ▸ isT_same hx ho hd but
      · exact isT_same (B.tups q hq) ho hd but
    have fl1 : t1.fill = L.length + 1 := by rw [fl, List.length_map]
    have tooF : t1.tooFull = true ↔ t1.mask * 3 ≤ (L.length + 1) * 5 := by simp [SetTable.tooFull, fl1]
    by_cases hf : t1.tooFull = true
    · refine wp_if_pos (by simp [hf]) (wpAny_bind ?_)
      have gr : SetTable.grown (es.size + 1) = (L.length + 1) * 4 := by unfold SetTable.grown; rw [sz, if_neg (by omega)]
      rw [gr]
      refine bag_relay (s := { s with heap := h1 }) ho1 ⟨hex.1, hex.2.1, hex.2.2⟩ rfl rows1 T2 (by rw [len1, n3]; omega) apart1 tups1 pl1 (by omega) (by omega) fun h2 L2 es2 ep2 t2 but2 B2 pm2 => ?_
      exact wpAny_pure (go true h2 L2 es2 ep2 t2 (but.trans but2) B2 (fun z => (hm z).elim) fun _ => pm2.trans pm)
    · refine wp_if_neg (by simp [hf]) ?_
      exact wpAny_pure (go true h1 L1 es1 _ t1 but ⟨⟨_, ho1, ⟨hex.1, hex.2.1, hex.2.2⟩, rfl⟩, rows1, T2, apart1, tups1, pl1, by rw [tooF] at hf; omega⟩ (fun z => (hm z).elim) fun _ => pm)
end
end RQ

/-! RqX: set(xs), xs a list of tuples of whole numbers. -/
namespace RQ
open PySem PySem.Spec PyProof.Rows L2

/-- an object of a new set -/
abbrev bare (w : World) : Obj := { cls := .type "set", dict := none, data := .set #[] 0 (.fresh 0 0 (!w.params.followText "set-order")) }
section
variable {P : Program} {w : World}
theorem bag_new {h : Heap} {a : Addr} (e : h.get? a = some (bare w)) : Bag P w h a [] #[] 0 (.fresh 0 0 (!w.params.followText "set-order")) := by
  refine ⟨⟨_, e, ⟨rfl, rfl, rfl⟩, rfl⟩, rfl, ?_, List.nodup_nil, fun _ z => (nomatch z), rfl, by show 0 * 5 < 7 * 3; decide⟩
  exact ⟨List.Pairwise.nil, rfl, rfl, ⟨3, by decide, by decide, rfl⟩, fun _ z => (nomatch z), fun i x j z => by simp at z⟩
theorem Bag.later {h h' : Heap} {a : Addr} {L : List (Addr × List Int)} {es : Array (Int × Value)} {ep : Nat} {t : SetTable} (B : Bag P w h a L es ep t) (same : ∀ o, h.get? a = some o → h'.get? a = some o) (ts : ∀ q ∈ L, IsT P w h' q.2 q.1) :
    Bag P w h' a L es ep t :=
  have ⟨o, e, r⟩ := B.here
  ⟨⟨o, same o e, r⟩, B.rows, B.tb, B.apart, ts, B.plain, B.room⟩
/-- the set at a has what the first i of ks give -/
def Part (P : Program) (w : World) (ks : List (Addr × List Int)) (a : Addr) (i : Nat) (h : Heap) : Prop := ∃ L es ep t, Bag P w h a L es ep t ∧ Got ks i L
end
section
variable {P : Program} {w : World} {A : Around} {E : Value → Shared → Prop}
/-- the loop that puts a list's items into a set -/
theorem set_fill {I : Addr} {fp wr : List Addr} {G : Array GenState → Array GenState → Prop} {n : Nat} {Pv : Nat → Value → Prop} {St : Nat → Shared → Prop} {Z : Result → Shared → Prop} {ks : List (Addr × List Int)} {a : Addr} {h0 : Heap}
    (W : WalksS P w A.in1 I fp wr G n Pv St) (out : a ∉ fp) (hn : ks.length = n) (few : ∀ i L, i < n → Got ks i L → (L.map Prod.snd).Nodup → L.length + 1 ≤ 2000) (val : ∀ i v, Pv i v → ∃ q, ks[i]? = some q ∧ v = .ref q.1) (old : ∀ q ∈ ks, IsT P w h0 q.2 q.1) (a0 : h0.get? a = none)
    (w0 : ∀ b ∈ wr, h0.get? b = none) (hu : A.in1.units < cLine) (r : Nat) : ∀ (i : Nat) (s : Shared), i + r = n → St i s → (∀ b o, h0.get? b = some o → s.heap.get? b = some o) → Part P w ks a i s.heap →
      (∀ s', Moved (a :: wr) G s s' → Part P w ks a n s'.heap → (∀ b o, h0.get? b = some o → s'.heap.get? b = some o) → Z (.ok (.ret .none)) s') →
      codeAny (model P w) A (.builtin "set.update.loop" ⟨[.ref a, .ref I], []⟩) Z s := by
  have apart : a ∉ wr := fun z => out (W.sub a z)
  have wide : ∀ b ∈ wr, b ∈ a :: wr := fun b z => List.mem_cons_of_mem a z
  -- what a step of the walk leaves
  have step : ∀ {i : Nat} {s s' : Shared}, Moved wr G s s' → (∀ b o, h0.get? b = some o → s.heap.get? b = some o) → Part P w ks a i s.heap →
      (∀ b o, h0.get? b = some o → s'.heap.get? b = some o) ∧ ∃ L es ep t, Bag P w s'.heap a L es ep t ∧ Got ks i L := by
    intro i s s' m k0 ⟨L, es, ep, t, B, g⟩
    have k1 : ∀ b o, h0.get? b = some o → s'.heap.get? b = some o := fun b o e => m.heap b o (fun z => nomatch (w0 b z).symm.trans e) (k0 b o e)
    refine ⟨k1, L, es, ep, t, B.later (fun o e => m.heap a o apart e) fun q hq => ?_, g⟩
    exact isT_keep (old q (List.mem_of_mem_take (g.sub q hq))) k1
  induction r with
  | zero =>
    intro i s hi st k0 part fin
    have e : i = n := hi
    subst e
    refine codeAny_builtin F.entry_set_update_loop ?_
    rw [Around.under_plainId F.plain_set_update_loop _]
    show wpAny _ A.in1 (pyNext (.ref I) >>= _) _ _ s
    refine wpAny_bind (W.done s _ _ st fun s' m => ?_)
    obtain ⟨k1, part'⟩ := step m k0 part
    exact wpAny_pure (fin s' (m.mono wide) part' k1)
  | succ r ih =>
    intro i s hi st k0 part fin
    refine codeAny_builtin F.entry_set_update_loop ?_
    rw [Around.under_plainId F.plain_set_update_loop _]
    show wpAny _ A.in1 (pyNext (.ref I) >>= _) _ _ s
    refine wpAny_bind (W.item i s _ _ (by omega) st fun v s' hv st' m => ?_)
    obtain ⟨q, hq, rfl⟩ := val i v hv
    obtain ⟨k1, L, es, ep, t, B, g⟩ := step m k0 part
    have tq : IsT P w s'.heap q.2 q.1 := isT_keep (old q (List.mem_of_getElem? hq)) k1
    have short := few i L (by omega) g B.apart
    show wpAny _ A.in1 (holding [Value.ref q.1] (setAdd a (.ref q.1)) >>= _) _ _ s'
    refine wpAny_bind (wpAny_holding ?_)
    refine wpAny_holding (wpAny_bind (wpAny_pyHash_tuple hu tq ?_))
    refine bag_add (s := { s' with toks := s'.toks + (q.2.length + 1) }) B tq hu short fun b h' L' es' ep' t' but B' c1 c2 => ?_
    have far : ∀ c, c ≠ a → h'.get? c = s'.heap.get? c := but.2
    have k2 : ∀ c o, h0.get? c = some o → h'.get? c = some o := fun c o e => (far c fun z => by rw [z, a0] at e; cases e).trans (k1 c o e)
    have g' : Got ks (i + 1) L' := (Classical.em (q.2 ∈ L.map Prod.snd)).elim (fun y => c1 y ▸ g.same hq y) fun y => g.more hq (c2 y)
    refine wpAny_pure ⟨plainId_quiet F.plain_set_update_loop _, ih (i + 1) _ (by omega) (W.frame _ s' _ _ st' (Nat.le_add_right _ _) fun c hc o e => ?_) k2 ⟨L', es', ep', t', B', g'⟩ fun s2 m2 => fin s2 ?_⟩
    · exact (far c fun z => out (z ▸ hc)).trans e
    · exact Moved.trans W.gtrans ((m.mono wide).then_heap (Nat.le_add_right _ _) fun c o hc e => (far c fun z => hc (z ▸ List.mem_cons_self)).trans e) m2
end

section
variable {P : Program} {w : World} {A : Around} {E : Value → Shared → Prop} {s : Shared}
set_option maxHeartbeats 3200000 in
/-- set(xs) -/
theorem set_made {l : Addr} {vs : Array Value} {ks : List (Addr × List Int)} {Q : Value → Shared → Prop} (quiet : A.handled = none) (hl : s.heap.IsList l vs) (hv : vs.toList = ks.map fun q => Value.ref q.1)
    (ts : ∀ q ∈ ks, IsT P w s.heap q.2 q.1) (few : ∀ i L, i < ks.length → Got ks i L → (L.map Prod.snd).Nodup → L.length + 1 ≤ 2000) (hu : A.units + 3 < cLine)
    (go : ∀ (h' : Heap) (tk : Nat), Part P w ks s.heap.objs.size ks.length h' → (∀ b o, s.heap.get? b = some o → h'.get? b = some o) → Q (.ref s.heap.objs.size) { s with heap := h', toks := tk }) :
    wpAny (model P w) A (call (.type "set") [.ref l]) Q E s := by
  have len : vs.size = ks.length := by rw [← Array.length_toList, hv, List.length_map]
  have beyond : ∀ b, s.heap.objs.size ≤ b → s.heap.get? b = none := fun b z => Option.eq_none_iff_forall_ne_some.mpr fun o e => Nat.not_lt_of_le z (Heap.lt_size e)
  have named : ∀ (i : Nat) (v : Value), vs[i]? = some v → ∃ q, ks[i]? = some q ∧ v = Value.ref q.1 := fun i v e => by
    rw [← Array.getElem?_toList, hv, List.getElem?_map] at e
    obtain ⟨q, a, b⟩ := Option.map_eq_some_iff.mp e
    exact ⟨q, a, b.symm⟩
  obtain ⟨top, more, order⟩ := F.called_set.mro
  have f1 := F.called_set.made
  have f2 := F.called_set.sub
  have f3 := F.called_set.notType
  have f4 := F.called_set.canCreate
  have f5 := F.typeCall_set_1 (.ref l)
  refine wpAny_call (codeAny_of_tree ?_)
  show wpAny _ _ (callAny (.type "set") _) _ _ _
  refine wpAny_pure ⟨Code.quiet_builtin _ (by decide +kernel), codeAny_builtin F.entry_type_call ?_⟩
  rw [Around.under_plain (weight_type_call_type "set" [.ref l] []) rfl]
  repeat (any_goals (first | assumption | wp_step))
  refine codeAny_mono (code_set_led1 (.ref l) (E := E) (Q₁ := fun v s1 => v = .ref s.heap.objs.size ∧ s1 = { s with heap := s.heap.push (bare w) }) ⟨rfl, rfl⟩) fun res s1 h1 => ?_
  match res, h1 with
  | .error _, h1 => exact h1
  | .ok (.ret v), h1 =>
    obtain ⟨rfl, rfl⟩ := h1
    have born : (s.heap.push (bare w)).get? s.heap.objs.size = some (bare w) := Heap.get?_push_size _ rfl
    have kind : Shared.TypeIs { s with heap := s.heap.push (bare w) } (.ref s.heap.objs.size) "set" := ⟨_, born, rfl⟩
    have f6 := F.called_set.init.lookup
    have f7 := F.called_set.init.bind (.ref s.heap.objs.size)
    repeat (any_goals (first | assumption | wp_step))
    refine codeAny_mono (codeAny_call_builtin (R := wants (fun v s2 => v = .none ∧ ∃ h' tk, s2 = { s with heap := h', toks := tk } ∧ Part P w ks s.heap.objs.size ks.length h' ∧ (∀ b o, s.heap.get? b = some o → h'.get? b = some o)) E)
      F.called_set.init.plain F.entry_set_init (check_set_init_1 kind ?_)) fun res s2 h2 => ?_
    · obtain ⟨⟨ocls, odict, odata, oslots⟩, hol, hcl, nl, hdl⟩ := hl
      cases hcl
      cases hdl
      have lt : l < s.heap.objs.size := Heap.lt_size hol
      have hol1 : (s.heap.push (bare w)).get? l = some { cls := .type "list", dict := odict, data := .seq vs nl, slots := oslots } := Heap.get?_push_of_some _ hol
      have lst1 : (s.heap.push (bare w)).IsList l vs := ⟨_, hol1, rfl, nl, rfl⟩
      have f8 := F.sub_list_set
      have f9 := F.sub_list_frozenset
      have f10 : (Value.type "list" == Value.type "dict") = false := by decide
      unfold Builtin.«set.__init__» noKeywords Builtin.Frozenset.updateFrom
      generalize it : pyIter = PI
      wp_walk
      subst it
      refine wpAny_pyIter_list lst1 (wpAny_bind (wpAny_runValue ?_))
      have quiet3 : A.in1.in1.in1.handled = none := by simp [quiet]
      have grown : (s.heap.push (bare w)).objs.size = s.heap.objs.size + 1 := Heap.size_push ..
      have apart1 : l ≠ (s.heap.push (bare w)).objs.size := by rw [grown]; exact Nat.ne_of_lt (Nat.lt_succ_of_lt lt)
      have apart2 : s.heap.objs.size ∉ [(s.heap.push (bare w)).objs.size, l] := by
        rw [grown]
        exact fun z => (List.mem_cons.mp z).elim (fun y => Nat.ne_of_lt (Nat.lt_succ_self _) y) fun y => Nat.ne_of_gt lt (List.mem_singleton.mp y)
      refine set_fill (h0 := s.heap) ((Walks.list quiet3 (s.heap.push (bare w)).objs.size l apart1 vs).toS) (a := s.heap.objs.size) apart2 len.symm (fun i L hi => few i L (by omega)) named ts (beyond _ (Nat.le_refl _))
        (fun b hb => beyond b (by rw [List.mem_singleton.mp hb, grown]; omega)) hu vs.size 0 _ (Nat.zero_add _) ⟨⟨_, Heap.get?_push_size _ rfl, rfl, rfl⟩, lst1.push _⟩ (fun b o e => Heap.get?_push_of_some _ (Heap.get?_push_of_some _ e)) ?_ ?_
      · exact ⟨[], #[], 0, _, bag_new (Heap.get?_push_of_some _ born), Got.zero ks⟩
      · rintro ⟨h', gs, dr, tk, os⟩ m part keep
        cases m.gens
        cases m.drawn
        cases m.os
        rw [len] at part
        show wpAny _ _ _ _ _ _
        refine wpAny_pure ?_
        show wpAny _ _ (ret Value.none) _ _ _
        exact wpAny_pure ⟨rfl, h', tk, rfl, part, keep⟩
    · match res, h2 with
      | .error _, h2 => exact h2
      | .ok (.ret v), h2 =>
        obtain ⟨rfl, h', tk, rfl, part, keep⟩ := h2
        repeat (any_goals (first | assumption | wp_step))
        exact go h' tk part keep
end
end RQ

/-! RqY: len(set(xs)). -/
namespace RQ
open PySem PySem.Spec PyProof.Rows L2

/-- how many unlike ones there are -/
def dn : List (List Int) → Nat
  | [] => 0
  | k :: ks => if k ∈ ks then dn ks else dn ks + 1
theorem dn_le : ∀ ks, dn ks ≤ ks.length
  | [] => Nat.le_refl 0
  | k :: ks => by
    have h := dn_le ks
    rw [List.length_cons]
    unfold dn
    split <;> omega
theorem dn_all : ∀ {ks}, dn ks = ks.length ↔ ks.Nodup
  | [] => ⟨fun _ => List.nodup_nil, fun _ => rfl⟩
  | k :: ks => by
    have h := dn_le ks
    have ih := dn_all (ks := ks)
    rw [List.nodup_cons, List.length_cons]
    unfold dn
    by_cases c : k ∈ ks
    · rw [if_pos c]; exact ⟨fun z => by omega, fun z => (z.1 c).elim⟩
    · rw [if_neg c]; exact ⟨fun z => ⟨c, ih.mp (by omega)⟩, fun z => by rw [ih.mpr z.2]⟩
theorem dn_of : ∀ (ks M : List (List Int)), M.Nodup → (∀ x, x ∈ M ↔ x ∈ ks) → M.length = dn ks
  | [], M, _, h => by
    cases M with
    | nil => rfl
    | cons y M => exact nomatch (h y).mp List.mem_cons_self
  | k :: ks, M, nd, h => by
    unfold dn
    by_cases c : k ∈ ks
    · rw [if_pos c]
      refine dn_of ks M nd fun x => (h x).trans ?_
      rw [List.mem_cons]
      exact ⟨fun z => z.elim (fun e => e ▸ c) id, .inr⟩
    · rw [if_neg c]
      have hk : k ∈ M := (h k).mpr List.mem_cons_self
      have e := dn_of ks (M.erase k) (nd.erase k) fun x => by
        rw [nd.mem_erase_iff, h x, List.mem_cons]
        exact ⟨fun z => z.2.resolve_left z.1, fun z => ⟨fun y => c (y ▸ z), .inr z⟩⟩
      rw [List.length_erase_of_mem hk] at e
      have pos := List.length_pos_of_mem hk
      omega
theorem part_dn {P : Program} {w : World} {ks : List (Addr × List Int)} {a : Addr} {h : Heap} (part : Part P w ks a ks.length h) : ∃ o es ep t, h.get? a = some o ∧ o.ExactSet ∧ o.data = .set es ep t ∧ t.fits es.size = true ∧ es.size = dn (ks.map Prod.snd) := by
  obtain ⟨L, es, ep, t, B, g⟩ := part
  obtain ⟨o, e1, e2, e3⟩ := B.here
  refine ⟨o, es, ep, t, e1, e2, e3, B.fits, ?_⟩
  rw [rows_size B.rows, ← List.length_map Prod.snd]
  refine dn_of _ _ B.apart fun x => ⟨fun z => ?_, fun z => ?_⟩
  · obtain ⟨q, hq, rfl⟩ := List.mem_map.mp z
    exact List.mem_map_of_mem (List.mem_of_mem_take (g.sub q hq))
  · obtain ⟨q, hq, rfl⟩ := List.mem_map.mp z
    exact g.all q (by rw [List.take_length]; exact hq)

section
variable {X : Cx}
/-- len(set(xs)): xs a list of tuples of whole numbers -/
def tDn (K : PySem.W.Frag) (ta : TE) : TE := fun σ H Q => ta σ H fun x H1 => ∃ (l : Addr) (ks : List (Addr × List Int)), x = .ref l ∧ SqL K H1 l (ks.map fun q => .ref q.1) ∧ (∀ q ∈ ks, SqT K H1 q.1 (q.2.map V.int)) ∧ ((∀ i L, i < ks.length → Got ks i L → (L.map Prod.snd).Nodup → L.length + 1 ≤ 2000) ∧ dn (ks.map Prod.snd) ≤ 2000) ∧ Q (.int (dn (ks.map Prod.snd))) H1
theorem pe_dn {a : Expr} {ta : TE} {n1 n2 c1 c2 : Pos} (hc : X.calm = true) (hu : X.A.units + 64 < cLine) (g1 : Gl X "len") (m1 : X.mg "len" = none) (g2 : Gl X "set") (m2 : X.mg "set" = none) (ha : PE X a ta)
    (st : starEach [a] X.env = (false, eval a X.env) :: starEach [] X.env := by rfl) : PE X (.Call (.Name "len" n1) [.Call (.Name "set" n2) [a] [] c1] [] c2) (tDn X.K ta) := by
  constructor
  intro pins s σ H Q I h
  refine Call_ (ld_blt I g1 m1 PySem.boot_len (callWith_builtin1 (args_cons ?_ rfl) rfl rfl))
  refine Call_ (ld_blt I g2 m2 PyProof.Rows.boot_set (callWith_type1 (args_cons (thn (ha.run pins s σ H _ I h) ?_) st) st rfl))
  rintro v s1 ⟨x, H1, J, rel, l, ks, rfl, hl, ht, few, q⟩
  cases rel
  obtain ⟨its, rv, isl, _⟩ := J.list hl
  refine args_nil (set_made (P := X.prog) (w := X.w) (J.ok.hd hc) isl.isList (by simpa using refs_of_vals rv) (fun q hq => J.isT (ht q hq)) few.1 (by omega) fun h' tk part keep => ?_)
  obtain ⟨o, es, ep, t, e1, e2, e3, e4, e5⟩ := part_dn part
  have J2 : Inv X pins σ H1 { s1 with heap := h', toks := tk } := J.kept keep
  have small : es.size ≤ 2000 := by rw [e5]; exact few.2
  refine args_nil (call_len_set e1 e2 e3 e4 (by omega) ?_)
  exact ⟨.int (dn (ks.map Prod.snd)), H1, J2.tok _, ⟨_, by rw [e5]⟩, q⟩
end
/-- a list of tuples of whole numbers, by address -/
theorem RL.tupI {K : PySem.W.Frag} {C : Addr} {S : Hp} : ∀ {ks : List (List Int)} {xs : List V}, RL K C S (ks.map fun k => .tup (k.map .int)) xs → ∃ qs : List (Addr × List Int), xs = qs.map (fun q => .ref q.1) ∧ qs.map Prod.snd = ks ∧ ∀ q ∈ qs, SqT K S q.1 (q.2.map V.int)
  | [], xs, h => ⟨[], RL.nil_iff.mp h, rfl, fun _ z => nomatch z⟩
  | k :: ks, xs, h => by
    obtain ⟨x, r, rfl, h1, h2⟩ := RL.cons_iff.mp h
    obtain ⟨a, ys, rfl, h3, h4⟩ := R.tup_iff.mp h1
    obtain ⟨qs, rfl, e2, e3⟩ := RL.tupI h2
    refine ⟨(a, k) :: qs, rfl, by rw [List.map_cons, e2], fun q hq => ?_⟩
    rcases List.mem_cons.mp hq with e | hq
    · subst e
      rw [RL.of_ints h4] at h3
      exact h3
    · exact e3 q hq
section
variable {X : Cx} {C : Addr} {V : Vo} {env : List En} {a : Expr} {n1 n2 c1 c2 : Pos} {ks : List (List Int)} {j : Nat}
theorem dn_ge : ∀ ks M : List (List Int), M.Nodup → (∀ x ∈ M, x ∈ ks) → M.length ≤ dn ks := by
  intro ks
  induction ks with
  | nil => intro M _ h; cases M with | nil => exact Nat.le_refl _ | cons y M => exact nomatch h y List.mem_cons_self
  | cons k ks ih =>
    intro M nd h
    unfold dn
    by_cases c : k ∈ ks
    · rw [if_pos c]
      exact ih M nd fun x hx => (List.mem_cons.mp (h x hx)).elim (fun e => e ▸ c) id
    · rw [if_neg c]
      have e := ih (M.erase k) (nd.erase k) fun x hx => (List.mem_cons.mp (h x (nd.mem_erase_iff.mp hx).2)).resolve_left (nd.mem_erase_iff.mp hx).1
      by_cases hk : k ∈ M
      · rw [List.length_erase_of_mem hk] at e
        omega
      · rw [List.erase_of_not_mem hk] at e
        omega
theorem dn_in : ∀ ks M : List (List Int), (∀ x ∈ ks, x ∈ M) → dn ks ≤ M.length := by
  intro ks
  induction ks with
  | nil => intro M _; exact Nat.zero_le _
  | cons k ks ih =>
    intro M h
    unfold dn
    by_cases c : k ∈ ks
    · rw [if_pos c]
      exact ih M fun x hx => h x (List.mem_cons_of_mem _ hx)
    · rw [if_neg c]
      have hk := h k List.mem_cons_self
      have e := ih (M.erase k) fun x hx => (List.mem_erase_of_ne (fun z : x = k => c (by rw [← z]; exact hx))).mpr (h x (List.mem_cons_of_mem _ hx))
      rw [List.length_erase_of_mem hk] at e
      have := List.length_pos_of_mem hk
      omega
theorem got_dn {qs L : List (Addr × List Int)} {i : Nat} (g : Got qs i L) (nd : (L.map Prod.snd).Nodup) : L.length ≤ dn (qs.map Prod.snd) := by
  rw [← List.length_map Prod.snd]
  exact dn_ge _ _ nd fun x hx => by
    obtain ⟨q, hq, rfl⟩ := List.mem_map.mp hx
    exact List.mem_map_of_mem (List.mem_of_mem_take (g.sub q hq))
theorem je_dnG (hc : X.calm = true) (hu : X.A.units + 64 < cLine) (z : Zb X.mg) (ha : JE X C V env a (· = .lst (ks.map fun k => .tup (k.map .int)))) (few : ks.length ≤ 2000 ∨ dn ks ≤ 1999) (g1 : Gl X "len" := by rfl) (g2 : Gl X "set" := by rfl)
    (st : starEach [a] X.env = (false, eval a X.env) :: starEach [] X.env := by rfl) : JE X C V env (.Call (.Name "len" n1) [.Call (.Name "set" n2) [a] [] c1] [] c2) (· = .int (dn ks)) :=
  (pe_dn hc hu g1 z.len g2 z.set ha st).weak fun σ H Q ⟨S, o, q⟩ => ⟨S, o, fun d v S' H' p g jj r => by
    subst p
    obtain ⟨b, xs, rfl, h1, h2⟩ := R.lstL r
    obtain ⟨qs, rfl, e2, e3⟩ := RL.tupI h2
    refine ⟨b, qs, rfl, g.sub.seq h1, fun q hq => Same.seqT g.sub (e3 q hq), ⟨fun i L hi gt nd => ?_, ?_⟩, ?_⟩
    · have k1 := gt.len
      have k2 := got_dn gt nd
      have k3 : qs.length = ks.length := by rw [← e2, List.length_map]
      rw [e2] at k2
      rcases few with few | few <;> omega
    · rw [e2]
      have := dn_le ks
      rcases few with few | few <;> omega
    · rw [e2]
      exact q _ _ _ _ rfl g jj (R.int_iff.mpr rfl)⟩
theorem je_dn (hc : X.calm = true) (hu : X.A.units + 64 < cLine) (z : Zb X.mg) (ha : JE X C V env a (· = .lst (ks.map fun k => .tup (k.map .int)))) (few : ks.length ≤ 2000) (g1 : Gl X "len" := by rfl) (g2 : Gl X "set" := by rfl)
    (st : starEach [a] X.env = (false, eval a X.env) :: starEach [] X.env := by rfl) : JE X C V env (.Call (.Name "len" n1) [.Call (.Name "set" n2) [a] [] c1] [] c2) (· = .int (dn ks)) := je_dnG hc hu z ha (.inl few) g1 g2 st
end
end RQ

/-! RqZ: [e] * n; rows of one's own: a list of lists whose items are put in one by one. -/
namespace RQ
open PySem PySem.Spec PyProof.Rows L2

theorem wipe_again {σ : L2.St} {vs : List Nat} : L2.wipe (L2.wipe σ vs) vs = L2.wipe σ vs := by
  have key : ∀ ws : List Nat, ∀ τ : L2.St, (∀ i ∈ ws, τ[i]? = none ∨ τ[i]? = some none) → L2.wipe τ ws = τ := by
    intro ws
    induction ws with
    | nil => intro τ _; rfl
    | cons w ws ih =>
      intro τ hτ
      show (L2.wipe τ ws).set w none = τ
      rw [ih τ fun i hi => hτ i (List.mem_cons_of_mem _ hi)]
      rcases hτ w List.mem_cons_self with q | q
      · exact List.set_eq_of_length_le (List.getElem?_eq_none_iff.mp q)
      · obtain ⟨q1, q2⟩ := List.getElem?_eq_some_iff.mp q
        exact List.ext_getElem? fun j => by
          rw [List.getElem?_set]
          by_cases hj : w = j
          · subst hj; rw [if_pos rfl, if_pos q1, q]
          · rw [if_neg hj]
  refine key vs _ fun i hi => ?_
  cases q : (L2.wipe σ vs)[i]? with
  | none => exact .inl rfl
  | some u =>
    cases u with
    | none => exact .inr rfl
    | some v => exact absurd hi (L2.wipe_some q).2

/-! ### [e] * n -/
section
variable {X : Cx} {C : Addr} {V : Vo} {env : List En} {e a b : Expr} {d : D} {n : Int} {lp pos : Pos}
def tRep (K : PySem.W.Frag) (C : Addr) (V : Vo) (env : List En) (d : D) (m : Nat) : TE := fun σ H Q => ∃ S, Ok K C V S H σ env ∧ ∀ v p S' H', Gr V.M S H S' H' → V.J S' H' → R K C S' d v → H' p = none → Q (.ref p) (upd H' p (.lst (List.replicate m v)))
theorem pe_repD (ha : JE X C V env a (· = d)) (hb : JE X C V env b (· = .int n)) (hn : -(2 ^ 63) ≤ n ∧ n ≤ 1000000) (hs : starEach [a] X.env = (false, eval a X.env) :: starEach [] X.env := by rfl) : PE X (.BinOp (.List [a] lp) .Mult b pos) (tRep X.K C V env d n.toNat) :=
  (pe_op op_rep (pe_lst (ja_cons ha ja_nil hs)) hb).weak fun σ H Q ⟨S, o, k⟩ => ⟨S, o, fun ds vs S1 H1 q g j r => by
    subst q
    obtain ⟨v, rfl, r1⟩ := RL.one r
    refine ⟨small (by show 1 ≤ 1000000; decide), fun p hp => ?_⟩
    have g2 : Gr M0 S1 H1 (upd S1 p (.lst [v])) (upd H1 p (.lst [v])) := .new g.sub hp
    refine ⟨upd S1 p (.lst [v]), (o.gr g j).gr0 g2, fun d2 v2 S2 H2 e2 g3 j3 r3 => ?_⟩
    subst e2
    rw [R.int_iff] at r3
    subst r3
    have at2 : H2 p = some (.lst [v]) := g3.sub p _ (g3.s p _ upd_same)
    have len : (List.replicate n.toNat [v]).flatten = List.replicate n.toNat v := by
      generalize n.toNat = m
      induction m with
      | zero => rfl
      | succ m ih => rw [List.replicate_succ, List.flatten_cons, ih, List.replicate_succ]; rfl
    refine ⟨p, n, [v], rfl, rfl, at2, hn.1, by omega, ?_, fun q hq => ?_⟩
    · have : (sizeLine : Nat) = 2 ^ 24 := rfl
      show 1 * n.toNat ≤ sizeLine
      omega
    · rw [len]
      exact k v q S2 H2 ((g.trans g2.up0).trans g3) j3 ((r1.mono g2.s).mono g3.s) hq⟩
theorem RL.rep {K : PySem.W.Frag} {S : Hp} {v : L2.V} (r : R K C S d v) : ∀ m, RL K C S (List.replicate m d) (List.replicate m v)
  | 0 => RL.nil
  | m + 1 => RL.cons r (RL.rep r m)
theorem je_repL (ha : JE X C V env a (· = d)) (hb : JE X C V env b (· = .int n)) (hn : -(2 ^ 63) ≤ n ∧ n ≤ 1000000) (hs : starEach [a] X.env = (false, eval a X.env) :: starEach [] X.env := by rfl) : JE X C V env (.BinOp (.List [a] lp) .Mult b pos) (· = .lst (List.replicate n.toNat d)) :=
  (pe_repD ha hb hn hs).weak fun σ H Q ⟨S, o, k⟩ => ⟨S, o, fun v p S' H' g j r hp => by
    have g2 : Gr M0 S' H' (upd S' p (.lst (List.replicate n.toNat v))) (upd H' p (.lst (List.replicate n.toNat v))) := .new g.sub hp
    exact k _ _ _ _ rfl (g.trans g2.up0) (V.gr0 g2 j) (R.mkL upd_same ((RL.rep r _).mono g2.s))⟩
end

/-! ### rows -/
def RowsAt (H : Hp) (qs : List Addr) (rs : List (List Int)) : Prop := qs.length = rs.length ∧ ∀ (i : Nat) (q : Addr) (r : List Int), qs[i]? = some q → rs[i]? = some r → H q = some (.lst (r.map L2.V.int))
def Vo.rows (V : Vo) (qs : List Addr) (rs : List (List Int)) : Vo := ⟨fun q => V.M q ∨ q ∈ qs, fun S H => V.J S H ∧ qs.Nodup ∧ (∀ q ∈ qs, S q = none ∧ ¬ V.M q) ∧ RowsAt H qs rs, fun S H q ⟨j1, j2, j3, j4, j5⟩ m => by
    rcases m with m | m
    · exact V.th S H q j1 m
    · obtain ⟨i, hi⟩ := List.getElem?_of_mem m
      have hl : i < rs.length := j4 ▸ (List.getElem?_eq_some_iff.mp hi).1
      exact ⟨⟨_, j5 i q _ hi (List.getElem?_eq_getElem hl)⟩, (j3 q m).1⟩,
  fun S H S' H' ⟨j1, j2, j3, j4, j5⟩ ss sub h1 h2 => ⟨V.st S H S' H' j1 ss sub (fun q m => h1 q (.inl m)) (fun q m => h2 q (.inl m)), j2, fun q m => ⟨h2 q (.inr m), (j3 q m).2⟩, j4, fun i q r a b => (h1 q (.inr (List.mem_of_getElem? a))).trans (j5 i q r a b)⟩⟩
section
variable {X : Cx} {C : Addr} {T : Tx} {A : Am} {V : Vo} {env : List En} {e a b elt iter oe ie : Expr} {pos po lp spos py p1 : Pos} {c : Int} {m i j : Nat} {y kn : Str} {scope : Scope} {own : List (Str × Nat)} {ds : List D} {Rt : D → Prop} {W : WX} {Et : Err → Prop} {qs : List Addr} {rs : List (List Int)} {rest : List Stmt} {N : List En → Vo → Prop}
/-- x = [[c] * m for k in ..] -/
theorem z_rows (hc : X.calm = true) (hN : X.N.Nodup) (hy : X.N[i]? = some y) (hyl : X.env.scope.names.lookup y = some .local) (hsw : swapsWith (.ListComp elt [⟨.Name kn p1, iter, [], 0⟩] scope pos) (some (.Name y py)) spos.line X.env = pure true)
    (hi : JI X C V env (.Name kn p1) iter (· = ds)) (ok : BlkOk X.N X.env.scope scope own)
    (hg : ∀ (s : Shared) (H : Hp) (Cc : Addr) (cl : List (Str × Addr)) (fp : List Addr), PG (X.blk s H scope (compEnvC scope cl Cc X.env) fp) (.Name kn p1) (gB X.K C (own.map (·.2)) (bN j)))
    (he : ∀ (s : Shared) (H : Hp) (Cc : Addr) (cl : List (Str × Addr)) (fp : List Addr) (d : D), d ∈ ds → PE (X.blk s H scope (compEnvC scope cl Cc X.env) fp) elt (tRep X.K C V ((wipeE env (own.map (·.2))).set j (.d d)) (.int c) m))
    (hz : ds.length ≤ 1000000) (hs : ∀ x, foldedSetIterable iter X.env x = pure x := by intro _; rfl) :
    JZt X C T A V env (.Assign [.Name y py] (.ListComp elt [⟨.Name kn p1, iter, [], 0⟩] scope pos) spos) (fun env' V' => ∃ qs, qs.length = ds.length ∧ env' = env.set i (.d (.lst (qs.map fun q => .raw (.ref q)))) ∧ V' = V.rows qs (List.replicate ds.length (List.replicate m c))) Rt W Et :=
  (ps_setLc hc hN hy hyl hsw hi ok hg
    (fun s H Cc cl fp => pts_fam (P := fun _ => True) (t := fun q : List En => tJT X.K C V q (· = true)) fun q _ => jts_nil)
    (fun s H Cc cl fp => pe_fam (P := fun d => d ∈ ds) (he s H Cc cl fp)) hs).weak fun DD σ H ⟨S, z, k1, _, _⟩ => ⟨S, z.ok, fun ds' J S1 H1 p1 g1 j1 wk => fun L hL => by
  subst p1
  generalize hvs : own.map (·.2) = vs
  have hM := V.new hL j1
  have old : ∀ {q : Addr} {H2 : Hp}, (∀ b u, H b = some u → ∃ u', H2 b = some u') → H2 q = none → H q = none := fun {q H2} h z => by
    cases w : H q with
    | none => rfl
    | some u =>
      obtain ⟨u', e⟩ := h q u w
      rw [z] at e; cases e
  have hLH : H L = none := old g1.m hL
  have sL1 : S1 L = none := by
    cases q : S1 L with
    | none => rfl
    | some u => rw [g1.sub L u q] at hL; cases hL
  refine ⟨fun i m' H' => m' = ds'.length - i ∧ i ≤ ds'.length ∧ ∃ (S' : Hp) (qs : List Addr), Gr V.M S H S' H' ∧ Same S1 S' ∧ V.J S' H' ∧ S' L = none ∧ H' L = some (.lst (qs.map fun q => .ref q)) ∧ qs.length = i ∧ qs.Nodup ∧
      ∀ q ∈ qs, S' q = none ∧ ¬ V.M q ∧ H q = none ∧ q ≠ L ∧ H' q = some (.lst ((List.replicate m c).map L2.V.int)),
    ⟨ds'.length, by omega, by omega, S1, [], g1.trans (Gr.mine g1.sub hL), .refl S1, V.gr0 (Gr.mine g1.sub hL) j1, sL1, upd_same, rfl, List.nodup_nil, fun _ z => nomatch z⟩, fun i m' H' ⟨em, hi, S', qs, g, ss, j, sL, hL', ql, qn, qa⟩ => ?_⟩
  by_cases hlt : i < ds'.length
  · refine .inr ⟨wk.go i H' (ss.trans g.sub) hlt, fun H2 => i + 1 ≤ ds'.length ∧ ∃ (S' : Hp) (qs : List Addr), Gr V.M S H S' H2 ∧ Same S1 S' ∧ V.J S' H2 ∧ S' L = none ∧ H2 L = some (.lst (qs.map fun q => .ref q)) ∧ qs.length = i + 1 ∧ qs.Nodup ∧
      ∀ q ∈ qs, S' q = none ∧ ¬ V.M q ∧ H q = none ∧ q ≠ L ∧ H2 q = some (.lst ((List.replicate m c).map L2.V.int)), fun H2 ⟨hl, q⟩ => ⟨ds'.length - (i + 1), by omega, rfl, hl, q⟩, fun x H2 y => ?_⟩
    have hd : ds'[i]? = some ds'[i] := List.getElem?_eq_getElem hlt
    obtain ⟨S2, g2, r2⟩ := wk.yld i ds'[i] S' H' x H2 ss g.sub hd y
    have rs2 : RS X.K C S2 (L2.wipe σ vs) (wipeE env vs) := RS.wipe ((z.ok.rs.mono g.s).mono g2.s) vs
    refine ⟨S2, ds'[i], wipeE env vs, _, g2.sub, rs2, r2, rfl, fun σ3 rs3 hw => ⟨hw.trans wipe_again, (wipeE env vs).set _ (.d ds'[i]), True.intro, S2, ⟨g2.sub, V.gr0 g2 j, rs3⟩, fun b S3 H3 hb g3 j3 => ?_⟩⟩
    subst hb
    refine iteT ⟨ds'[i], List.getElem_mem hlt, S3, ⟨g3.sub, j3, rs3.mono g3.s⟩, fun v p S4 H4 g4 j4 r4 hp => ?_⟩
    rw [R.int_iff] at r4
    subst r4
    have row : List.replicate m (L2.V.int c) = (List.replicate m c).map L2.V.int := by rw [List.map_replicate]
    rw [row]
    have up : ∀ {b : Addr} {u : HO}, ¬ V.M b → H' b = some u → H4 b = some u := fun n w => g4.h _ _ n (g3.h _ _ n (g2.h _ _ (fun z => z) w))
    have sup : ∀ {b : Addr} {u : HO}, ¬ V.M b → H' b = some u → S' b = none → S4 b = none := fun {b u} n w s => g4.n b _ (g3.h b _ n (g2.h b _ (fun z => z) w)) (g3.n b _ (g2.h b _ (fun z => z) w) (g2.n b _ w s))
    have hL4 := up hM hL'
    have gA := ((g.trans g2.up0).trans g3).trans g4
    have pL : p ≠ L := fun z => by rw [z, hL4] at hp; cases hp
    have gm := Gr.mine (M := V.M) (o := .lst ((List.replicate m c).map L2.V.int)) gA.sub hp
    have j5 := V.gr0 (Gr.mine (o := .lst ((List.replicate m c).map L2.V.int)) gA.sub hp) j4
    have sL4 := sup hM hL' sL
    have gB := gA.trans gm
    have sp : S4 p = none := by
      cases w : S4 p with
      | none => rfl
      | some u => rw [gA.sub p u w] at hp; cases hp
    have hpH : H p = none := old gA.m hp
    have pM : ¬ V.M p := V.new hp j4
    refine ⟨qs.map fun q => .ref q, by rw [upd_ne (Ne.symm pL)]; exact hL4, ?_, by omega, S4, qs ++ [p], gB.mut sL4 hLH, ((ss.trans g2.s).trans g3.s).trans g4.s, V.mut hM sL4 gB.sub j5, sL4, by rw [upd_same, List.map_append]; rfl, by rw [List.length_append, ql]; rfl, ?_, fun q hq => ?_⟩
    · rw [List.length_map, ql]
      have : (sizeLine : Nat) = 2 ^ 24 := rfl
      omega
    · refine List.nodup_append.mpr ⟨qn, List.nodup_cons.mpr ⟨List.not_mem_nil, List.nodup_nil⟩, fun q hq q' hq' e => ?_⟩
      obtain ⟨_, n, _, _, w⟩ := qa q hq
      rw [e, List.mem_singleton.mp hq'] at w n
      rw [up n w] at hp
      cases hp
    · rcases List.mem_append.mp hq with hq | hq
      · obtain ⟨u1, u2, u3, u4, u5⟩ := qa q hq
        have w := up u2 u5
        exact ⟨sup u2 u5 u1, u2, u3, u4, by rw [upd_ne u4, upd_ne (fun z => by rw [z, hp] at w; cases w)]; exact w⟩
      · rw [List.mem_singleton.mp hq]
        exact ⟨sp, pM, hpH, pL, by rw [upd_ne pL, upd_same]⟩
  · have e : i = ds'.length := by omega
    refine .inl ⟨wk.stop _ H' (ss.trans g.sub) (by omega), ?_⟩
    have g2 := g.rel sL hLH hL'
    have up : Same S' (upd S' L (.lst (qs.map fun q => .ref q))) := fun p u q => by rw [upd_ne (ne_of_none q sL)]; exact q
    have raws : RL X.K C (upd S' L (.lst (qs.map fun q => .ref q))) (qs.map fun q => .raw (.ref q)) (qs.map fun q => .ref q) := by
      clear qn qa ql hL' g2 up
      generalize upd S' L _ = S0
      induction qs with
      | nil => exact RL.nil
      | cons q qs ih => exact RL.cons (R.raw_iff.mpr rfl) ih
    have z1 := z.step g2 (V.rel hM sL hL' g.sub j) ((z.ok.rs.mono g.s).mono up)
    refine k1 _ _ _ (upd S' L (.lst (qs.map fun q => .ref q))) H' ⟨qs, ql.trans e, rfl, rfl⟩ g2.s ⟨⟨g2.sub, ⟨z1.ok.j, qn, fun q hq => ?_, ?_, fun k q r hq hr => ?_⟩, ((z.ok.rs.mono g.s).mono up).setD _ (R.mkL upd_same raws)⟩, z1.gr, fun q hq => ?_, fun S H j => z.j S H j.1⟩
    · obtain ⟨u1, u2, _, u4, _⟩ := qa q hq
      exact ⟨by rw [upd_ne u4]; exact u1, u2⟩
    · rw [List.length_replicate]; exact ql.trans e
    · rw [(List.eq_replicate_iff.mp (rfl : List.replicate ds'.length (List.replicate m c) = _)).2 r (List.mem_of_getElem? hr)]
      exact (qa q (List.mem_of_getElem? hq)).2.2.2.2
    · rcases hq with hq | hq
      · exact z.le q hq
      · refine .inr ?_
        cases w : A.H0 q with
        | none => rfl
        | some u =>
          obtain ⟨u', w'⟩ := z.gr.m q u w
          rw [(qa q hq).2.2.1] at w'; cases w'⟩
/-- x[a][b] = e, x such rows -/
theorem z_rset {k : Nat} {b : Int} {v : Int} {q : Addr} {r : List Int} (hU : ∀ S H, V.J S H → A.U.J S H) (he : JE X C (V.rows qs rs) env e (· = .int v)) (hq : qs[k]? = some q) (hr : rs[k]? = some r)
    (hb : 0 ≤ b ∧ b < (r.length : Int)) (hg : PG X (.Subscript oe ie po) (gSub (tJ X.K C (V.rows qs rs) env (· = .raw (.ref q))) (tJ X.K C (V.rows qs rs) env (· = .int b)) rSetL)) (hs : swapsWithSole [.Subscript oe ie po] e pos.line X.env = pure false := by rfl) (hw : swappedStores [.Subscript oe ie po] e X.env = pure none := by rfl)
    (h1 : (assignEach [.Subscript oe ie po] X.env).map (·.2) = [assign (.Subscript oe ie po) X.env] := by rfl) :
    JZt X C T A (V.rows qs rs) env (.Assign [.Subscript oe ie po] e pos) (fun env' V' => env' = env ∧ V' = V.rows qs (rs.set k (r.set b.toNat v))) Rt W Et :=
  (ps_asg he hg hs hw h1).weak fun D σ H ⟨S, z, k1, _, _⟩ => ⟨S, z.ok, fun d u S1 H1 p1 g1 j1 r1 => ⟨S1, z.ok.gr g1 j1, fun d2 u2 S2 H2 p2 g2 j2 r2 => ⟨S2, (z.ok.gr g1 j1).gr g2 j2, fun d3 u3 S3 H3 p3 g3 j3 r3 => by
    subst p1 p2 p3
    rw [R.int_iff] at r1 r3
    rw [R.raw_iff] at r2
    subst r1 r2 r3
    obtain ⟨i1, i2, i3, i4, i5⟩ := j3
    have qm := List.mem_of_getElem? hq
    obtain ⟨sq, mq⟩ := i3 q qm
    have row := i5 k q r hq hr
    have gA := (g1.trans g2).trans g3
    refine ⟨q, r.map L2.V.int, b, b.toNat, rfl, rfl, row, by unfold ixN; rw [if_pos hb.1, List.length_map, if_pos hb.2], ?_⟩
    have g4 : Gr (V.rows qs rs).M S H S3 (upd H3 q (.lst ((r.map L2.V.int).set b.toNat (.int v)))) := ⟨gA.s, fun c o w => by rw [upd_ne (ne_of_none w sq)]; exact gA.sub c o w, fun c o nm w => by rw [upd_ne (fun y : c = q => nm (.inr (by rw [y]; exact qm)))]; exact gA.h c o nm w, fun c o w => by
      by_cases hc : c = q
      · subst hc; exact ⟨_, upd_same⟩
      · rw [upd_ne hc]; exact gA.m c o w, gA.n⟩
    have kl : k < rs.length := (List.getElem?_eq_some_iff.mp hr).1
    refine k1 env _ σ S3 _ ⟨rfl, rfl⟩ gA.s ⟨⟨g4.sub, ⟨V.mut mq sq gA.sub i1, i2, i3, by rw [List.length_set]; exact i4, fun j c o hc ho => ?_⟩, z.ok.rs.mono gA.s⟩, z.gr.am g4 z.le, z.le, fun S H j => hU S H j.1⟩
    rw [List.getElem?_set] at ho
    by_cases hj : k = j
    · subst hj
      rw [hq] at hc
      cases hc
      rw [if_pos rfl, if_pos kl] at ho
      cases ho
      rw [upd_same, List.map_set]
    · rw [if_neg hj] at ho
      have ne : c ≠ q := fun e => by
        subst e
        obtain ⟨u1, u2⟩ := List.getElem?_eq_some_iff.mp hc
        obtain ⟨u3, u4⟩ := List.getElem?_eq_some_iff.mp hq
        rcases Nat.lt_or_gt_of_ne hj with y | y
        · exact List.pairwise_iff_getElem.mp i2 k j u3 u1 y (u4.trans u2.symm)
        · exact List.pairwise_iff_getElem.mp i2 j k u1 u3 y (u2.trans u4.symm)
      rw [upd_ne ne]
      exact i5 j c o hc ho⟩⟩⟩
open Classical in
/-- the rows are let stand -/
noncomputable def addS (S H : Hp) (qs : List Addr) : Hp := fun a => if a ∈ qs then H a else S a
theorem z_rrel (hU : ∀ S H, V.J S H → A.U.J S H) (hM : ∀ q, A.U.M q → V.M q) (he : env[i]? = some (.d (.lst (qs.map fun q => .raw (.ref q))))) (hr : JZ X C T A V (env.set i (.d (.lst (rs.map fun r => .lst (r.map .int))))) rest N Rt W Et) : JZ X C T A (V.rows qs rs) env rest N Rt W Et :=
  hr.weak fun D σ H ⟨S, z, k1, k2, k3⟩ => by
  classical
  obtain ⟨v0, hv0, r0⟩ := z.ok.rs.getD he
  obtain ⟨L, xs, rfl, hL, hx⟩ := R.lst_at.mp r0
  obtain ⟨j1, j2, j3, j4, j5⟩ := z.ok.j
  have yes : ∀ {q : Addr}, q ∈ qs → addS S H qs q = H q := fun h => if_pos h
  have nope : ∀ {q : Addr}, q ∉ qs → addS S H qs q = S q := fun h => if_neg h
  have new : ∀ {q : Addr} {o : HO}, S q = some o → q ∉ qs := fun w h => by rw [(j3 _ h).1] at w; cases w
  have ss : Same S (addS S H qs) := fun b u w => by rw [nope (new w)]; exact w
  have sub : Same (addS S H qs) H := fun b u w => by
    by_cases hb : b ∈ qs
    · rw [yes hb] at w; exact w
    · rw [nope hb] at w; exact z.ok.sub b u w
  have xe : xs = qs.map fun q => .ref q := by
    have key : ∀ (qs : List Addr) (xs : List L2.V), RL X.K C S (qs.map fun q => .raw (.ref q)) xs → xs = qs.map fun q => .ref q := by
      intro qs
      induction qs with
      | nil => exact fun xs h => RL.nil_iff.mp h
      | cons q qs ih =>
        intro xs h
        obtain ⟨x, t, rfl, h1, h2⟩ := RL.cons_iff.mp h
        rw [ih t h2, R.raw_iff.mp h1] <;> rfl
    exact key qs xs hx
  have rows : ∀ (ps : List Addr) (ts : List (List Int)), ps.length = ts.length → (∀ (i : Nat) (q : Addr) (r : List Int), ps[i]? = some q → ts[i]? = some r → q ∈ qs ∧ H q = some (.lst (r.map L2.V.int))) →
      RL X.K C (addS S H qs) (ts.map fun r => .lst (r.map .int)) (ps.map fun q => .ref q) := by
    intro ps
    induction ps with
    | nil =>
      intro ts hl _
      cases ts with
      | nil => exact RL.nil
      | cons t ts => cases hl
    | cons p ps ih =>
      intro ts hl hh
      cases ts with
      | nil => cases hl
      | cons t ts =>
        obtain ⟨a1, a2⟩ := hh 0 p t rfl rfl
        exact RL.cons (R.mkL ((yes a1).trans a2) (RL.ints t)) (ih ts (by simpa using hl) fun i q r u w => hh (i + 1) q r (by simpa using u) (by simpa using w))
  have hrow := rows qs rs j4 fun i q r u w => ⟨List.mem_of_getElem? u, j5 i q r u w⟩
  have hn : ∀ {q}, q ∈ qs → A.H0 q = none := fun h => by
    rcases z.le _ (.inr h) with m | m
    · exact absurd (hM _ m) (j3 _ h).2
    · exact m
  have rs2 : RS X.K C (addS S H qs) σ (env.set i (.d (.lst (rs.map fun r => .lst (r.map .int))))) := by
    have q := (z.ok.rs.mono ss).setD i (R.mkL (K := X.K) (C := C) ((nope (new hL)).trans (xe ▸ hL)) hrow)
    have e : σ.set i (some (.ref L)) = σ := List.ext_getElem? fun k => by
      rw [List.getElem?_set]
      by_cases hk : i = k
      · subst hk
        rw [if_pos rfl, if_pos (List.getElem?_eq_some_iff.mp hv0).1, hv0]
      · rw [if_neg hk]
    rw [e] at q
    exact q
  refine ⟨addS S H qs, ⟨⟨sub, V.st S H _ H j1 ss sub (fun _ _ => rfl) (fun p m => ?_), rs2⟩, ⟨z.gr.s.trans ss, sub, z.gr.h, z.gr.m, fun p u e n => ?_⟩, fun q m => z.le q (.inl m), hU⟩, fun e2 v2 σ2 S2 H2 n2 s2 => k1 e2 v2 σ2 S2 H2 n2 (ss.trans s2), k2, k3⟩
  · rw [nope fun h => (j3 p h).2 m]
    exact (V.th S H p j1 m).2
  · by_cases hp : p ∈ qs
    · rw [hn hp] at e; cases e
    · rw [nope hp]
      exact z.gr.n p u e n
end
end RQ

/-! Rqa: what may raise, as a def's answer. -/
namespace RQ
open PySem PySem.Spec PyProof.Rows L2
section
variable {X : Cx} {C : Addr} {T : Tx} {V : Vo} {env : List En} {e a b c : Expr} {pos : Pos} {p : Bool} {N : List En → Prop} {Rt : D → Prop} {W : WX} {Et : Err → Prop} {r : Except Err D}
theorem jst_retX (he : PE X e (tJX X.K C T V env W r)) (ho : ∀ d, r = .ok d → Rt d) (hE : ∀ er, r = .error er → Et er) : JSt X C T V env (.Return (some e) pos) N Rt W Et :=
  (ps_ret he).weak fun D σ H ⟨S, o, _, k2, k3⟩ => ⟨S, o, fun d v S' H' e1 g j rr => k2 d v S' H' (ho d e1) g j rr, fun er cls dd S' H' e1 g j rx => k3 er cls dd σ S' H' (hE er e1) g j rx⟩
/-- a if c else b -/
theorem px_ifE (hc : JT X C V env c (· = p)) (ha : p = true → PE X a (tJX X.K C T V env W r)) (hb : p = false → PE X b (tJX X.K C T V env W r)) : PE X (.IfExp c a b pos) (tJX X.K C T V env W r) := by
  constructor
  intro pins s σ H Q I h
  obtain ⟨S, o, k1, k2⟩ := h
  refine wpAny_IfExp (thn (hc.run pins s σ H (fun q H1 => q = p ∧ tJX X.K C T V env W r σ H1 Q) I ⟨S, o, fun q S' H' e g j => ⟨e, S', o.gr g j, fun d v S2 H2 e2 g2 => k1 d v S2 H2 e2 (g.trans g2), fun er cls dd S2 H2 e2 g2 => k2 er cls dd S2 H2 e2 (g.trans g2)⟩⟩) fun d s1 ⟨H1, I1, q1⟩ => ?_)
  obtain ⟨q0, q1⟩ := q1
  cases d with
  | true => exact (ha q0.symm).run pins s1 σ H1 Q I1 q1
  | false => exact (hb q0.symm).run pins s1 σ H1 Q I1 q1
end
section
variable {X : Cx} {C : Addr} {V : Vo} {env : List En} {a : Expr} {pos p : Pos} {ns : List Int}
theorem je_sumL (hc : X.calm = true) (z : Zb X.mg) (ha : JE X C V env a (· = .lst (ns.map .int))) (hg : Gl X "sum" := by rfl) (he : starEach [a] X.env = (false, eval a X.env) :: starEach [] X.env := by rfl) (hpl : (backTo pos (starEach [] X.env)).any (·.1) = false := by rfl) : JE X C V env (.Call (.Name "sum" p) [a] [] pos) (· = .int ns.sum) :=
  je_B1 (cr_sum hc) hg z.sum (by decide +kernel) (ja_cons ha ja_nil he) oc_sum (by decide) (by decide) he hpl
/-- min(xs), max(xs) of whole numbers -/
theorem je_minL {m : Int} (hc : X.calm = true) (z : Zb X.mg) (ha : JE X C V env a (· = .lst (ns.map .int))) (hm : m ∈ ns) (hl : ∀ y ∈ ns, m ≤ y) (hg : Gl X "min" := by rfl) (he : starEach [a] X.env = (false, eval a X.env) :: starEach [] X.env := by rfl) (hpl : (backTo pos (starEach [] X.env)).any (·.1) = false := by rfl) : JE X C V env (.Call (.Name "min" p) [a] [] pos) (· = .int m) :=
  je_B1 (cr_min hc) hg z.min (by decide +kernel) (ja_cons ha ja_nil he) (oc_of fun S H vs e rr => by
    obtain ⟨v, e1, h1⟩ := RL.one rr
    obtain ⟨b, xs, e2, h2, h3⟩ := R.lstL h1
    rw [RL.of_ints h3] at h2
    subst e1 e2
    exact ⟨_, R.int_iff.mpr rfl, fun Q q => ⟨b, ns, rfl, e.seq h2, List.length_pos_of_mem hm, fun k k1 k2 => by rw [Int.le_antisymm (k2 m hm) (hl k k1)]; exact q⟩⟩) (by decide) (by decide) he hpl
theorem je_maxL {m : Int} (hc : X.calm = true) (z : Zb X.mg) (ha : JE X C V env a (· = .lst (ns.map .int))) (hm : m ∈ ns) (hl : ∀ y ∈ ns, y ≤ m) (hg : Gl X "max" := by rfl) (he : starEach [a] X.env = (false, eval a X.env) :: starEach [] X.env := by rfl) (hpl : (backTo pos (starEach [] X.env)).any (·.1) = false := by rfl) : JE X C V env (.Call (.Name "max" p) [a] [] pos) (· = .int m) :=
  je_B1 (cr_max hc) hg z.max (by decide +kernel) (ja_cons ha ja_nil he) (oc_of fun S H vs e rr => by
    obtain ⟨v, e1, h1⟩ := RL.one rr
    obtain ⟨b, xs, e2, h2, h3⟩ := R.lstL h1
    rw [RL.of_ints h3] at h2
    subst e1 e2
    exact ⟨_, R.int_iff.mpr rfl, fun Q q => ⟨b, ns, rfl, e.seq h2, List.length_pos_of_mem hm, fun k k1 k2 => by rw [Int.le_antisymm (hl k k1) (k2 m hm)]; exact q⟩⟩) (by decide) (by decide) he hpl
end
end RQ

/-! Rqb: x = [..] of a plain local, items known. -/
namespace RQ
open PySem PySem.Spec PyProof.Rows L2
section
variable {X : Cx} {C : Addr} {T : Tx} {V : Vo} {env : List En} {tg iter elt : Expr} {ifs : List Expr} {pos py spos : Pos} {scope : Scope} {own : List (Str × Nat)} {ds : List D} {rest : List Stmt} {N : List En → Prop} {Rt : D → Prop} {W : WX} {Et : Err → Prop} {i j : Nat} {y n : Str} {p : Pos}
theorem js_lcN (t : D → Bool) (f : D → D) (hc : X.calm = true) (hN : X.N.Nodup) (hy : X.N[i]? = some y) (hi : JI X C V env (.Name n p) iter (· = ds)) (ok : BlkOk X.N X.env.scope scope own)
    (hg : ∀ (s : Shared) (H : Hp) (Cc : Addr) (cl : List (Str × Addr)) (fp : List Addr), PG (X.blk s H scope (compEnvC scope cl Cc X.env) fp) (.Name n p) (gB X.K C (own.map (·.2)) (bN j)))
    (ht : ∀ (s : Shared) (H : Hp) (Cc : Addr) (cl : List (Str × Addr)) (fp : List Addr) (d : D), d ∈ ds → PTs (X.blk s H scope (compEnvC scope cl Cc X.env) fp) ifs (tJT X.K C V ((wipeE env (own.map (·.2))).set j (.d d)) (· = t d)))
    (he : ∀ (s : Shared) (H : Hp) (Cc : Addr) (cl : List (Str × Addr)) (fp : List Addr) (d : D), d ∈ ds → t d = true → PE (X.blk s H scope (compEnvC scope cl Cc X.env) fp) elt (tJ X.K C V ((wipeE env (own.map (·.2))).set j (.d d)) (· = f d)))
    (hz : ds.length ≤ 1000000) (hr : JS X C T V (env.set i (.d (.lst ((ds.filter t).map f)))) rest N Rt W Et) (hs : ∀ x, foldedSetIterable iter X.env x = pure x := by intro _; rfl) (hyl : X.env.scope.names.lookup y = some .local := by rfl)
    (hsw : swapsWith (.ListComp elt [⟨.Name n p, iter, ifs, 0⟩] scope pos) (some (.Name y py)) spos.line X.env = pure true := by exact sw_true rfl rfl rfl (by decide +kernel)) :
    JS X C T V env (.Assign [.Name y py] (.ListComp elt [⟨.Name n p, iter, ifs, 0⟩] scope pos) spos :: rest) N Rt W Et := by
  refine js_cons (jst_lcG (Φ := (· = .lst ((ds.filter t).map f))) (bind := bN j) (tq := fun d b => b = t d) (fq := fun d y => y = f d) hc hN hy hyl hsw hi ok hg ?_ ?_ (fun _ _ _ _ => ⟨_, rfl⟩) (fun ds' e => by subst e; exact hz) (fun ds' ys e r => by subst e; rw [Lc.det r]) hs) fun env' ⟨d, e1, e2⟩ => by subst e1 e2; exact hr
  · intro s H Cc cl fp q ⟨⟨ds', e1, h1⟩, h2⟩
    subst e1
    have h2 : q.2 = (wipeE env (own.map (·.2))).set j (.d q.1) := h2
    rw [h2]
    exact ht s H Cc cl fp q.1 h1
  · intro s H Cc cl fp q ⟨⟨⟨ds', e1, h1⟩, h3⟩, h2⟩
    subst e1
    have h2 : q.2 = (wipeE env (own.map (·.2))).set j (.d q.1) := h2
    rw [h2]
    exact he s H Cc cl fp q.1 h1 h3.symm
end
end RQ

/-! Rqb: comprehensions with several for clauses, each clause by itself. -/
namespace RQ
open PySem PySem.Spec PyProof.Rows L2

/-- a clause's turn: b is done with an item that passed the tests -/
def clTurn (t i : Expr) (ifs : List Expr) (it : Value) (env : Env) (b : Sem Unit) (nxt : Sem Fin) : Sem Fin := do
  standAt i.pos
  match ← pyNext it with
  | none => pure (.done .next)
  | some v =>
    letOwnedTupleGo t it v
    assign t env v
    let mut ok := true
    for c in ifs do
      if ok then ok ← isTrue c env (eval c env)
    if ok then b
    nxt
/-- the next clause's loop, as a clause's inside -/
def clNext (e i : Expr) (k : Nat) (acc : Value) (env : Env) : Sem Unit := do
  let x ← eval i env
  standAt i.pos
  let x ← foldedSetIterable i env x
  let _ ← runOwn (.compStart e k (← holding [x] (pyIter x)) acc env) env
/-- the innermost: the value goes behind the list -/
def clLast (elt : Expr) (acc : Value) (env : Env) : Sem Unit := do
  let _ ← call (.builtin "list.append") [acc, ← eval elt env]
theorem turn1_0 (elt t0 i0 : Expr) (f0 : List Expr) (sc : Scope) (pos : Pos) (it acc : Value) (env : Env) :
    compTurn (.ListComp elt [⟨t0, i0, f0, 0⟩] sc pos) 0 it acc env = clTurn t0 i0 f0 it env (clLast elt acc env) (again (.compLoop (.ListComp elt [⟨t0, i0, f0, 0⟩] sc pos) 0 it acc env)) := rfl
theorem turn3_0 (elt t0 i0 t1 i1 t2 i2 : Expr) (f0 f1 f2 : List Expr) (sc : Scope) (pos : Pos) (it acc : Value) (env : Env) :
    compTurn (.ListComp elt [⟨t0, i0, f0, 0⟩, ⟨t1, i1, f1, 0⟩, ⟨t2, i2, f2, 0⟩] sc pos) 0 it acc env = clTurn t0 i0 f0 it env (clNext (.ListComp elt [⟨t0, i0, f0, 0⟩, ⟨t1, i1, f1, 0⟩, ⟨t2, i2, f2, 0⟩] sc pos) i1 1 acc env) (again (.compLoop (.ListComp elt [⟨t0, i0, f0, 0⟩, ⟨t1, i1, f1, 0⟩, ⟨t2, i2, f2, 0⟩] sc pos) 0 it acc env)) := by
  simp only [clTurn, clNext, bind_assoc]
  rfl
theorem turn3_1 (elt t0 i0 t1 i1 t2 i2 : Expr) (f0 f1 f2 : List Expr) (sc : Scope) (pos : Pos) (it acc : Value) (env : Env) :
    compTurn (.ListComp elt [⟨t0, i0, f0, 0⟩, ⟨t1, i1, f1, 0⟩, ⟨t2, i2, f2, 0⟩] sc pos) 1 it acc env = clTurn t1 i1 f1 it env (clNext (.ListComp elt [⟨t0, i0, f0, 0⟩, ⟨t1, i1, f1, 0⟩, ⟨t2, i2, f2, 0⟩] sc pos) i2 2 acc env) (again (.compLoop (.ListComp elt [⟨t0, i0, f0, 0⟩, ⟨t1, i1, f1, 0⟩, ⟨t2, i2, f2, 0⟩] sc pos) 1 it acc env)) := by
  simp only [clTurn, clNext, bind_assoc]
  rfl
theorem turn3_2 (elt t0 i0 t1 i1 t2 i2 : Expr) (f0 f1 f2 : List Expr) (sc : Scope) (pos : Pos) (it acc : Value) (env : Env) :
    compTurn (.ListComp elt [⟨t0, i0, f0, 0⟩, ⟨t1, i1, f1, 0⟩, ⟨t2, i2, f2, 0⟩] sc pos) 2 it acc env = clTurn t2 i2 f2 it env (clLast elt acc env) (again (.compLoop (.ListComp elt [⟨t0, i0, f0, 0⟩, ⟨t1, i1, f1, 0⟩, ⟨t2, i2, f2, 0⟩] sc pos) 2 it acc env)) := rfl
theorem turn2_0 (elt t0 i0 t1 i1 : Expr) (f0 f1 : List Expr) (sc : Scope) (pos : Pos) (it acc : Value) (env : Env) :
    compTurn (.ListComp elt [⟨t0, i0, f0, 0⟩, ⟨t1, i1, f1, 0⟩] sc pos) 0 it acc env = clTurn t0 i0 f0 it env (clNext (.ListComp elt [⟨t0, i0, f0, 0⟩, ⟨t1, i1, f1, 0⟩] sc pos) i1 1 acc env) (again (.compLoop (.ListComp elt [⟨t0, i0, f0, 0⟩, ⟨t1, i1, f1, 0⟩] sc pos) 0 it acc env)) := by
  simp only [clTurn, clNext, bind_assoc]
  rfl
theorem turn2_1 (elt t0 i0 t1 i1 : Expr) (f0 f1 : List Expr) (sc : Scope) (pos : Pos) (it acc : Value) (env : Env) :
    compTurn (.ListComp elt [⟨t0, i0, f0, 0⟩, ⟨t1, i1, f1, 0⟩] sc pos) 1 it acc env = clTurn t1 i1 f1 it env (clLast elt acc env) (again (.compLoop (.ListComp elt [⟨t0, i0, f0, 0⟩, ⟨t1, i1, f1, 0⟩] sc pos) 1 it acc env)) := rfl
section
variable {prog : Program} {w : World} {A : Around} {R : Result → Shared → Prop} {s : Shared} {elt t i : Expr} {gs : List Comprehension} {ifs : List Expr} {sc : Scope} {pos : Pos} {k : Nat} {it acc : Value} {env : Env} {b : Sem Unit}
/-- what a turn is to show -/
def ClStep (prog : Program) (w : World) (A : Around) (t : Expr) (ifs : List Expr) (it : Value) (env : Env) (b : Sem Unit) (R : Result → Shared → Prop) (Good : Shared → Prop) (E : Value → Shared → Prop) (s : Shared) : Prop :=
  wpAny (model prog w) A (pyNext it) (fun r s1 => match r with
    | none => R (.ok .next) s1
    | some v => wpAny (model prog w) A (letOwnedTupleGo t it v) (fun _ s2 => wpAny (model prog w) A (assign t env v) (fun _ s3 =>
        wpAny (model prog w) A (forIn ifs true fun c r => if r = true then do let ok ← isTrue c env (eval c env); pure (ForInStep.yield ok) else pure (ForInStep.yield r)) (fun ok s4 =>
          if ok = true then wpAny (model prog w) A b (fun _ s5 => Good s5) E s4 else Good s4) E s3) E s2) E s1) E s
theorem cl_loop (hT : compTurn (.ListComp elt gs sc pos) k it acc env = clTurn t i ifs it env b (again (.compLoop (.ListComp elt gs sc pos) k it acc env))) (I : Nat → Shared → Prop)
    (turn : ∀ n s, I n s → ClStep prog w A t ifs it env b R (fun s' => ∃ m, m < n ∧ I m s') (notedBy (model prog w) A env fun e s' => R (.error e) s') s) (n : Nat) (h : I n s) :
    codeAny (model prog w) A (.compLoop (.ListComp elt gs sc pos) k it acc env) R s := by
  refine codeAny_loop rfl I (fun n s hI => ?_) n h
  show wpAny _ A ((compTurn (.ListComp elt gs sc pos) k it acc env).onRaise (fun x => do noteFrame x env; theTreesLotGoes x)) _ _ s
  refine wpAny_noted ?_
  rw [hT]
  unfold clTurn
  refine wpAny_bind (wpAny_standAt (wpAny_bind (wpAny_mono (turn n s hI) (fun r s1 h1 => ?_) fun _ _ q => q)))
  cases r with
  | none => exact wpAny_pure h1
  | some v =>
    refine wpAny_bind (wpAny_mono h1 (fun _ s2 h2 => ?_) fun _ _ q => q)
    refine wpAny_bind (wpAny_mono h2 (fun _ s3 h3 => wpAny_bind (wpAny_mono h3 (fun ok s4 h4 => ?_) fun _ _ q => q)) fun _ _ q => q)
    cases ok with
    | false => exact wpAny_pure ⟨rfl, h4⟩
    | true => exact wpAny_bind (wpAny_mono h4 (fun _ s5 h5 => wpAny_pure ⟨rfl, h5⟩) fun _ _ q => q)
/-- a further clause's start -/
theorem cl_start {g : Comprehension} (hg : gs[k]? = some g) (ha : g.is_async = 0) (h0 : codeAny (model prog w) A (.compLoop (.ListComp elt gs sc pos) k it acc env) R s)
    (h : wpAny (model prog w) A (pyIter it) (fun it' s' => codeAny (model prog w) A (.compLoop (.ListComp elt gs sc pos) k it' acc env) R s') (notedBy (model prog w) A env fun x s' => R (.error x) s') s) :
    codeAny (model prog w) A (.compStart (.ListComp elt gs sc pos) k it acc env) R s := by
  refine codeAny_of_tree ?_
  show wpAny _ _ ((compStart (.ListComp elt gs sc pos) k it acc env).onRaise (fun x => do noteFrame x env; standAt theWindowsPlace)) _ _ s
  refine wpAny_notedAt ?_
  have hc : (clausesOf (.ListComp elt gs sc pos))[k]? = some g := hg
  unfold compStart
  rw [hc]
  simp only [Option.elim, ha]
  show wpAny _ _ (ask >>= _) _ _ s
  refine wpAny_bind (wpAny_askSetting (wpAny_ite ?_))
  split
  · first
      | exact wpAny_bind (wpAny_pure (wpAny_pure (And.intro rfl h0)))
      | exact wpAny_pure (And.intro rfl h0)
  · first
      | exact wpAny_bind (wpAny_rule (wpAny_bind (wpAny_standAt (wpAny_bind (wpAny_mono h (fun it' s' q => wpAny_pure (And.intro rfl q)) fun _ _ q => q)))))
      | (refine wpAny_bind (wpAny_rule ?_); show wpAny _ _ (standAt g.iter.pos >>= _) _ _ s; exact wpAny_bind (wpAny_standAt (wpAny_bind (wpAny_mono h (fun it' s' q => wpAny_pure (And.intro rfl q)) fun _ _ q => q))))
end
/-- a clause's inside, in a block's context; vs: the slots that it fills -/
structure PB (X : Cx) (b : Sem Unit) (vs : List Nat) (t : L2.St → Hp → (Hp → Prop) → Prop) : Prop where
  run : ∀ (pins : List (Addr × Obj)) (s : Shared) (σ : L2.St) (H : Hp) (Nx : Hp → Prop), Inv X pins σ H s → t σ H Nx →
    wpAny (model X.prog X.w) X.A b (fun _ s' => ∃ σ' H', Inv X pins σ' H' s' ∧ σ'.length = σ.length ∧ (∀ (j : Nat) v, (L2.wipe σ vs)[j]? = some (some v) → σ'[j]? = some (some v)) ∧ Nx H') (fun _ _ => False) s
theorem PB.weak {X : Cx} {b : Sem Unit} {vs : List Nat} {t t' : L2.St → Hp → (Hp → Prop) → Prop} (h : PB X b vs t) (w : ∀ σ H N, t' σ H N → t σ H N) : PB X b vs t' := ⟨fun pins s σ H N I q => h.run pins s σ H N I (w σ H N q)⟩
theorem pb_fam {X : Cx} {b : Sem Unit} {vs : List Nat} {α : Type} {P : α → Prop} {t : α → L2.St → Hp → (Hp → Prop) → Prop} (h : ∀ a, P a → PB X b vs (t a)) : PB X b vs (fun σ H N => ∃ a, P a ∧ t a σ H N) := ⟨fun pins s σ H N I ⟨a, p, q⟩ => (h a p).run pins s σ H N I q⟩
section
variable {X : Cx}
theorem pb_last {elt : Expr} {te : TE} {D : Addr} (hx : ∀ u s, X.xe u s → False) (he : PE X elt te) :
    PB X (clLast elt (.ref D) X.env) [] (fun σ H N => te σ H fun y H1 => ∃ acc, H1 D = some (.lst acc) ∧ acc.length < sizeLine ∧ N (upd H1 D (.lst (acc ++ [y])))) := by
  refine ⟨fun pins s σ H N I q => ?_⟩
  unfold clLast
  refine wpAny_bind (wpAny_mono (he.run pins s σ H _ I q) (fun u s1 ⟨y, H1, I1, r1, acc, hD, hz, n⟩ => ?_) fun u s' z => (hx u s' z).elim)
  exact wpAny_bind (app_ok I1 hD hz r1 fun s2 I2 => wpAny_pure ⟨σ, _, I2, rfl, fun j v e => e, n⟩)
/-- what a clause's loop is to show: W by the turn and a measure -/
def tCl (wi : TI) (g : TG) (tt : TT) (vs : List Nat) (tb : L2.St → Hp → (Hp → Prop) → Prop) : L2.St → Hp → (Hp → Prop) → Prop := fun σ H N => wi σ H fun J H1 => ∃ W : Nat → Nat → Hp → Prop, (∃ m, W 0 m H1) ∧ ∀ j k H2, W j k H2 →
  (J.stop j H2 ∧ N H2) ∨ (J.go j H2 ∧ ∃ N1 : Hp → Prop, (∀ H', N1 H' → ∃ k', k' < k ∧ W (j + 1) k' H') ∧ ∀ x H', J.yld j H2 x H' → g x (L2.wipe σ vs) H' fun σ3 H3 => L2.wipe σ3 vs = L2.wipe σ vs ∧ tt σ3 H3 fun b H4 => if b = true then tb σ3 H4 N1 else N1 H4)
theorem pb_for {elt tg iter : Expr} {gs : List Comprehension} {gc : Comprehension} {ifs : List Expr} {sc : Scope} {pos : Pos} {k : Nat} {D : Addr} {b : Sem Unit} {vs vs2 : List Nat} {wi : TI} {g : TG} {tt : TT} {tb : L2.St → Hp → (Hp → Prop) → Prop}
    (hx : ∀ u s, X.xe u s → False) (hc : X.calm = true) (hgk : gs[k]? = some gc) (ha : gc.is_async = 0) (hT : ∀ it, compTurn (.ListComp elt gs sc pos) k it (.ref D) X.env = clTurn tg iter ifs it X.env b (again (.compLoop (.ListComp elt gs sc pos) k it (.ref D) X.env)))
    (hv : ∀ i ∈ vs2, i ∈ vs) (hi : PI X tg iter wi) (hg : PG X tg g) (ht : PTs X ifs tt) (hb : PB X b vs2 tb) (hs : ∀ x, foldedSetIterable iter X.env x = pure x) :
    PB X (clNext (.ListComp elt gs sc pos) iter k (.ref D) X.env) vs (tCl wi g tt vs tb) := by
  have xo : ∀ {α : Type} {m : Sem α} {Q : α → Shared → Prop} {E : Value → Shared → Prop} {s : Shared}, wpAny (model X.prog X.w) X.A m Q X.xe s → wpAny (model X.prog X.w) X.A m Q E s := fun h => wpAny_mono h (fun _ _ q => q) fun u s' z => (hx u s' z).elim
  refine ⟨fun pins s σ H N I q => ?_⟩
  unfold clNext
  refine wpAny_bind (xo (thn (hi.run pins s σ H _ I q) fun xv s1 hxv => ?_))
  refine wpAny_bind (wpAny_standAt (wpAny_bind (wpAny_of_eq (hs xv) (wpAny_bind (wpAny_holding (xo (thn hxv fun itv s2 h2 => ?_)))))))
  obtain ⟨it, fp, tn, J, H2, e, I2, T, st2, f2, W, ⟨m0, w0⟩, turn⟩ := h2
  subst e
  refine wpAny_bind (wpAny_runOwn ?_)
  rw [Around.mark_none]
  have stat : ∀ {H' : Hp}, (∀ b ∈ fp, H' b = none) → ∀ b ∈ fp, FpOk X pins H' b := fun hn b hb => ⟨hn b hb, (f2 b hb).2⟩
  have loop : codeAny (model X.prog X.w) X.A (.compLoop (.ListComp elt gs sc pos) k (.ref it) (.ref D) X.env)
      (fun r s' => match r with
        | .ok _ => ∃ σ' H', Inv X pins σ' H' s' ∧ σ'.length = σ.length ∧ (∀ (j : Nat) v, (L2.wipe σ vs)[j]? = some (some v) → σ'[j]? = some (some v)) ∧ N H'
        | .error _ => False) s2 := by
    refine cl_loop (hT _) (fun n s' => ∃ j H', Inv X pins (L2.wipe σ vs) H' s' ∧ tn j s'.heap ∧ (∀ b ∈ fp, H' b = none) ∧ W j n H') ?_ m0 ⟨0, H2, I2.weak (wipe_length _ _) (fun j v e => (wipe_some e).1), st2, fun b hb => (f2 b hb).1, w0⟩
    rintro n s5 ⟨j, H5, I5, st5, n5, w5⟩
    unfold ClStep
    rcases turn j n H5 w5 with ⟨stop, qq⟩ | ⟨go, N1, hN1, step⟩
    · refine thnF (T.done X rfl rfl rfl hc j _ s5 _ H5 (fun _ _ => False) I5 (stat n5) st5 stop) fun r s6 ⟨hr, I6⟩ => ?_
      subst hr
      exact ⟨_, H5, I6, wipe_length _ _, fun j v e => e, qq⟩
    · refine thnF (T.item X rfl rfl rfl hc j _ s5 _ H5 (fun _ _ => False) I5 (stat n5) st5 go) fun r s6 ⟨u, hr, h6⟩ => ?_
      subst hr
      refine thnF h6 fun _ s7 ⟨x, H7, I7, r7, y7, st7, n7⟩ => ?_
      have I7' := I7.pinned (stat n7) (T.obj _ _ st7)
      refine xo (thn (hg.run _ s7 _ H7 x u _ I7' r7 (step x H7 y7)) fun _ s8 ⟨σ8, H8, I8, hw8, q8⟩ => ?_)
      refine xo (thn (ht.run _ s8 σ8 H8 _ I8 q8) fun bb s9 ⟨H9, I9, q9⟩ => ?_)
      have fin : ∀ {σ9 : L2.St} {s' : Shared} {H' : Hp}, Inv X (pins ++ pinsAt fp s7.heap) σ9 H' s' → σ9.length = σ8.length → (∀ (j : Nat) v, (L2.wipe σ8 vs2)[j]? = some (some v) → σ9[j]? = some (some v)) → N1 H' →
          ∃ m, m < n ∧ ∃ j H', Inv X pins (L2.wipe σ vs) H' s' ∧ tn j s'.heap ∧ (∀ b ∈ fp, H' b = none) ∧ W j m H' := fun {σ9 s' H'} I' hl hk nx => by
        obtain ⟨m', hm, w'⟩ := hN1 H' nx
        have pin' : ∀ b ∈ fp, ∀ o, s7.heap.get? b = some o → s'.heap.get? b = some o ∧ H' b = none := fun b hb o e =>
          let z := I'.pin (b, o) (List.mem_append_right _ (List.mem_append_right _ (mem_pinsAt hb e)))
          ⟨z.1, z.2.1⟩
        refine ⟨m', hm, j + 1, H', I'.unpinned.weak (by rw [← hw8, wipe_length, hl]) (fun j v e => ?_), T.keep _ _ _ st7 fun b hb o e => (pin' b hb o e).1, fun b hb => ?_, w'⟩
        · rw [← hw8] at e
          obtain ⟨e1, e2⟩ := wipe_some e
          exact hk j v (by rw [wipe_out fun z => e2 (hv j z)]; exact e1)
        · obtain ⟨o, e, _⟩ := T.obj _ _ st7 b hb
          exact (pin' b hb o e).2
      cases bb with
      | false =>
        simp only [Bool.false_eq_true, if_false] at q9 ⊢
        exact fin I9 rfl (fun j v e => (wipe_some e).1) q9
      | true =>
        simp only [if_true] at q9 ⊢
        exact thnF (hb.run _ s9 σ8 H9 _ I9 q9) fun _ s10 ⟨σ10, H10, I10, hl, hk, nx⟩ => fin I10 hl hk nx
  refine codeAny_mono (cl_start hgk ha loop (T.self X.A 0 _ _ _ st2 loop)) fun r s' hr => ?_
  cases r with
  | ok f =>
    first
      | exact wpAny_pure hr
      | exact wpAny_bind (wpAny_pure (wpAny_pure hr))
  | error e => exact hr.elim
end

/-! ### the whole, its first clause's inside of any form -/
section
variable {X : Cx}
def tLcB (wi : TI) (g : TG) (tt : TT) (vs : List Nat) (tb : Addr → L2.St → Hp → (Hp → Prop) → Prop) : TE := fun σ H Q => wi σ H fun J H1 => ∀ D, H1 D = none → ∃ W : Nat → Nat → Hp → Prop, (∃ m, W 0 m (upd H1 D (.lst []))) ∧ ∀ i m H2, W i m H2 →
  (J.stop i H2 ∧ Q (.ref D) H2) ∨ (J.go i H2 ∧ ∃ N1 : Hp → Prop, (∀ H', N1 H' → ∃ m', m' < m ∧ W (i + 1) m' H') ∧ ∀ x H', J.yld i H2 x H' → g x (L2.wipe σ vs) H' fun σ3 H3 => L2.wipe σ3 vs = L2.wipe σ vs ∧ tt σ3 H3 fun b H4 => if b = true then tb D σ3 H4 N1 else N1 H4)
theorem lcB_core {pins : List (Addr × Obj)} {s : Shared} {σ : L2.St} {H : Hp} {Q : VK} {elt tg iter : Expr} {ifs : List Expr} {rest : List Comprehension} {scope : Scope} {own : List (Str × Nat)} {vs2 : List Nat} {pos pos' : Pos} {wi : TI} {g : TG} {tt : TT} {tb : Addr → L2.St → Hp → (Hp → Prop) → Prop} {bd : Addr → Env → Sem Unit} {use : Option (Value → Sem Unit)} {Qf : Value → Shared → Prop}
    (hc : X.calm = true) (hN : X.N.Nodup) (I : Inv X pins σ H s) (hi : PI X tg iter wi) (ok : BlkOk X.N X.env.scope scope own) (hv : ∀ i ∈ vs2, i ∈ own.map (·.2))
    (hT : ∀ it D env, compTurn (.ListComp elt (⟨tg, iter, ifs, 0⟩ :: rest) scope pos) 0 it (.ref D) env = clTurn tg iter ifs it env (bd D env) (again (.compLoop (.ListComp elt (⟨tg, iter, ifs, 0⟩ :: rest) scope pos) 0 it (.ref D) env)))
    (hg : ∀ (s : Shared) (H : Hp) (C : Addr) (cl : List (Str × Addr)) (fp : List Addr), PG (X.blk s H scope (compEnvC scope cl C X.env) fp) tg g) (ht : ∀ (s : Shared) (H : Hp) (C : Addr) (cl : List (Str × Addr)) (fp : List Addr), PTs (X.blk s H scope (compEnvC scope cl C X.env) fp) ifs tt)
    (hb : ∀ (s : Shared) (H : Hp) (C : Addr) (cl : List (Str × Addr)) (fp : List Addr) (D : Addr), PB (X.blk s H scope (compEnvC scope cl C X.env) fp) (bd D (compEnvC scope cl C X.env)) vs2 (tb D)) (hs : ∀ x, foldedSetIterable iter X.env x = pure x)
    (h : tLcB wi g tt (own.map (·.2)) tb σ H Q)
    (hRR : ∀ D C s' m H', Inv X pins σ H' s' → Q (.ref D) H' → s'.heap.Ns C m → FpOk X pins H' C → compPost (model X.prog X.w) X.A X.xe use Qf (.ref D) C (.ok .next) s') :
    wpAny (model X.prog X.w) X.A (comprehension (.ListComp elt (⟨tg, iter, ifs, 0⟩ :: rest) scope pos) scope X.env pos' (newList []) false (eval iter X.env) use) Qf X.xe s := by
  have hfree : ∀ y ∈ scope.names, y.2 = .free → ∃ c, X.env.cells.lookup y.1 = some c := fun y hy e =>
    (ok.free y hy e).elim (fun z => I.ok.has _ (.inl z)) (fun z => I.ok.has _ (.inr z))
  refine wpAny_comprehension_free (use := use) rfl hs (closure_ok hfree) ok.kind (fun y hy e => by rw [ok.uniq y hy, e]) (thn (hi.run pins s σ H _ I h) fun xv s1 hx => thn hx fun itv s2 h2 => ?_)
  obtain ⟨it, fp, tn, J, H2, rfl, I2, T, st2, f2, q⟩ := h2
  refine wpAny_newObj_type (newEnv_comp ?_) (by show 0 ≤ sizeLine; decide)
  generalize hD : s2.heap.objs.size = D
  have hDn : H2 D = none := I2.hok.fresh (Nat.le_of_eq hD)
  obtain ⟨W, ⟨m0, w0⟩, turn⟩ := q D hDn
  generalize hs3 : ({ s2 with heap := s2.heap.push { cls := .type "list", data := .seq ([] : List Value).toArray } } : Shared) = s3
  have I3 : Inv X pins σ (upd H2 D (.lst [])) s3 := by
    rw [← hs3]
    exact I2.laid (t' := s2.toks) (fun b o e => Heap.get?_push_of_some _ e) (Nat.le_of_eq hD) ⟨Nat.zero_le _, [], 0, .nil, by rw [← hD]; exact Heap.get?_push_size _ rfl⟩
  have h3 : s3.heap = s2.heap.push { cls := .type "list", data := .seq ([] : List Value).toArray } := by rw [← hs3]
  have sz : ∀ b ∈ fp, b < s2.heap.objs.size := fun b hb =>
    let ⟨o, e, _⟩ := T.obj _ _ st2 b hb
    Heap.lt_size e
  have f3 : ∀ b ∈ fp, FpOk X pins (upd H2 D (.lst [])) b ∧ b < s3.heap.objs.size := fun b hb =>
    ⟨⟨(upd_ne (by rw [← hD]; exact Nat.ne_of_lt (sz b hb))).trans (f2 b hb).1, (f2 b hb).2⟩, by rw [h3, Heap.size_push]; exact Nat.lt_succ_of_lt (sz b hb)⟩
  have st3 : tn 0 s3.heap := T.keep _ _ _ st2 fun b _ o e => by rw [h3]; exact Heap.get?_push_of_some _ e
  have I4 := block_start I3 ok hN f3
  have pg := hg s3 (upd H2 D (.lst [])) s3.heap.objs.size (cellsFrom (s3.heap.objs.size + 1) scope.names (cloFrom X.env.cells scope.names [])) fp
  have pt := ht s3 (upd H2 D (.lst [])) s3.heap.objs.size (cellsFrom (s3.heap.objs.size + 1) scope.names (cloFrom X.env.cells scope.names [])) fp
  have pb := hb s3 (upd H2 D (.lst [])) s3.heap.objs.size (cellsFrom (s3.heap.objs.size + 1) scope.names (cloFrom X.env.cells scope.names [])) fp D
  show codeAny _ _ (.compStart (.ListComp elt (⟨tg, iter, ifs, 0⟩ :: rest) scope pos) 0 (.ref it) (.ref D) (compEnvC scope (cellsFrom (s3.heap.objs.size + 1) scope.names (cloFrom X.env.cells scope.names [])) s3.heap.objs.size X.env)) (compPost (model X.prog X.w) X.A X.xe use Qf (.ref D) s3.heap.objs.size) { s3 with heap := pushCells (s3.heap.push { cls := .type "dict", data := .dict #[] }) scope.names }
  have nfp : ∀ b ∈ fp, (upd H2 D (.lst [])) b = none := fun b hb => (f3 b hb).1.1
  generalize hce : compEnvC scope (cellsFrom (s3.heap.objs.size + 1) scope.names (cloFrom X.env.cells scope.names [])) s3.heap.objs.size X.env = ce at I4 pg pt pb ⊢
  have cL : ce.locals = s3.heap.objs.size := by subst hce; rfl
  generalize hH3 : upd H2 D (.lst []) = H3 at I3 I4 pg pt pb w0 nfp f3
  generalize hs4 : ({ s3 with heap := pushCells (s3.heap.push { cls := .type "dict", data := .dict #[] }) scope.names } : Shared) = s4 at I4 ⊢
  have st4 : tn 0 s4.heap := T.keep _ _ _ st3 fun b _ o e => by rw [← hs4]; exact pushCells_keeps _ _ _ _ (Heap.get?_push_of_some _ e)
  have stat : ∀ {σ' : L2.St} {H' : Hp} {s' : Shared}, Inv (X.blk s3 H3 scope ce fp) [] σ' H' s' → (∀ b ∈ fp, H' b = none) → ∀ b ∈ fp, FpOk (X.blk s3 H3 scope ce fp) [] H' b := fun {σ' H' s'} I' hn b hb =>
    ⟨hn b hb, (I'.ok.exf b hb).1, I'.ok.exfs b hb, .inl hb, fun x c e => (I'.ok.exf b hb).2 x c e, fun p hp => nomatch (show p ∈ ([] : List (Addr × Obj)) from hp)⟩
  have loop : codeAny (model X.prog X.w) X.A (.compLoop (.ListComp elt (⟨tg, iter, ifs, 0⟩ :: rest) scope pos) 0 (.ref it) (.ref D) ce) (compPost (model X.prog X.w) X.A X.xe use Qf (.ref D) s3.heap.objs.size) s4 := by
    refine cl_loop (hT _ _ _) (fun n s' => ∃ i H', Inv (X.blk s3 H3 scope ce fp) [] (L2.wipe σ (own.map (·.2))) H' s' ∧ tn i s'.heap ∧ (∀ b ∈ fp, H' b = none) ∧ W i n H') ?_ m0 ⟨0, H3, I4, st4, nfp, w0⟩
    rintro n s5 ⟨i, H5, I5, st5, n5, w5⟩
    unfold ClStep
    rcases turn i n H5 w5 with ⟨stop, qq⟩ | ⟨go, N1, hN1, step⟩
    · refine thnF (T.done (X.blk s3 H3 scope ce fp) rfl rfl rfl hc i [] s5 _ H5 (fun _ _ => False) I5 (stat I5 n5) st5 stop) fun r s6 ⟨hr, I6⟩ => ?_
      subst hr
      have I7 : Inv X pins σ H5 s6 := I3.call' (ch := fp) I6.os I6.base I6.hok I6.bare fun b hb => ⟨(f3 b hb).1.2.2.2.1, (f3 b hb).1.2.1, (f3 b hb).1.2.2.2.2.1, (f3 b hb).1.2.2.2.2.2⟩
      have nC : H5 s3.heap.objs.size = none := cL ▸ (show H5 ce.locals = none from I6.free)
      obtain ⟨m, hn, _⟩ := I6.loc
      have hn : s6.heap.Ns ce.locals m := hn
      exact hRR D s3.heap.objs.size s6 m H5 I7 qq (cL ▸ hn) (I3.fpOk (Nat.le_refl _) nC)
    · refine thnF (T.item (X.blk s3 H3 scope ce fp) rfl rfl rfl hc i [] s5 _ H5 (fun _ _ => False) I5 (stat I5 n5) st5 go) fun r s6 ⟨u, hr, h6⟩ => ?_
      subst hr
      refine thnF h6 fun _ s7 ⟨x, H7, I7, r7, y7, st7, n7⟩ => ?_
      have I7' := I7.pinned (stat I7 n7) (T.obj _ _ st7)
      refine thnF (pg.run _ s7 _ H7 x u _ I7' r7 (step x H7 y7)) fun _ s8 ⟨σ8, H8, I8, hw8, q8⟩ => ?_
      refine thnF (pt.run _ s8 σ8 H8 _ I8 q8) fun bb s9 ⟨H9, I9, q9⟩ => ?_
      have fin : ∀ {σ9 : L2.St} {s' : Shared} {H' : Hp}, Inv (X.blk s3 H3 scope ce fp) ([] ++ pinsAt fp s7.heap) σ9 H' s' → σ9.length = σ8.length → (∀ (j : Nat) v, (L2.wipe σ8 vs2)[j]? = some (some v) → σ9[j]? = some (some v)) → N1 H' →
          ∃ m, m < n ∧ ∃ i H', Inv (X.blk s3 H3 scope ce fp) [] (L2.wipe σ (own.map (·.2))) H' s' ∧ tn i s'.heap ∧ (∀ b ∈ fp, H' b = none) ∧ W i m H' := fun {σ9 s' H'} I' hl hk nx => by
        obtain ⟨m', hm, w'⟩ := hN1 H' nx
        have pin' : ∀ b ∈ fp, ∀ o, s7.heap.get? b = some o → s'.heap.get? b = some o ∧ H' b = none := fun b hb o e =>
          let z := I'.pin (b, o) (List.mem_append_right _ (List.mem_append_right _ (mem_pinsAt hb e)))
          ⟨z.1, z.2.1⟩
        refine ⟨m', hm, i + 1, H', (I'.unpinned (pins := [])).weak (by rw [← hw8, wipe_length, hl]) (fun j v e => ?_), T.keep _ _ _ st7 fun b hb o e => (pin' b hb o e).1, fun b hb => ?_, w'⟩
        · rw [← hw8] at e
          obtain ⟨e1, e2⟩ := wipe_some e
          exact hk j v ((wipe_out fun z => e2 (hv j z)).trans e1)
        · obtain ⟨o, e, _⟩ := T.obj _ _ st7 b hb
          exact (pin' b hb o e).2
      cases bb with
      | false =>
        simp only [Bool.false_eq_true, if_false] at q9 ⊢
        exact fin I9 rfl (fun j v e => (wipe_some e).1) q9
      | true =>
        simp only [if_true] at q9 ⊢
        exact thnF (pb.run _ s9 σ8 H9 _ I9 q9) fun _ s10 ⟨σ10, H10, I10, hl, hk, nx⟩ => fin I10 hl hk nx
  exact codeAny_compStart_list loop (T.self X.A 0 _ _ _ st4 loop)
theorem pe_lcB {elt tg iter : Expr} {ifs : List Expr} {rest : List Comprehension} {scope : Scope} {own : List (Str × Nat)} {vs2 : List Nat} {pos : Pos} {wi : TI} {g : TG} {tt : TT} {tb : Addr → L2.St → Hp → (Hp → Prop) → Prop} {bd : Addr → Env → Sem Unit}
    (hc : X.calm = true) (hN : X.N.Nodup) (hi : PI X tg iter wi) (ok : BlkOk X.N X.env.scope scope own) (hv : ∀ i ∈ vs2, i ∈ own.map (·.2))
    (hT : ∀ it D env, compTurn (.ListComp elt (⟨tg, iter, ifs, 0⟩ :: rest) scope pos) 0 it (.ref D) env = clTurn tg iter ifs it env (bd D env) (again (.compLoop (.ListComp elt (⟨tg, iter, ifs, 0⟩ :: rest) scope pos) 0 it (.ref D) env)))
    (hg : ∀ (s : Shared) (H : Hp) (C : Addr) (cl : List (Str × Addr)) (fp : List Addr), PG (X.blk s H scope (compEnvC scope cl C X.env) fp) tg g) (ht : ∀ (s : Shared) (H : Hp) (C : Addr) (cl : List (Str × Addr)) (fp : List Addr), PTs (X.blk s H scope (compEnvC scope cl C X.env) fp) ifs tt)
    (hb : ∀ (s : Shared) (H : Hp) (C : Addr) (cl : List (Str × Addr)) (fp : List Addr) (D : Addr), PB (X.blk s H scope (compEnvC scope cl C X.env) fp) (bd D (compEnvC scope cl C X.env)) vs2 (tb D)) (hs : ∀ x, foldedSetIterable iter X.env x = pure x) :
    PE X (.ListComp elt (⟨tg, iter, ifs, 0⟩ :: rest) scope pos) (tLcB wi g tt (own.map (·.2)) tb) := by
  refine ⟨fun pins s σ H Q I h => ?_⟩
  rw [eval_ListComp]
  refine lcB_core hc hN I hi ok hv hT hg ht hb hs h fun D C s' m H' I' q hn f => ⟨m, hn, fun h'' sb => ?_⟩
  exact ⟨.ref D, H', I'.turned (t' := s'.toks) (fun b o hb e => (sb.2 b hb).trans e) f.1 f.2.1 f.2.2.2.1 f.2.2.2.2.1 f.2.2.2.2.2, rfl, q⟩
end

/-! ### by deep values -/
def ML (V : Vo) (L : Addr) : Addr → Prop := fun p => V.M p ∨ p = L
/-- the list at L gets ext behind what it has -/
def tJB (K : PySem.W.Frag) (C : Addr) (V : Vo) (env : List En) (L : Addr) (ext : List D) : L2.St → Hp → (Hp → Prop) → Prop := fun σ H N => ∃ S ys vs, Ok K C V S H σ env ∧ S L = none ∧ ¬ V.M L ∧ H L = some (.lst vs) ∧ RL K C S ys vs ∧ ys.length + ext.length ≤ 1000000 ∧
  ∀ S' H' vs', Gr (ML V L) S H S' H' → V.J S' H' → S' L = none → H' L = some (.lst vs') → RL K C S' (ys ++ ext) vs' → N H'
theorem Gr.mutL {V : Vo} {L : Addr} {S H S' H' : Hp} {o : HO} (g : Gr (ML V L) S H S' H') (sL : S' L = none) (hL : ∃ u, H' L = some u) : Gr (ML V L) S H S' (upd H' L o) where
  s := g.s
  sub := fun p u e => by rw [upd_ne (ne_of_none e sL)]; exact g.sub p u e
  h := fun p u n e => by rw [upd_ne (fun z => n (.inr z))]; exact g.h p u n e
  m := fun p u e => by
    by_cases hp : p = L
    · exact ⟨o, by rw [hp, upd_same]⟩
    · obtain ⟨u', e'⟩ := g.m p u e
      exact ⟨u', by rw [upd_ne hp]; exact e'⟩
  n := g.n
theorem Gr.drop {V : Vo} {L : Addr} {S H S' H' : Hp} (g : Gr (ML V L) S H S' H') (hL : H L = none) : Gr V.M S H S' H' := ⟨g.s, g.sub, fun p u n e => g.h p u (fun z => z.elim n (fun z => by rw [z, hL] at e; cases e)) e, g.m, g.n⟩
section
variable {X : Cx} {C : Addr} {V : Vo} {env : List En} {elt iter : Expr} {L : Addr} {j : Nat} {n : Str} {p : Pos} {ds : List D} {ifs : List Expr} {gs : List Comprehension} {gc : Comprehension} {sc : Scope} {pos : Pos} {k : Nat} {b : Sem Unit} {vs vs2 : List Nat}
theorem jb_last {d : D} (hx : ∀ u s, X.xe u s → False) (he : JE X C V env elt (· = d)) : PB X (clLast elt (.ref L) X.env) [] (tJB X.K C V env L [d]) := (pb_last hx he).weak fun σ H N ⟨S, ys, vs, o, sL, nM, hL, r, hz, k⟩ => ⟨S, o, fun d' v S' H' e g jj rv => by
  subst e
  have hL' := g.h L _ nM hL
  have sL' := g.n L _ hL sL
  have hz' : ys.length + 1 ≤ 1000000 := hz
  refine ⟨vs, hL', ?_, k S' _ (vs ++ [v]) ((g.up fun p m => .inl m).mutL sL' ⟨_, hL'⟩) (V.mut nM sL' g.sub jj) sL' upd_same ((r.mono g.s).snoc rv)⟩
  rw [r.length]
  exact Nat.lt_of_lt_of_le (show ys.length < 1000001 by omega) (by rw [sizeLine_eq]; decide)⟩
theorem flat_take {α β : Type} {ds : List α} {t : α → Bool} {ext : α → List β} {i : Nat} {d : α} (h : ds[i]? = some d) : ((ds.take (i + 1)).filter t).flatMap ext = ((ds.take i).filter t).flatMap ext ++ (if t d = true then ext d else []) := by
  rw [List.take_succ, h]
  simp only [Option.toList, List.filter_append, List.flatMap_append]
  congr 1
  by_cases ht : t d = true
  · simp [ht]
  · simp [ht]
theorem flat_le {α β : Type} {ds : List α} {t : α → Bool} {ext : α → List β} (i : Nat) : (((ds.take i).filter t).flatMap ext).length ≤ ((ds.filter t).flatMap ext).length := by
  have e : (ds.filter t).flatMap ext = ((ds.take i).filter t).flatMap ext ++ ((ds.drop i).filter t).flatMap ext := by
    rw [← List.flatMap_append, ← List.filter_append, List.take_append_drop]
  rw [e, List.length_append]
  omega
/-- the turns of a clause -/
theorem jb_turns {K : PySem.W.Frag} {t : D → Bool} {ext : D → List D} {S H S1 H1 : Hp} {σ : L2.St} {J : It} {ys : List D} {vs0 : List L2.V} {Fin : Hp → Prop} (o : Ok K C V S H σ env) (wk : Wk K C S1 ds J) (g1 : Gr (ML V L) S H S1 H1) (j1 : V.J S1 H1) (nM : ¬ V.M L) (sL : S1 L = none) (hL : H1 L = some (.lst vs0)) (r : RL K C S1 ys vs0) (hz : ys.length + ((ds.filter t).flatMap ext).length ≤ 1000000)
    (fin : ∀ S' H' vs', Gr (ML V L) S H S' H' → V.J S' H' → S' L = none → H' L = some (.lst vs') → RL K C S' (ys ++ (ds.filter t).flatMap ext) vs' → Fin H') :
    ∃ W : Nat → Nat → Hp → Prop, (∃ m, W 0 m H1) ∧ ∀ i m H2, W i m H2 → (J.stop i H2 ∧ Fin H2) ∨ (J.go i H2 ∧ ∃ N1 : Hp → Prop, (∀ H', N1 H' → ∃ m', m' < m ∧ W (i + 1) m' H') ∧ ∀ x H', J.yld i H2 x H' → gB K C vs (bN j) x (L2.wipe σ vs) H' fun σ3 H3 => L2.wipe σ3 vs = L2.wipe σ vs ∧
      (∃ d, d ∈ ds ∧ tJT K C V ((wipeE env vs).set j (.d d)) (· = t d) σ3 H3 fun b H4 => if b = true then (∃ d, (d ∈ ds ∧ t d = true) ∧ tJB K C V ((wipeE env vs).set j (.d d)) L (ext d) σ3 H4 N1) else N1 H4)) := by
  refine ⟨fun i m H' => m = ds.length - i ∧ i ≤ ds.length ∧ ∃ S' vs', Gr (ML V L) S H S' H' ∧ Same S1 S' ∧ V.J S' H' ∧ S' L = none ∧ H' L = some (.lst vs') ∧ RL K C S' (ys ++ ((ds.take i).filter t).flatMap ext) vs',
    ⟨ds.length, by omega, by omega, S1, vs0, g1, .refl S1, j1, sL, hL, by simpa using r⟩, fun i m H' ⟨em, hi, S', vs', g, ss, jj, sL', hL', ry⟩ => ?_⟩
  by_cases hlt : i < ds.length
  · refine .inr ⟨wk.go i H' (ss.trans g.sub) hlt, fun H2 => i + 1 ≤ ds.length ∧ ∃ S' vs', Gr (ML V L) S H S' H2 ∧ Same S1 S' ∧ V.J S' H2 ∧ S' L = none ∧ H2 L = some (.lst vs') ∧ RL K C S' (ys ++ ((ds.take (i + 1)).filter t).flatMap ext) vs', fun H2 ⟨hl, q⟩ => ⟨ds.length - (i + 1), by omega, rfl, hl, q⟩, fun x H2 y => ?_⟩
    have hd : ds[i]? = some ds[i] := List.getElem?_eq_getElem hlt
    have hm : ds[i] ∈ ds := List.getElem_mem hlt
    have hft := flat_take (t := t) (ext := ext) hd
    have hfl := flat_le (ds := ds) (t := t) (ext := ext) (i + 1)
    obtain ⟨S2, g2, r2⟩ := wk.yld i ds[i] S' H' x H2 ss g.sub hd y
    have rs2 : RS K C S2 (L2.wipe σ vs) (wipeE env vs) := RS.wipe ((o.rs.mono g.s).mono g2.s) vs
    have j2 := V.gr0 g2 jj
    have gA := g.trans g2.up0
    have sL2 := g2.n L _ hL' sL'
    have hL2 : H2 L = some (.lst vs') := g2.h L _ (fun z => z) hL'
    refine ⟨S2, ds[i], wipeE env vs, _, g2.sub, rs2, r2, rfl, fun σ3 rs3 hw => ⟨hw.trans wipe_again, ds[i], hm, S2, ⟨g2.sub, j2, rs3⟩, fun b S3 H3 hb g3 j3 => ?_⟩⟩
    have hL3 : H3 L = some (.lst vs') := g3.h L _ nM hL2
    have sL3 := g3.n L _ hL2 sL2
    have gC := gA.trans (g3.up fun p m => Or.inl m)
    subst hb
    cases htd : t ds[i] with
    | false =>
      refine iteF ⟨by omega, S3, vs', gC, (ss.trans g2.s).trans g3.s, j3, sL3, hL3, ?_⟩
      rw [hft, htd]
      simpa using (ry.mono g2.s).mono g3.s
    | true =>
      rw [htd] at hft
      simp only [if_true] at hft
      refine iteT ⟨ds[i], ⟨hm, htd⟩, S3, _, vs', ⟨g3.sub, j3, rs3.mono g3.s⟩, sL3, nM, hL3, (ry.mono g2.s).mono g3.s, ?_, fun S4 H4 vs4 g4 j4 sL4 hL4 r4 => ⟨by omega, S4, vs4, gC.trans g4, ((ss.trans g2.s).trans g3.s).trans g4.s, j4, sL4, hL4, ?_⟩⟩
      · have := congrArg List.length hft
        rw [List.length_append] at this ⊢
        omega
      · rw [hft, ← List.append_assoc]; exact r4
  · have e : i = ds.length := by omega
    subst e
    rw [List.take_length] at ry
    exact .inl ⟨wk.stop _ H' (ss.trans g.sub) (Nat.le_refl _), fin S' H' vs' g jj sL' hL' ry⟩
/-- a further clause: for n in iter if .. -/
theorem jb_for (t : D → Bool) (ext : D → List D) (hx : ∀ u s, X.xe u s → False) (hc : X.calm = true) (hgk : gs[k]? = some gc) (ha : gc.is_async = 0) (hT : ∀ it, compTurn (.ListComp elt gs sc pos) k it (.ref L) X.env = clTurn (.Name n p) iter ifs it X.env b (again (.compLoop (.ListComp elt gs sc pos) k it (.ref L) X.env)))
    (hv : ∀ i ∈ vs2, i ∈ vs) (hi : JI X C V env (.Name n p) iter (· = ds)) (hg : PG X (.Name n p) (gB X.K C vs (bN j))) (ht : ∀ d ∈ ds, PTs X ifs (tJT X.K C V ((wipeE env vs).set j (.d d)) (· = t d)))
    (hb : ∀ d ∈ ds, t d = true → PB X b vs2 (tJB X.K C V ((wipeE env vs).set j (.d d)) L (ext d))) (hs : ∀ x, foldedSetIterable iter X.env x = pure x := by intro _; rfl) :
    PB X (clNext (.ListComp elt gs sc pos) iter k (.ref L) X.env) vs (tJB X.K C V env L ((ds.filter t).flatMap ext)) :=
  (pb_for hx hc hgk ha hT hv hi hg (pts_fam (P := fun d => d ∈ ds) fun d hd => ht d hd) (pb_fam (P := fun d => d ∈ ds ∧ t d = true) fun d hd => hb d hd.1 hd.2) hs).weak fun σ H N ⟨S, ys, vs0, o, sL, nM, hL, r, hz, k⟩ => ⟨S, o, fun ds' J S1 H1 e g1 j1 wk => by
    subst e
    exact jb_turns o wk (g1.up fun p m => .inl m) j1 nM (g1.n L _ hL sL) (g1.h L _ nM hL) (r.mono g1.s) hz k⟩
/-- [elt for n in iter if .. for ..] -/
theorem je_lcB {rest : List Comprehension} {own : List (Str × Nat)} {bd : Addr → Env → Sem Unit} (t : D → Bool) (ext : D → List D) (hc : X.calm = true) (hN : X.N.Nodup) (hi : JI X C V env (.Name n p) iter (· = ds)) (ok : BlkOk X.N X.env.scope sc own) (hv : ∀ i ∈ vs2, i ∈ own.map (·.2))
    (hT : ∀ it D env, compTurn (.ListComp elt (⟨.Name n p, iter, ifs, 0⟩ :: rest) sc pos) 0 it (.ref D) env = clTurn (.Name n p) iter ifs it env (bd D env) (again (.compLoop (.ListComp elt (⟨.Name n p, iter, ifs, 0⟩ :: rest) sc pos) 0 it (.ref D) env)))
    (hg : ∀ (s : Shared) (H : Hp) (Cc : Addr) (cl : List (Str × Addr)) (fp : List Addr), PG (X.blk s H sc (compEnvC sc cl Cc X.env) fp) (.Name n p) (gB X.K C (own.map (·.2)) (bN j)))
    (ht : ∀ (s : Shared) (H : Hp) (Cc : Addr) (cl : List (Str × Addr)) (fp : List Addr) (d : D), d ∈ ds → PTs (X.blk s H sc (compEnvC sc cl Cc X.env) fp) ifs (tJT X.K C V ((wipeE env (own.map (·.2))).set j (.d d)) (· = t d)))
    (hb : ∀ (s : Shared) (H : Hp) (Cc : Addr) (cl : List (Str × Addr)) (fp : List Addr) (L : Addr) (d : D), d ∈ ds → t d = true → PB (X.blk s H sc (compEnvC sc cl Cc X.env) fp) (bd L (compEnvC sc cl Cc X.env)) vs2 (tJB X.K C V ((wipeE env (own.map (·.2))).set j (.d d)) L (ext d)))
    (hz : ((ds.filter t).flatMap ext).length ≤ 1000000) (hs : ∀ x, foldedSetIterable iter X.env x = pure x := by intro _; rfl) :
    JE X C V env (.ListComp elt (⟨.Name n p, iter, ifs, 0⟩ :: rest) sc pos) (· = .lst ((ds.filter t).flatMap ext)) :=
  (pe_lcB hc hN hi ok hv hT hg (fun s H Cc cl fp => pts_fam (P := fun d => d ∈ ds) fun d hd => ht s H Cc cl fp d hd) (fun s H Cc cl fp L => pb_fam (P := fun d => d ∈ ds ∧ t d = true) fun d hd => hb s H Cc cl fp L d hd.1 hd.2) hs).weak fun σ H Q ⟨S, o, k⟩ => ⟨S, o, fun ds' J S1 H1 e g1 j1 wk => by
    subst e
    intro L hL
    have nM := V.new hL j1
    have hLH : H L = none := by
      cases q : H L with
      | none => rfl
      | some u =>
        obtain ⟨u', q'⟩ := g1.m L u q
        rw [hL] at q'; cases q'
    have sL1 : S1 L = none := by
      cases q : S1 L with
      | none => rfl
      | some u =>
        have q' := g1.sub L u q
        rw [hL] at q'; cases q'
    exact jb_turns (ys := []) o wk ((g1.up fun p m => Or.inl m).trans (Gr.mine g1.sub hL)) (V.gr0 (Gr.mine g1.sub hL) j1) nM sL1 upd_same RL.nil (by simpa using hz) fun S' H' vs' g jj sL' hL' r => by
      have g' := g.drop hLH
      exact k _ (.ref L) (upd S' L (.lst vs')) H' rfl (g'.rel sL' hLH hL') (V.rel nM sL' hL' g.sub jj) (R.mkL upd_same (r.mono fun p u q => by rw [upd_ne (ne_of_none q sL')]; exact q))⟩
end
end RQ

/-! Rqd: enumerate of a list, of a tuple. -/
namespace RQ
open PySem PySem.Spec PyProof.Rows L2

theorem meets_enum1 {v : Value} {o : Obj} {H : Heap → Prop} (B : Begins v o H) :
    Meets (Builtin.«enumerate.__new__» ⟨[.type "enumerate", v], []⟩) (fun _ R s => H s.heap ∧ R (.ok (.ret (.ref (s.heap.push o).objs.size))) { s with heap := (s.heap.push o).push { cls := .type "enumerate", data := .fields #[.none, .bool false, .ref s.heap.objs.size, rawInt 0, .none, .none] } }) :=
  .of_wp fun prog w A R s h => by
    obtain ⟨⟨hp, g, d, tk, os⟩, h1, h⟩ : ∃ s' : Shared, s' = s ∧ _ := ⟨s, rfl, h⟩
    subst h1
    obtain ⟨h1, h⟩ := h
    have hsub := sub_enumerate
    have q1 : ∀ {A' : Around} {E : Value → Shared → Prop} {Q : Value → Shared → Prop}, Q (.ref hp.objs.size) ⟨hp.push o, g, d, tk, os⟩ → wpAny (model prog w) A' (pyIter v) Q E ⟨hp, g, d, tk, os⟩ := fun q => B.iter prog w _ _ ⟨hp, g, d, tk, os⟩ _ h1 q
    wp_walk using q1
    refine wpAny_stack_any fun st => wpAny_pure ?_
    split
    · rename_i c _ _ _ _ _
      cases (c == Value.type "enumerate") <;> (wp_walk using q1; exact ⟨_, rfl, h⟩)
    · wp_walk using q1
      exact ⟨_, rfl, h⟩
section
variable {prog : Program} {w : World} {A : Around} {E : Value → Shared → Prop} {s : Shared}
theorem call_enum1 {v : Value} {o : Obj} {H : Heap → Prop} {Q : Value → Shared → Prop} (B : Begins v o H) (h1 : H s.heap)
    (h : ∀ h', IsEnum h' (s.heap.objs.size + 1) s.heap.objs.size 0 .none → h'.get? s.heap.objs.size = some o → h'.objs.size = s.heap.objs.size + 2 → (∀ b o, s.heap.get? b = some o → h'.get? b = some o) → Q (.ref (s.heap.objs.size + 1)) { s with heap := h' }) :
    wpAny (model prog w) A (call (.type "enumerate") [v]) Q E s := by
  refine callType_new F.called_enumerate (by decide) (F.typeCall_enumerate_1 _) (F.newCall_enumerate_1 _) (fun obj => F.args_object_init_2 obj _) F.entry_enumerate_new (meets_enum1 B) ⟨h1, ?_⟩
  have hz : (s.heap.push o).objs.size = s.heap.objs.size + 1 := Heap.size_push ..
  show _ ∧ _
  rw [hz]
  have he : IsEnum ((s.heap.push o).push { cls := .type "enumerate", data := .fields #[.none, .bool false, .ref s.heap.objs.size, rawInt 0, .none, .none] }) (s.heap.objs.size + 1) s.heap.objs.size 0 .none := by
    rw [← hz]
    exact Heap.get?_push_size _ rfl
  exact ⟨⟨_, he, rfl⟩, h _ he (Heap.get?_push_of_some _ (Heap.get?_push_size _ B.free)) (by rw [Heap.size_push, hz]) fun b o x => Heap.get?_push_of_some _ (Heap.get?_push_of_some _ x)⟩
end
/-- the tuple at a, n items, each in a new pair -/
def IteT (K : PySem.W.Frag) (a : Addr) (n : Nat) : It :=
  ⟨fun i H => ∃ (xs : List L2.V) (x : L2.V), SqT K H a xs ∧ xs.length = n ∧ xs[i]? = some x, fun i H v H' => ∃ T x, v = .ref T ∧ H T = none ∧ H' = upd H T (.tup [.int (i : Nat), x]) ∧ ∀ xs, SqT K H a xs → xs[i]? = some x, fun i H => ∃ xs : List L2.V, SqT K H a xs ∧ xs.length = n ∧ n ≤ i⟩
theorem tup_ne {h : Heap} {a b : Addr} {its : Array Value} {o : Obj} {n : String} (h1 : h.IsTuple a its) (h2 : h.get? b = some o) (hc : o.cls = .type n) (hn : n ≠ "tuple") : a ≠ b := fun e => by
  subst e
  obtain ⟨o', e1, e2, _⟩ := h1
  rw [h2] at e1
  cases e1
  rw [hc] at e2
  have e3 : Value.type n = .type "tuple" := e2
  cases e3
  exact hn rfl
theorem turn_enumT {P : Program} {w : World} {K : PySem.W.Frag} {elts : List Expr} {kk n : Nat} {tpos : Pos} (a e it : Addr) :
    Turn P w K (.Tuple elts kk tpos) (IteT K a n) [e, it] e (fun i h => (∃ old, IsEnum h e it ((i : Nat) : Int) old) ∧ h.IsTupleIter it a i ∧ e ≠ it ∧ i ≤ n) where
  mem := List.mem_cons_self
  obj := fun i h st b hb => by
    obtain ⟨⟨old, he⟩, ⟨o, ho, hc, hd⟩, _⟩ := st
    rcases List.mem_cons.mp hb with z | z
    · rw [z]; exact ⟨_, he, fun v q => nomatch q⟩
    · rw [List.mem_singleton.mp z]; exact ⟨o, ho, fun v q => by rw [hd] at q; cases q⟩
  keep := fun i h h' ⟨⟨old, he⟩, hi, hne, hl⟩ k => ⟨⟨old, k e (by simp) _ he⟩, hi.at fun o q => k it (by simp) o q, hne, hl⟩
  item := by
    intro X hP hw hK hc i pins s σ H E I hf ⟨⟨old, he⟩, hit, hne, hl⟩ ⟨xs, x, hq, hn, hx⟩
    subst hP hw hK
    obtain ⟨its, rv, p, hz⟩ := I.tuple hq
    have p : s.heap.IsTuple a its.toArray := p
    have hlen := rv.length
    obtain ⟨u, hu, ru⟩ := rv.get hx
    have hlt : i < its.toArray.size := by
      have := (List.getElem?_eq_some_iff.mp hu).1
      simpa using this
    obtain ⟨oi, hoi, hci, hdi⟩ := id hit
    have ae : a ≠ e := tup_ne p he rfl (by decide)
    have ai : a ≠ it := tup_ne p hoi hci (by decide)
    have hel : e < s.heap.objs.size := Heap.lt_size he
    have hil : it < s.heap.objs.size := Heap.lt_size hoi
    refine wpAny_pyNext_enum_itemD (Draws.tuple (A := X.A.in1) (I.ok.hd hc) it a ai its.toArray) he ⟨hit, p⟩ hlt hne (fun z => ?_) fun x' h' tk hP ho hst hT hsz hk => ?_
    · rcases List.mem_cons.mp z with z | z
      · exact hne z
      · exact ae (List.mem_singleton.mp z).symm
    · have ex : x' = u := by
        have hP : its.toArray[i]? = some x' := hP
        rw [List.getElem?_toArray, hu] at hP
        exact (Option.some.inj hP).symm
      subst ex
      refine ⟨_, rfl, wpAny_letOwnedTupleGo_enum (s := { s with heap := h', toks := tk + 1 }) ho fun h'' he' sb => ?_⟩
      have hT2 : h''.get? s.heap.objs.size = some { cls := .type "tuple", data := .seq #[.int i tk, x'] } := (sb.2 _ (Nat.ne_of_gt hel)).trans hT
      have new : ObjOk X.prog X.w (upd H s.heap.objs.size (.tup [.int (i : Nat), x])) h'' s.heap.objs.size (.tup [.int (i : Nat), x]) :=
        ⟨by show 2 ≤ sizeLine; decide, [.int i tk, x'], .cons ⟨_, rfl⟩ (.cons ru .nil), ⟨_, hT2, rfl, _, rfl⟩⟩
      have I1 : Inv X pins σ (upd H s.heap.objs.size (.tup [.int (i : Nat), x])) { s with heap := h'', toks := tk + 1 } :=
        I.turnedNew (ch := [e, it]) (fun b ob hb q => (sb.2 b (fun z => hb (by simp [z]))).trans (hk b ob (fun z => hb (by simp [z])) (fun z => hb (by simp [z])) q)) hf (Nat.le_refl _) new
      refine ⟨.ref s.heap.objs.size, _, I1, rfl, ⟨_, x, rfl, I.hok.fresh (Nat.le_refl _), rfl, fun ys hy => by rw [I.tuple_inj hy hq]; exact hx⟩, ⟨⟨x', ?_⟩, hst.1.at fun o q => (sb.2 it (Ne.symm hne)).trans q, hne, ?_⟩, fun b hb => ?_⟩
      · rw [show ((i + 1 : Nat) : Int) = (i : Int) + 1 by omega]; exact he'
      · have : its.toArray.size = its.length := by simp
        omega
      · have hb' : b < s.heap.objs.size := by
          rcases List.mem_cons.mp hb with z | z
          · rw [z]; exact hel
          · rw [List.mem_singleton.mp z]; exact hil
        rw [upd_ne (Nat.ne_of_lt hb')]
        exact (hf b hb).1
  done := by
    intro X hP hw hK hc i pins s σ H E I hf ⟨⟨old, he⟩, hit, hne, hl⟩ ⟨xs, hq, hn, hx⟩
    subst hP hw hK
    obtain ⟨its, rv, p, hz⟩ := I.tuple hq
    have p : s.heap.IsTuple a its.toArray := p
    have hlen := rv.length
    obtain ⟨oi, hoi, hci, hdi⟩ := id hit
    have ai : a ≠ it := tup_ne p hoi hci (by decide)
    obtain ⟨f0, f1, f2, f3, f4, f5⟩ := hf it (by simp)
    have ei : i = its.toArray.size := by
      have : its.toArray.size = its.length := by simp
      omega
    subst ei
    exact wpAny_pyNext_enum_endD (Draws.tuple (A := X.A.in1) (I.ok.hd hc) it a ai its.toArray) he ⟨hit, p⟩ fun h' eb => ⟨rfl, I.turned (t' := s.toks) (fun b o hb q => eb b o hb q) f0 f1 f3 f4 f5⟩
  self := fun A i s Q E ⟨⟨_, he⟩, _⟩ h => wpAny_pyIter_enum he h
def iEnumT (K : PySem.W.Frag) (ta : TA) : TI := fun σ H R => ta σ H fun vs H1 => ∃ a xs, vs = [.ref a] ∧ SqT K H1 a xs ∧ R (IteT K a xs.length) H1
theorem pi_enumT {X : Cx} {e : Expr} {ta : TA} {p pos tpos : Pos} {elts : List Expr} {kk : Nat} (hg : Gl X "enumerate") (hm : X.mg "enumerate" = none) (ha : PA X [e] ta) (hs : starEach [e] X.env = [(false, eval e X.env)] := by rfl) :
    PI X (.Tuple elts kk tpos) (.Call (.Name "enumerate" p) [e] [] pos) (iEnumT X.K ta) := by
  refine ⟨fun pins s σ H R I h => ?_⟩
  refine Call_ (ld_blt I hg hm boot_enumerate (PyProof.Rows.callWith_type1 (thn (ha.run pos pins s σ H _ I h) fun us s1 ⟨vs, H1, I1, r1, a, xs, ex, hq, q⟩ => ?_) hs rfl))
  subst ex
  cases r1 with
  | cons r rr =>
    cases rr
    cases r
    obtain ⟨its, rv, p', hz⟩ := I1.tuple hq
    refine call_enum1 (begins_tuple a its.toArray) p' fun h' he hit hsz hk => wpAny_pyIter_enum he ?_
    have I2 : Inv X pins σ H1 { s1 with heap := h' } := I1.kept (t' := s1.toks) hk
    refine ⟨s1.heap.objs.size + 1, [s1.heap.objs.size + 1, s1.heap.objs.size], _, _, H1, rfl, I2, turn_enumT a (s1.heap.objs.size + 1) s1.heap.objs.size, ⟨⟨.none, he⟩, ⟨_, hit, rfl, rfl⟩, Nat.succ_ne_self _, Nat.zero_le _⟩, fun b hb => ?_, q⟩
    have hle : s1.heap.objs.size ≤ b := by
      rcases List.mem_cons.mp hb with z | z
      · rw [z]; exact Nat.le_add_right _ _
      · rw [List.mem_singleton.mp z]; exact Nat.le_refl _
    exact I1.fpOk hle (I1.hok.fresh hle)
/-! ### by deep values -/
def enumD (ds : List D) : List D := zipD (rngD 0 ds.length) ds
theorem enumD_len (ds : List D) : (enumD ds).length = ds.length := by simp [enumD, zipD, List.length_zipWith, rngD_length]
theorem enumD_get {ds : List D} {i : Nat} {d : D} (h : (enumD ds)[i]? = some d) : ∃ y, ds[i]? = some y ∧ d = .tup [.int i, y] := by
  obtain ⟨x, y, h1, h2, h3⟩ := zipD_get h
  have hi : i < ds.length := (List.getElem?_eq_some_iff.mp h2).1
  rw [rngD_get hi] at h1
  cases h1
  exact ⟨y, h2, by rw [h3, Int.zero_add]⟩
section
variable {K : PySem.W.Frag} {C : Addr} {S : Hp} {ds : List D} {a : Addr} {xs : List L2.V}
theorem wk_enumL (h : SqL K S a xs) (r : RL K C S ds xs) : Wk K C S (enumD ds) (Ite K a) where
  go := fun i H e hi => by
    rw [enumD_len] at hi
    have hx : i < xs.length := by rw [r.length]; exact hi
    exact ⟨xs, xs[i], e.seq h, List.getElem?_eq_getElem hx⟩
  stop := fun i H e hi => by
    rw [enumD_len] at hi
    exact ⟨xs, e.seq h, by rw [r.length]; exact hi⟩
  yld := fun i d S1 H1 x H2 e1 e2 hd ⟨T, u, e3, hT, e4, f⟩ => by
    obtain ⟨y, q1, q2⟩ := enumD_get hd
    obtain ⟨u', k1, k2⟩ := r.get q1
    have g1 := f xs (e2.seq (e1.seq h))
    rw [k1] at g1
    obtain rfl := Option.some.inj g1
    subst e3 e4 q2
    have g : Gr M0 S1 H1 (upd S1 T (.tup [.int (i : Nat), u'])) (upd H1 T (.tup [.int (i : Nat), u'])) := .new e2 hT
    exact ⟨_, g, R.mkT upd_same (RL.cons (R.int_iff.mpr rfl) (RL.cons ((k2.mono e1).mono g.s) RL.nil))⟩
theorem wk_enumT (h : SqT K S a xs) (r : RL K C S ds xs) : Wk K C S (enumD ds) (IteT K a xs.length) where
  go := fun i H e hi => by
    rw [enumD_len] at hi
    have hx : i < xs.length := by rw [r.length]; exact hi
    exact ⟨xs, xs[i], Same.seqT e h, rfl, List.getElem?_eq_getElem hx⟩
  stop := fun i H e hi => by
    rw [enumD_len] at hi
    exact ⟨xs, Same.seqT e h, rfl, by rw [r.length]; exact hi⟩
  yld := fun i d S1 H1 x H2 e1 e2 hd ⟨T, u, e3, hT, e4, f⟩ => by
    obtain ⟨y, q1, q2⟩ := enumD_get hd
    obtain ⟨u', k1, k2⟩ := r.get q1
    have g1 := f xs (Same.seqT e2 (Same.seqT e1 h))
    rw [k1] at g1
    obtain rfl := Option.some.inj g1
    subst e3 e4 q2
    have g : Gr M0 S1 H1 (upd S1 T (.tup [.int (i : Nat), u'])) (upd H1 T (.tup [.int (i : Nat), u'])) := .new e2 hT
    exact ⟨_, g, R.mkT upd_same (RL.cons (R.int_iff.mpr rfl) (RL.cons ((k2.mono e1).mono g.s) RL.nil))⟩
end
section
variable {X : Cx} {C : Addr} {V : Vo} {env : List En} {e : Expr} {ds : List D} {p pos tpos : Pos} {elts : List Expr} {kk : Nat}
theorem ji_enumL (he : JE X C V env e (· = .lst ds)) (hm : X.mg "enumerate" = none) (hg : Gl X "enumerate" := by rfl) (hs : starEach [e] X.env = [(false, eval e X.env)] := by rfl) (hs1 : starEach [e] X.env = (false, eval e X.env) :: starEach [] X.env := by rfl) : JI X C V env (.Tuple elts kk tpos) (.Call (.Name "enumerate" p) [e] [] pos) (· = enumD ds) :=
  (pi_enum hg hm (ja_cons he ja_nil hs1) hs).weak fun σ H Rr ⟨S, o, k⟩ => ⟨S, o, fun dd vs S' H' e1 g j r => by
    subst e1
    obtain ⟨v, e2, h2⟩ := RL.one r
    obtain ⟨a, xs, e3, h3, h4⟩ := R.lstL h2
    subst e3 e2
    exact ⟨a, xs, rfl, g.sub.seq h3, k _ _ S' H' rfl g j (wk_enumL h3 h4)⟩⟩
theorem ji_enumT (he : JE X C V env e (· = .tup ds)) (hm : X.mg "enumerate" = none) (hg : Gl X "enumerate" := by rfl) (hs : starEach [e] X.env = [(false, eval e X.env)] := by rfl) (hs1 : starEach [e] X.env = (false, eval e X.env) :: starEach [] X.env := by rfl) : JI X C V env (.Tuple elts kk tpos) (.Call (.Name "enumerate" p) [e] [] pos) (· = enumD ds) :=
  (pi_enumT hg hm (ja_cons he ja_nil hs1) hs).weak fun σ H Rr ⟨S, o, k⟩ => ⟨S, o, fun dd vs S' H' e1 g j r => by
    subst e1
    obtain ⟨v, e2, h2⟩ := RL.one r
    obtain ⟨a, xs, e3, h3, h4⟩ := R.tup_iff.mp h2
    subst e3 e2
    exact ⟨a, xs, rfl, Same.seqT g.sub h3, k _ _ S' H' rfl g j (wk_enumT h3 h4)⟩⟩
end
end RQ

/-! Rqe: x = [.. for .. for ..] of a plain local. -/
namespace RQ
open PySem PySem.Spec PyProof.Rows L2
section
variable {X : Cx}
theorem ps_setLcB {i : Nat} {y : Str} {py : Pos} {elt tg iter : Expr} {ifs : List Expr} {rest : List Comprehension} {scope : Scope} {own : List (Str × Nat)} {vs2 : List Nat} {pos spos : Pos} {wi : TI} {g : TG} {tt : TT} {tb : Addr → L2.St → Hp → (Hp → Prop) → Prop} {bd : Addr → Env → Sem Unit}
    (hc : X.calm = true) (hN : X.N.Nodup) (hy : X.N[i]? = some y) (hyl : X.env.scope.names.lookup y = some .local) (hsw : swapsWith (.ListComp elt (⟨tg, iter, ifs, 0⟩ :: rest) scope pos) (some (.Name y py)) spos.line X.env = pure true) (hi : PI X tg iter wi) (ok : BlkOk X.N X.env.scope scope own) (hv : ∀ i ∈ vs2, i ∈ own.map (·.2))
    (hT : ∀ it D env, compTurn (.ListComp elt (⟨tg, iter, ifs, 0⟩ :: rest) scope pos) 0 it (.ref D) env = clTurn tg iter ifs it env (bd D env) (again (.compLoop (.ListComp elt (⟨tg, iter, ifs, 0⟩ :: rest) scope pos) 0 it (.ref D) env)))
    (hg : ∀ (s : Shared) (H : Hp) (C : Addr) (cl : List (Str × Addr)) (fp : List Addr), PG (X.blk s H scope (compEnvC scope cl C X.env) fp) tg g) (ht : ∀ (s : Shared) (H : Hp) (C : Addr) (cl : List (Str × Addr)) (fp : List Addr), PTs (X.blk s H scope (compEnvC scope cl C X.env) fp) ifs tt)
    (hb : ∀ (s : Shared) (H : Hp) (C : Addr) (cl : List (Str × Addr)) (fp : List Addr) (D : Addr), PB (X.blk s H scope (compEnvC scope cl C X.env) fp) (bd D (compEnvC scope cl C X.env)) vs2 (tb D)) (hs : ∀ x, foldedSetIterable iter X.env x = pure x) :
    PS X (.Assign [.Name y py] (.ListComp elt (⟨tg, iter, ifs, 0⟩ :: rest) scope pos) spos) (tAsg (tLcB wi g tt (own.map (·.2)) tb) (gName i)) := by
  refine ⟨fun pins s σ H D I h => ?_⟩
  rw [exec_Assign_Name_used _ _ _ _ hsw]
  refine wpAny_bind (wpAny_standAt (wpAny_bind ?_))
  show wpAny _ X.A (do let _ ← comprehension (.ListComp elt (⟨tg, iter, ifs, 0⟩ :: rest) scope pos) scope X.env (firstIterPos (⟨tg, iter, ifs, 0⟩ :: rest) pos) (newList []) false (eval iter X.env) (some (assign (.Name y py) X.env))) _ _ s
  have h : tLcB wi g tt (own.map (·.2)) tb σ H (fun x H1 => gName i x σ H1 D.nx) := h
  refine wpAny_bind (thn (lcB_core (Qf := fun _ s' => SP X pins D .next s') hc hN I hi ok hv hT hg ht hb hs h fun L C s' m H' I' q hn f => ?_) fun _ s' hq => wpAny_pure (wpAny_pure hq))
  show wpAny _ _ (assign (.Name y py) X.env (.ref L)) _ _ _
  refine wpAny_assign_Name (store_ok2 (v := V.ref L) I' hN hy (.inl hyl) rfl (fun s2 I2 ⟨a, sb, ha⟩ => ?_) (.inr hyl))
  have haC : C ≠ a := ha.elim (fun z => by rw [z]; exact f.2.1) (fun z e => f.2.2.2.2.1 y a z e.symm)
  exact ⟨m, hn.sameBut sb haC, fun h3 sb3 => ⟨_, H', I2.turned (t' := s2.toks) (fun b o hb e => (sb3.2 b hb).trans e) f.1 f.2.1 f.2.2.2.1 f.2.2.2.2.1 f.2.2.2.2.2, q⟩⟩
end
section
variable {X : Cx} {C : Addr} {T : Tx} {V : Vo} {env : List En} {elt iter : Expr} {i j : Nat} {n y : Str} {p py spos : Pos} {ds : List D} {ifs : List Expr} {sc : Scope} {pos : Pos} {vs2 : List Nat} {rest : List Comprehension} {own : List (Str × Nat)} {bd : Addr → Env → Sem Unit} {sts : List Stmt} {N : List En → Prop} {Rt : D → Prop} {W : WX} {Et : Err → Prop}
theorem lcB_read {K : PySem.W.Frag} {vs : List Nat} {t : D → Bool} {ext : D → List D} (hz : ((ds.filter t).flatMap ext).length ≤ 1000000) : ∀ σ H Q, tJ K C V env (· = .lst ((ds.filter t).flatMap ext)) σ H Q →
      tLcB (iJ K C V env (· = ds)) (gB K C vs (bN j)) (fun σ H Q => ∃ d, d ∈ ds ∧ tJT K C V ((wipeE env vs).set j (.d d)) (· = t d) σ H Q) vs (fun L σ H N => ∃ d, (d ∈ ds ∧ t d = true) ∧ tJB K C V ((wipeE env vs).set j (.d d)) L (ext d) σ H N) σ H Q := fun σ H Q ⟨S, o, k⟩ => ⟨S, o, fun ds' J S1 H1 e g1 j1 wk => by
    subst e
    intro L hL
    have nM := V.new hL j1
    have hLH : H L = none := by
      cases q : H L with
      | none => rfl
      | some u =>
        obtain ⟨u', q'⟩ := g1.m L u q
        rw [hL] at q'; cases q'
    have sL1 : S1 L = none := by
      cases q : S1 L with
      | none => rfl
      | some u =>
        have q' := g1.sub L u q
        rw [hL] at q'; cases q'
    exact jb_turns (ys := []) o wk ((g1.up fun p m => Or.inl m).trans (Gr.mine g1.sub hL)) (V.gr0 (Gr.mine g1.sub hL) j1) nM sL1 upd_same RL.nil (by simpa using hz) fun S' H' vs' g jj sL' hL' r => by
      have g' := g.drop hLH
      exact k _ (.ref L) (upd S' L (.lst vs')) H' rfl (g'.rel sL' hLH hL') (V.rel nM sL' hL' g.sub jj) (R.mkL upd_same (r.mono fun p u q => by rw [upd_ne (ne_of_none q sL')]; exact q))⟩
/-- x = [elt for n in iter if .. for ..] -/
theorem js_lcB (t : D → Bool) (ext : D → List D) (hc : X.calm = true) (hN : X.N.Nodup) (hy : X.N[i]? = some y) (hi : JI X C V env (.Name n p) iter (· = ds)) (ok : BlkOk X.N X.env.scope sc own) (hv : ∀ i ∈ vs2, i ∈ own.map (·.2))
    (hT : ∀ it D env, compTurn (.ListComp elt (⟨.Name n p, iter, ifs, 0⟩ :: rest) sc pos) 0 it (.ref D) env = clTurn (.Name n p) iter ifs it env (bd D env) (again (.compLoop (.ListComp elt (⟨.Name n p, iter, ifs, 0⟩ :: rest) sc pos) 0 it (.ref D) env)))
    (hg : ∀ (s : Shared) (H : Hp) (Cc : Addr) (cl : List (Str × Addr)) (fp : List Addr), PG (X.blk s H sc (compEnvC sc cl Cc X.env) fp) (.Name n p) (gB X.K C (own.map (·.2)) (bN j)))
    (ht : ∀ (s : Shared) (H : Hp) (Cc : Addr) (cl : List (Str × Addr)) (fp : List Addr) (d : D), d ∈ ds → PTs (X.blk s H sc (compEnvC sc cl Cc X.env) fp) ifs (tJT X.K C V ((wipeE env (own.map (·.2))).set j (.d d)) (· = t d)))
    (hb : ∀ (s : Shared) (H : Hp) (Cc : Addr) (cl : List (Str × Addr)) (fp : List Addr) (L : Addr) (d : D), d ∈ ds → t d = true → PB (X.blk s H sc (compEnvC sc cl Cc X.env) fp) (bd L (compEnvC sc cl Cc X.env)) vs2 (tJB X.K C V ((wipeE env (own.map (·.2))).set j (.d d)) L (ext d)))
    (hz : ((ds.filter t).flatMap ext).length ≤ 1000000) (hr : JS X C T V (env.set i (.d (.lst ((ds.filter t).flatMap ext)))) sts N Rt W Et) (hs : ∀ x, foldedSetIterable iter X.env x = pure x := by intro _; rfl) (hyl : X.env.scope.names.lookup y = some .local := by rfl)
    (hsw : swapsWith (.ListComp elt (⟨.Name n p, iter, ifs, 0⟩ :: rest) sc pos) (some (.Name y py)) spos.line X.env = pure true := by exact sw_true rfl rfl rfl (by decide +kernel)) :
    JS X C T V env (.Assign [.Name y py] (.ListComp elt (⟨.Name n p, iter, ifs, 0⟩ :: rest) sc pos) spos :: sts) N Rt W Et :=
  js_cons (N1 := (· = env.set i (.d (.lst ((ds.filter t).flatMap ext))))) ((ps_setLcB hc hN hy hyl hsw hi ok hv hT hg (fun s H Cc cl fp => pts_fam (P := fun d => d ∈ ds) fun d hd => ht s H Cc cl fp d hd) (fun s H Cc cl fp L => pb_fam (P := fun d => d ∈ ds ∧ t d = true) fun d hd => hb s H Cc cl fp L d hd.1 hd.2) hs).weak fun D σ H ⟨S, o, k1, _, _⟩ =>
    lcB_read (V := V) hz σ H _ ⟨S, o, fun d v S' H' p g j r => k1 _ _ S' H' (by rw [p]) g j ((o.rs.mono g.s).setD i r)⟩) fun env' e => by subst e; exact hr
end
end RQ

/-! Rqf: comprehensions over what a call that may raise returns. -/
namespace RQ
open PySem PySem.Spec PyProof.Rows L2
def iJX (K : PySem.W.Frag) (C : Addr) (T : Tx) (V : Vo) (env : List En) (W : WX) (r : Except Err (List D)) : TI := fun σ H Rr => ∃ S, Ok K C V S H σ env ∧ (∀ ds J S' H', r = .ok ds → Gr V.M S H S' H' → V.J S' H' → Wk K C S' ds J → Rr J H') ∧
  (∀ er cls dd S' H', r = .error er → Gr V.M S H S' H' → V.J S' H' → RX K C T S' H' er cls dd → W cls dd σ H')
section
variable {X : Cx} {C : Addr} {T : Tx} {V : Vo} {env : List En} {e tg iter elt : Expr} {ifs : List Expr} {pos : Pos} {scope : Scope} {own : List (Str × Nat)} {W : WX} {r : Except Err D} {rl : Except Err (List D)} {d : D}
theorem px_je (h : JE X C V env e (· = d)) : PE X e (tJX X.K C T V env W (.ok d)) := h.weak fun σ H Q ⟨S, o, k, _⟩ => ⟨S, o, fun d' v S' H' e1 g j rr => k d' v S' H' (by rw [e1]) g j rr⟩
theorem pi_listX (h : PE X e (tJX X.K C T V env W r)) (hr : ∀ d, r = .ok d → ∃ ds, d = .lst ds ∧ rl = .ok ds) (he : ∀ er, r = .error er → rl = .error er) : PI X tg e (iJX X.K C T V env W rl) := (pi_list h).weak fun σ H Rr ⟨S, o, k1, k2⟩ => ⟨S, o, fun d v S' H' e1 g j rv => by
    obtain ⟨ds, e2, e3⟩ := hr d e1
    subst e2
    obtain ⟨a, xs, e4, h2, h3⟩ := R.lstL rv
    exact ⟨a, e4, ⟨xs, g.sub.seq h2⟩, k1 ds _ S' H' e3 g j (wk_list h2 h3)⟩, fun er cls dd S' H' e1 g j rx => k2 er cls dd S' H' (he er e1) g j rx⟩
/-- [.. for .. in iter ..], iter by what it gives or raises -/
theorem px_lcX (f : List D → D) (hc : X.calm = true) (hN : X.N.Nodup) (hi : PI X tg iter (iJX X.K C T V env W rl)) (ok : BlkOk X.N X.env.scope scope own)
    (hk : ∀ ds, rl = .ok ds → JI X C V env tg iter (· = ds) → JE X C V env (.ListComp elt [⟨tg, iter, ifs, 0⟩] scope pos) (· = f ds)) (hs : ∀ x, foldedSetIterable iter X.env x = pure x := by intro _; rfl) :
    PE X (.ListComp elt [⟨tg, iter, ifs, 0⟩] scope pos) (tJX X.K C T V env W (rl.map f)) := by
  cases rl with
  | ok ds =>
    exact px_je (hk ds rfl (hi.weak fun σ H Rr ⟨S, o, k⟩ => ⟨S, o, fun ds' J S' H' e g j wk => k ds' J S' H' (by cases e; rfl) g j wk, fun er cls dd S' H' e => by cases e⟩))
  | error er =>
    refine (pe_lc (g := fun _ _ _ _ => False) (tt := fun _ _ _ => False) (te := fun _ _ _ => False) hc hN hi ok (fun s H Cc cl fp => ⟨fun _ _ _ _ _ _ _ _ _ q => q.elim⟩) (fun s H Cc cl fp => ⟨fun _ _ _ _ _ _ q => q.elim⟩) (fun s H Cc cl fp => ⟨fun _ _ _ _ _ _ q => q.elim⟩) hs).weak fun σ H Q ⟨S, o, k1, k2⟩ => ⟨S, o, (fun ds J S' H' e => by cases e), fun er' cls dd S' H' e g j rx => k2 er' cls dd S' H' (by cases e; rfl) g j rx⟩
end
end RQ

/-! Rqg: defs and methods that change objects: each end with the state that it leaves. -/
namespace RQ
open PySem PySem.Spec PyProof.Rows L2

structure Ah where
  M : Addr → Prop
  S0 : Hp
  H0 : Hp
structure Zh (K : PySem.W.Frag) (C : Addr) (A : Ah) (V : Vo) (S H : Hp) (σ : L2.St) (env : List En) : Prop where
  ok : Ok K C V S H σ env
  gr : Gr A.M A.S0 A.H0 S H
  le : ∀ q, V.M q → A.M q ∨ A.H0 q = none
theorem Zh.step {K : PySem.W.Frag} {C : Addr} {A : Ah} {V : Vo} {S H S' H' : Hp} {σ σ' : L2.St} {env env' : List En} (z : Zh K C A V S H σ env) (g : Gr V.M S H S' H') (j : V.J S' H') (r : RS K C S' σ' env') : Zh K C A V S' H' σ' env' := ⟨⟨g.sub, j, r⟩, z.gr.am g z.le, z.le⟩
section
variable (K : PySem.W.Frag) (C : Addr) (T : Tx) (A : Ah) (V : Vo) (env : List En) (N : List En → Vo → Prop) (Rt : D → Vo → Prop) (W : WX) (Et : Err → Vo → Prop)
def tH : TS := fun D σ H => ∃ S, Zh K C A V S H σ env ∧ (∀ env' V' σ' S' H', N env' V' → Zh K C A V' S' H' σ' env' → D.nx σ' H') ∧
  (∀ d V' v S' H', Rt d V' → Gr A.M A.S0 A.H0 S' H' → V'.J S' H' → R K C S' d v → D.rt v H') ∧
  (∀ er V' cls dd σ' S' H', Et er V' → Gr A.M A.S0 A.H0 S' H' → V'.J S' H' → RX K C T S' H' er cls dd → W cls dd σ' H')
end
abbrev JH (X : Cx) (C : Addr) (T : Tx) (A : Ah) (V : Vo) (env : List En) (sts : List Stmt) (N : List En → Vo → Prop) (Rt : D → Vo → Prop) (W : WX) (Et : Err → Vo → Prop) : Prop := PSs X sts (tH X.K C T A V env N Rt W Et)
abbrev JHt (X : Cx) (C : Addr) (T : Tx) (A : Ah) (V : Vo) (env : List En) (st : Stmt) (N : List En → Vo → Prop) (Rt : D → Vo → Prop) (W : WX) (Et : Err → Vo → Prop) : Prop := PS X st (tH X.K C T A V env N Rt W Et)
section
variable {X : Cx} {C : Addr} {T : Tx} {A : Ah} {V V2 : Vo} {env : List En} {e a b : Expr} {Φ : D → Prop} {Θ : Bool → Prop} {pos : Pos} {x : D} {N N1 N' : List En → Vo → Prop} {Ne : List En → Prop} {Rt : D → Vo → Prop} {RtD : D → Prop} {W : WX} {Et : Err → Vo → Prop} {EtD : Err → Prop} {st : Stmt} {rest sts : List Stmt}
theorem JHt.imp (h : JHt X C T A V env st N Rt W Et) (h1 : ∀ e v, N e v → N' e v) : JHt X C T A V env st N' Rt W Et := h.weak fun D σ H ⟨S, o, k1, k2, k3⟩ => ⟨S, o, fun env' V' σ' S' H' p => k1 env' V' σ' S' H' (h1 _ _ p), k2, k3⟩
theorem JH.imp (h : JH X C T A V env sts N Rt W Et) (h1 : ∀ e v, N e v → N' e v) : JH X C T A V env sts N' Rt W Et := h.weak fun D σ H ⟨S, o, k1, k2, k3⟩ => ⟨S, o, fun env' V' σ' S' H' p => k1 env' V' σ' S' H' (h1 _ _ p), k2, k3⟩
theorem h_nil : JH X C T A V env [] (fun e v => e = env ∧ v = V) Rt W Et := pss_nil.weak fun D σ H ⟨S, o, k1, _⟩ => k1 env V σ S H ⟨rfl, rfl⟩ o
theorem h_cons (h1 : JHt X C T A V env st N1 Rt W Et) (h2 : ∀ env' V', N1 env' V' → JH X C T A V' env' rest N Rt W Et) : JH X C T A V env (st :: rest) N Rt W Et :=
  (pss_cons h1 (pss_fam (P := fun q : List En × Vo => N1 q.1 q.2) fun q h => h2 q.1 q.2 h)).weak fun D σ H ⟨S, o, k1, k2, k3⟩ =>
    ⟨S, o, fun env' V' σ' S' H' n z => ⟨(env', V'), n, S', z, k1, k2, k3⟩, k2, k3⟩
theorem h_one (h1 : JHt X C T A V env st N Rt W Et) : JH X C T A V env [st] N Rt W Et := pss_one h1
theorem h_st (h : JSt X C T V env st Ne RtD W EtD) (hr : ∀ d, RtD d → Rt d V) (he : ∀ er, EtD er → Et er V) : JHt X C T A V env st (fun e v => Ne e ∧ v = V) Rt W Et := h.weak fun D σ H ⟨S, z, k1, k2, k3⟩ => ⟨S, z.ok, fun env' σ' S' H' n g j r => k1 env' V σ' S' H' ⟨n, rfl⟩ (z.step g j r),
  fun d v S' H' p g j r => k2 d V v S' H' (hr d p) (z.gr.am g z.le) j r, fun er cls dd σ' S' H' p g j r => k3 er V cls dd σ' S' H' (he er p) (z.gr.am g z.le) j r⟩
theorem h_js (h : JS X C T V env sts Ne RtD W EtD) (hr : ∀ d, RtD d → Rt d V) (he : ∀ er, EtD er → Et er V) : JH X C T A V env sts (fun e v => Ne e ∧ v = V) Rt W Et := h.weak fun D σ H ⟨S, z, k1, k2, k3⟩ => ⟨S, z.ok, fun env' σ' S' H' n g j r => k1 env' V σ' S' H' ⟨n, rfl⟩ (z.step g j r),
  fun d v S' H' p g j r => k2 d V v S' H' (hr d p) (z.gr.am g z.le) j r, fun er cls dd σ' S' H' p g j r => k3 er V cls dd σ' S' H' (he er p) (z.gr.am g z.le) j r⟩
theorem h_jsF (h : JS X C T V env sts (fun _ => False) (fun d => Rt d V) W (fun er => Et er V)) : JH X C T A V env sts N Rt W Et := (h_js h (fun _ z => z) (fun _ z => z)).imp fun _ _ z => z.1.elim
theorem h_seq (h : JSt X C T V env st Ne (fun d => Rt d V) W (fun er => Et er V)) (h2 : ∀ env', Ne env' → JH X C T A V env' rest N Rt W Et) : JH X C T A V env (st :: rest) N Rt W Et := h_cons (h_st h (fun _ z => z) (fun _ z => z)) fun env' V' ⟨n, e⟩ => by subst e; exact h2 env' n
theorem h_ret (h : JE X C V env e (fun d => Rt d V)) : JHt X C T A V env (.Return (some e) pos) N Rt W Et := (h_st (jst_ret (N := fun _ => False) (Et := fun er => Et er V) h) (fun _ z => z) (fun _ z => z)).imp fun _ _ z => z.1.elim
theorem h_let {i : Nat} {n : Str} {pos' : Pos} (hN : X.N.Nodup) (hi : X.N[i]? = some n) (hx : Loc X.env.scope n) (he : JE X C V env e (· = x)) (hr : JH X C T A V (env.set i (.d x)) rest N Rt W Et) (hs : swapsWith e (some (.Name n pos')) pos.line X.env = pure false := by rfl)
    (hf : X.fn n = true ∨ X.env.scope.names.lookup n = some .local := by first | exact .inl rfl | exact .inr rfl | assumption) : JH X C T A V env (.Assign [.Name n pos'] e pos :: rest) N Rt W Et :=
  h_seq (jst_set hN hi hx he hs hf) fun env' ⟨d, p, q⟩ => by subst p q; exact hr
theorem h_if {c : Expr} {P Q : List Stmt} (hc : JT X C V env c Θ) (ha : (∃ h, Θ h ∧ h = true) → JH X C T A V env P N Rt W Et) (hb : (∃ h, Θ h ∧ h = false) → JH X C T A V env Q N Rt W Et) : JHt X C T A V env (.If c P Q pos) N Rt W Et := by
  refine ⟨fun pins s σ H D I h => ?_⟩
  obtain ⟨S, z, k1, k2, k3⟩ := h
  refine wpAny_If (thn (hc.run pins s σ H (fun c H1 => Θ c ∧ tH X.K C T A V env N Rt W Et D σ H1) I ⟨S, z.ok, fun c S' H' p g j => ⟨p, S', z.step g j (z.ok.rs.mono g.s), k1, k2, k3⟩⟩) fun d s1 ⟨H1, I1, q0, q1⟩ => ?_)
  cases d with
  | true => exact (ha ⟨_, q0, rfl⟩).run pins s1 σ H1 D I1 q1
  | false => exact (hb ⟨_, q0, rfl⟩).run pins s1 σ H1 D I1 q1
theorem h_ifE {c : Expr} {p : Bool} {P Q : List Stmt} (hc : JT X C V env c (· = p)) (ha : p = true → JH X C T A V env P N Rt W Et) (hb : p = false → JH X C T A V env Q N Rt W Et) : JHt X C T A V env (.If c P Q pos) N Rt W Et :=
  h_if hc (fun ⟨h, e1, e2⟩ => ha (e1.symm.trans e2)) (fun ⟨h, e1, e2⟩ => hb (e1.symm.trans e2))
/-- if c: .. (that leaves); the rest -/
theorem h_when {c : Expr} {p : Bool} {P : List Stmt} (hc : JT X C V env c (· = p)) (ha : p = true → JH X C T A V env P (fun _ _ => False) Rt W Et) (hb : p = false → JH X C T A V env rest N Rt W Et) : JH X C T A V env (.If c P [] pos :: rest) N Rt W Et := by
  cases p with
  | true => exact h_cons (N1 := fun _ _ => False) (h_ifE hc (fun _ => ha rfl) (fun h => nomatch h)) fun _ _ h => h.elim
  | false => exact h_cons (N1 := fun e v => e = env ∧ v = V) (h_ifE hc (fun h => nomatch h) (fun _ => h_nil)) fun env' V' ⟨h1, h2⟩ => by subst h1 h2; exact hb rfl
/-- less is known of what may change -/
theorem h_weak (hJ : ∀ S H, V.J S H → V2.J S H) (hM : ∀ q, V2.M q → V.M q) (h : JH X C T A V2 env sts N Rt W Et) : JH X C T A V env sts N Rt W Et := h.weak fun D σ H ⟨S, z, k⟩ => ⟨S, ⟨⟨z.ok.sub, hJ _ _ z.ok.j, z.ok.rs⟩, z.gr, fun q m => z.le q (hM q m)⟩, k⟩
end
/-! ### an instance of one's own -/
def putD (f : Str) (d : D) : List (Str × D) → List (Str × D)
  | [] => [(f, d)]
  | (g, x) :: r => if g = f then (g, d) :: r else (g, x) :: putD f d r
def FR (K : PySem.W.Frag) (C : Addr) (S : Hp) : List (Str × D) → List (Str × L2.V) → Prop
  | [], fs => fs = []
  | (n, d) :: r, fs => ∃ v fr, fs = (n, v) :: fr ∧ R K C S d v ∧ FR K C S r fr
section
variable {K : PySem.W.Frag} {C : Addr} {S S' H H' : Hp}
theorem FR.mono (e : Same S S') : ∀ {ds : List (Str × D)} {fs : List (Str × L2.V)}, FR K C S ds fs → FR K C S' ds fs
  | [], _, h => h
  | (n, d) :: r, _, ⟨v, fr, e1, h1, h2⟩ => ⟨v, fr, e1, h1.mono e, FR.mono e h2⟩
theorem FR.len : ∀ {ds : List (Str × D)} {fs : List (Str × L2.V)}, FR K C S ds fs → fs.length = ds.length
  | [], _, h => by rw [h]; rfl
  | (n, d) :: r, _, ⟨v, fr, e1, h1, h2⟩ => by rw [e1, List.length_cons, List.length_cons, FR.len h2]
theorem FR.look {f : Str} {z : D} : ∀ {ds : List (Str × D)} {fs : List (Str × L2.V)}, FR K C S ds fs → ds.lookup f = some z → ∃ v, fs.lookup f = some v ∧ R K C S z v
  | [], _, h, e => nomatch e
  | (n, d) :: r, _, ⟨v, fr, e1, h1, h2⟩, e => by
    subst e1
    rw [List.lookup_cons] at e ⊢
    cases q : f == n with
    | true =>
      rw [q] at e
      have e : d = z := Option.some.inj e
      subst e
      exact ⟨v, rfl, h1⟩
    | false =>
      rw [q] at e
      exact FR.look h2 e
theorem FR.none {f : Str} : ∀ {ds : List (Str × D)} {fs : List (Str × L2.V)}, FR K C S ds fs → ds.lookup f = Option.none → fs.lookup f = Option.none
  | [], _, h, e => by rw [h]; rfl
  | (n, d) :: r, _, ⟨v, fr, e1, h1, h2⟩, e => by
    subst e1
    rw [List.lookup_cons] at e ⊢
    cases q : f == n with
    | true => rw [q] at e; cases e
    | false =>
      rw [q] at e
      exact FR.none h2 e
theorem FR.put {f : Str} {z : D} {u : L2.V} (hz : R K C S z u) : ∀ {ds : List (Str × D)} {fs : List (Str × L2.V)}, FR K C S ds fs → FR K C S (putD f z ds) (putF f u fs)
  | [], _, h => by rw [h]; exact ⟨u, [], rfl, hz, rfl⟩
  | (n, d) :: r, _, ⟨v, fr, e1, h1, h2⟩ => by
    subst e1
    unfold putD putF
    by_cases q : n = f
    · rw [if_pos q, if_pos q]; exact ⟨u, fr, rfl, hz, h2⟩
    · rw [if_neg q, if_neg q]; exact ⟨v, _, rfl, h1, FR.put hz h2⟩
end
def Vo.obj (V : Vo) (K : PySem.W.Frag) (C Cc a : Addr) (fds : List (Str × D)) : Vo := ⟨fun q => V.M q ∨ q = a, fun S H => V.J S H ∧ S a = none ∧ ¬ V.M a ∧ ∃ dx fs, H a = some (.ins Cc dx fs) ∧ FR K C S fds fs, fun S H q ⟨j1, j2, j3, dx, fs, j4, j5⟩ m => by
    rcases m with m | m
    · exact V.th S H q j1 m
    · subst m; exact ⟨⟨_, j4⟩, j2⟩, fun S H S' H' ⟨j1, j2, j3, dx, fs, j4, j5⟩ ss sub h1 h2 => ⟨V.st S H S' H' j1 ss sub (fun q m => h1 q (.inl m)) (fun q m => h2 q (.inl m)), h2 a (.inr rfl), j3, dx, fs, by rw [h1 a (.inr rfl)]; exact j4, j5.mono ss⟩⟩
theorem Gr.put {M : Addr → Prop} {S H : Hp} {a : Addr} {o : HO} (e : Same S H) (hm : M a) (hs : S a = none) : Gr M S H S (upd H a o) :=
  ⟨.refl S, fun p u q => by rw [upd_ne (ne_of_none q hs)]; exact e p u q, fun p u n q => by rw [upd_ne (fun z => n (by rw [z]; exact hm))]; exact q, fun p u q => by
    by_cases hp : p = a
    · exact ⟨o, by rw [hp, upd_same]⟩
    · exact ⟨u, by rw [upd_ne hp]; exact q⟩, fun _ _ _ n => n⟩
section
variable {X : Cx} {C Cc a : Addr} {T : Tx} {A : Ah} {V : Vo} {env : List En} {e o : Expr} {fds : List (Str × D)} {f : Str} {z d : D} {pos pos' tpos : Pos} {N : List En → Vo → Prop} {Rt : D → Vo → Prop} {W : WX} {Et : Err → Vo → Prop} {rest : List Stmt} {i j : Int} {Φ : D → Prop}
/-- o.f -/
theorem je_fldO (c : Cls X.K Cc) (n : NoAttr X.K Cc f) (he : JE X C (V.obj X.K C Cc a fds) env o (· = .raw (.ref a))) (hz : fds.lookup f = some z) (hb : attributeBase o f X.env (eval o X.env) = eval o X.env := by rfl) : JE X C (V.obj X.K C Cc a fds) env (.Attribute o f pos) (· = z) := (pe_fld he hb).weak fun σ H Q ⟨S, o, k⟩ => ⟨S, o, fun d v S' H' e1 g jj r => by
  subst e1
  rw [R.raw_iff] at r
  subst r
  obtain ⟨j1, j2, j3, dx, fs, j4, j5⟩ := jj
  obtain ⟨v, h1, h2⟩ := j5.look hz
  exact ⟨a, Cc, dx, fs, v, rfl, j4, c, n, h1, k z v S' H' rfl g ⟨j1, j2, j3, dx, fs, j4, j5⟩ h2⟩⟩
theorem obj_put {K : PySem.W.Frag} {S H : Hp} {σ : L2.St} {u : L2.V} {dx : Addr} {fs : List (Str × L2.V)} (zh : Zh K C A (V.obj K C Cc a fds) S H σ env) (h4 : H a = some (.ins Cc dx fs)) (h5 : FR K C S fds fs) (hu : R K C S d u) : Zh K C A (V.obj K C Cc a (putD f d fds)) S (upd H a (.ins Cc dx (putF f u fs))) σ env := by
  obtain ⟨⟨sub, ⟨j1, j2, j3, _⟩, rs⟩, gr, le⟩ := zh
  have g : Gr (V.obj K C Cc a fds).M S H S (upd H a (.ins Cc dx (putF f u fs))) := .put sub (.inr rfl) j2
  exact ⟨⟨g.sub, ⟨V.mut j3 j2 sub j1, j2, j3, dx, _, upd_same, h5.put hu⟩, rs⟩, gr.am g le, le⟩
/-- o.f = e -/
theorem h_fldR (c : Cls X.K Cc) (n : NoAttr X.K Cc f) (ho : JE X C (V.obj X.K C Cc a fds) env o (· = .raw (.ref a))) (hv : JE X C (V.obj X.K C Cc a fds) env e Φ) (few : fds.length < 1000) (hr : ∀ d, Φ d → JH X C T A (V.obj X.K C Cc a (putD f d fds)) env rest N Rt W Et)
    (hs : swapsWith e (some (.Attribute o f pos')) pos.line X.env = pure false := by rfl) : JH X C T A (V.obj X.K C Cc a fds) env (.Assign [.Attribute o f pos'] e pos :: rest) N Rt W Et :=
  (pss_cons (ps_fld ho hv hs) (pss_fam (P := fun d : D => Φ d) hr)).weak fun D σ H ⟨S, zh, k1, k2, k3⟩ => ⟨S, zh.ok, fun d' u S1 H1 e1 g1 j1 r1 => ⟨S1, zh.ok.gr g1 j1, fun d2 v2 S2 H2 e2 g2 jj r2 => by
    subst e2
    rw [R.raw_iff] at r2
    subst r2
    have z2 := (zh.step g1 j1 (zh.ok.rs.mono g1.s)).step g2 jj ((zh.ok.rs.mono g1.s).mono g2.s)
    obtain ⟨q1, q2, q3, dx, fs, q4, q5⟩ := jj
    exact ⟨a, Cc, dx, fs, rfl, q4, c, n, by rw [q5.len]; exact few, d', e1, S2, obj_put z2 q4 q5 (r1.mono g2.s), k1, k2, k3⟩⟩⟩
theorem h_fld (c : Cls X.K Cc) (n : NoAttr X.K Cc f) (ho : JE X C (V.obj X.K C Cc a fds) env o (· = .raw (.ref a))) (hv : JE X C (V.obj X.K C Cc a fds) env e (· = d)) (few : fds.length < 1000) (hr : JH X C T A (V.obj X.K C Cc a (putD f d fds)) env rest N Rt W Et)
    (hs : swapsWith e (some (.Attribute o f pos')) pos.line X.env = pure false := by rfl) : JH X C T A (V.obj X.K C Cc a fds) env (.Assign [.Attribute o f pos'] e pos :: rest) N Rt W Et := h_fldR c n ho hv few (fun d' e => by rw [e]; exact hr) hs
/-- o.f += e -/
theorem h_aug (c : Cls X.K Cc) (n : NoAttr X.K Cc f) (ho : JE X C (V.obj X.K C Cc a fds) env o (· = .raw (.ref a))) (hv : JE X C (V.obj X.K C Cc a fds) env e (· = .int j)) (hz : fds.lookup f = some (.int i)) (few : fds.length < 1000) (hr : JH X C T A (V.obj X.K C Cc a (putD f (.int (i + j)) fds)) env rest N Rt W Et) :
    JH X C T A (V.obj X.K C Cc a fds) env (.AugAssign (.Attribute o f tpos) .Add e pos :: rest) N Rt W Et :=
  (pss_cons (ps_fldaug ho hv in_add) hr).weak fun D σ H ⟨S, zh, k1, k2, k3⟩ => ⟨S, zh.ok, fun d1 u S1 H1 e1 g1 j1 r1 => by
    subst e1
    rw [R.raw_iff] at r1
    subst r1
    have z1 := zh.step g1 j1 (zh.ok.rs.mono g1.s)
    obtain ⟨q1, q2, q3, dx, fs, q4, q5⟩ := j1
    obtain ⟨v, h1, h2⟩ := q5.look hz
    rw [R.int_iff] at h2
    subst h2
    refine ⟨a, Cc, dx, fs, _, rfl, q4, c, n, h1, S1, z1.ok, fun d2 v2 S2 H2 e2 g2 j2 r2 => ?_⟩
    subst e2
    rw [R.int_iff] at r2
    subst r2
    have z2 := z1.step g2 j2 (z1.ok.rs.mono g2.s)
    obtain ⟨q1, q2, q3, dx, fs, q4, q5⟩ := j2
    exact ⟨i, j, rfl, rfl, dx, fs, q4, by rw [q5.len]; exact few, S2, obj_put z2 q4 q5 (R.int_iff.mpr rfl), k1, k2, k3⟩⟩
end
/-! ### calls that change -/
def spH (K : PySem.W.Frag) (C : Addr) (T : Tx) (P : Vo → List D → (Except Err D → Vo → Prop) → Prop) : Sp := fun vs H Q E => ∃ S ds V Ψ, Same S H ∧ V.J S H ∧ RL K C S ds vs ∧ P V ds Ψ ∧
  (∀ d V' v S' H', Ψ (.ok d) V' → Gr V.M S H S' H' → V'.J S' H' → R K C S' d v → Q v H') ∧ (∀ er V' cls dd S' H', Ψ (.error er) V' → Gr V.M S H S' H' → V'.J S' H' → RX K C T S' H' er cls dd → E cls dd H')
/-- an expression that may change what is one's own -/
def tX (K : PySem.W.Frag) (C : Addr) (T : Tx) (V : Vo) (env : List En) (W : WX) (Ψ : Except Err D → Vo → Prop) : TE := fun σ H Q => ∃ S, Ok K C V S H σ env ∧ (∀ d V' v S' H', Ψ (.ok d) V' → Gr V.M S H S' H' → V'.J S' H' → R K C S' d v → Q v H') ∧
  (∀ er V' cls dd S' H', Ψ (.error er) V' → Gr V.M S H S' H' → V'.J S' H' → RX K C T S' H' er cls dd → W cls dd σ H')
section
variable {P : Program} {w : World} {K : PySem.W.Frag} {mg : Str → Option Value} {base : Heap} {C : Addr} {T : Tx}
theorem okH {x qual : Str} {st : Stmt} {f : Addr} {fd : FuncData} {N ps : List Str} {k : Nat} {Pm : Vo → List D → (Except Err D → Vo → Prop) → Prop} (F : Fun K x qual st f fd) (Sc : FnScope N ps (defScope st)) (hl : ∀ V ds Ψ, Pm V ds Ψ → ds.length = ps.length)
    (hb : ∀ (cdv : Value) (A' : Around) (outer : List Env) (s : Shared) (H : Hp) (E : XK) (A : Ah) (V : Vo) (ds : List D) (Ψ : Except Err D → Vo → Prop), Room k (A'.deeper (envOfC qual (defScope st) s.heap.objs.size f cdv)) → Takes (bodyX P w K mg base N qual st f cdv A' outer s H E) (fun cls d _ H' => E cls d H') → Pm V ds Ψ →
      JH (bodyX P w K mg base N qual st f cdv A' outer s H E) C T A V (envS N ds) (defBody st) (fun _ V' => Ψ (.ok .non) V') (fun d V' => Ψ (.ok d) V') (fun cls d _ H' => E cls d H') (fun er V' => Ψ (.error er) V')) :
    FnOk P w K mg base (L2.CX P w) (k + 1) f fd ps (spH K C T Pm) := by
  refine F.okX Sc (fun vs H Q E ⟨S, ds, V, Ψ, h1, h2, h3, h4, _⟩ => by rw [h3.length]; exact hl V ds Ψ h4) (fun cdv A' outer s H vs Q E hr ⟨S, ds, V, Ψ, h1, h2, h3, h4, h5, h6⟩ => ?_)
  refine ⟨_, hb cdv A' outer s H E ⟨V.M, S, H⟩ V ds Ψ hr (takes_of rfl rfl rfl rfl) h4, S, ⟨⟨h1, h2, ?_⟩, .refl h1, fun q m => .inl m⟩, fun env' V' σ' S' H' n z => h5 .non V' .non S' H' n z.gr z.ok.j (R.non_iff.mpr rfl), fun d V' v S' H' n g j r => h5 d V' v S' H' n g j r, fun er V' cls dd σ' S' H' n g j r => h6 er V' cls dd S' H' n g j r⟩
  have := RS.start (N.length - vs.length) h3
  rw [h3.length] at this
  unfold L2.start
  rw [h3.length]
  exact this
structure FnC (P : Program) (w : World) (K : PySem.W.Frag) (mg : Str → Option Value) (base : Heap) (C : Addr) (T : Tx) (x : Str) (k : Nat) (ps : List Str) (Pm : Vo → List D → (Except Err D → Vo → Prop) → Prop) : Prop where
  ex : ∃ (f : Addr) (fd : FuncData), mg x = some (.ref f) ∧ PySem.W.keepIn K (.ref f) = true ∧ L2.Binds K fd ps [] ∧ FnOk P w K mg base (L2.CX P w) k f fd ps (spH K C T Pm)
theorem Df.fnH {x : Str} {st : Stmt} {N ps : List Str} {k : Nat} {Pm : Vo → List D → (Except Err D → Vo → Prop) → Prop} (d : Df K mg x st ps) (Sc : FnScope N ps (defScope st)) (hl : ∀ V ds Ψ, Pm V ds Ψ → ds.length = ps.length)
    (hb : ∀ (f : Addr) (cdv : Value) (A' : Around) (outer : List Env) (s : Shared) (H : Hp) (E : XK) (A : Ah) (V : Vo) (ds : List D) (Ψ : Except Err D → Vo → Prop), Room k (A'.deeper (envOfC x (defScope st) s.heap.objs.size f cdv)) → Takes (bodyX P w K mg base N x st f cdv A' outer s H E) (fun cls d _ H' => E cls d H') → Pm V ds Ψ →
      JH (bodyX P w K mg base N x st f cdv A' outer s H E) C T A V (envS N ds) (defBody st) (fun _ V' => Ψ (.ok .non) V') (fun d V' => Ψ (.ok d) V') (fun cls d _ H' => E cls d H') (fun er V' => Ψ (.error er) V')) : FnC P w K mg base C T x (k + 1) ps Pm := by
  obtain ⟨f, fd, h1, F, h2⟩ := d.ex
  exact ⟨f, fd, h1, F.kp, h2, okH F Sc hl (hb f)⟩
/-- a method of the class Cc -/
structure Mth (P : Program) (w : World) (K : PySem.W.Frag) (mg : Str → Option Value) (base : Heap) (C : Addr) (T : Tx) (Cc : Addr) (m : Str) (k : Nat) (ps : List Str) (Pm : Vo → List D → (Except Err D → Vo → Prop) → Prop) : Prop where
  ex : ∃ (f : Addr) (fd : FuncData), Meth K Cc m f ∧ L2.Binds K fd ps [] ∧ FnOk P w K mg base (L2.CX P w) k f fd ps (spH K C T Pm)
/-- .. as the text writes it -/
structure Dmt (K : PySem.W.Frag) (Cc : Addr) (m qual : Str) (st : Stmt) (ps : List Str) : Prop where
  ex : ∃ (f : Addr) (fd : FuncData), Meth K Cc m f ∧ Fun K m qual st f fd ∧ L2.Binds K fd ps []
theorem Dmt.mth {Cc : Addr} {m qual : Str} {st : Stmt} {N ps : List Str} {k : Nat} {Pm : Vo → List D → (Except Err D → Vo → Prop) → Prop} (d : Dmt K Cc m qual st ps) (Sc : FnScope N ps (defScope st)) (hl : ∀ V ds Ψ, Pm V ds Ψ → ds.length = ps.length)
    (hb : ∀ (f : Addr) (cdv : Value) (A' : Around) (outer : List Env) (s : Shared) (H : Hp) (E : XK) (A : Ah) (V : Vo) (ds : List D) (Ψ : Except Err D → Vo → Prop), Room k (A'.deeper (envOfC qual (defScope st) s.heap.objs.size f cdv)) → Takes (bodyX P w K mg base N qual st f cdv A' outer s H E) (fun cls d _ H' => E cls d H') → Pm V ds Ψ →
      JH (bodyX P w K mg base N qual st f cdv A' outer s H E) C T A V (envS N ds) (defBody st) (fun _ V' => Ψ (.ok .non) V') (fun d V' => Ψ (.ok d) V') (fun cls d _ H' => E cls d H') (fun er V' => Ψ (.error er) V')) : Mth P w K mg base C T Cc m (k + 1) ps Pm := by
  obtain ⟨f, fd, h1, F, h2⟩ := d.ex
  exact ⟨f, fd, h1, h2, okH F Sc hl (hb f)⟩
end
section
variable {X : Cx} {k : Nat} {f Cc : Addr} {fd : FuncData} {ps : List Str} {sp : Sp} {E : L2.St → XK} {m : Str} {pos apos : Pos} {e o : Expr} {es : List Expr} {ta : TE} {t : TA}
def tMethE (Cc : Addr) (m : Str) (sp : Sp) (E : L2.St → XK) (ta : TE) (t : TA) : TE := fun σ H Q => ta σ H fun x H1 => ∃ a dx fs, x = .ref a ∧ H1 a = some (.ins Cc dx fs) ∧ fs.lookup m = none ∧ t σ H1 fun vs H2 => sp (x :: vs) H2 Q (E σ)
theorem pe_methE {pl : Sem Bool} (he : PE X o ta) (c : Cls X.K Cc) (hm : Meth X.K Cc m f) (F : FnOk X.prog X.w X.K X.mg X.base (L2.CX X.prog X.w) k f fd ps sp) (hr : Room k X.A) (hb : L2.Binds X.K fd ps []) (hx : ∀ σ, PassesAt (L2.CX X.prog X.w) X σ (E σ)) (ha : PA X (e :: es) t)
    (hst : starEach (e :: es) X.env = (false, eval e X.env) :: starEach es X.env := by rfl) (hpl : (backTo pos (starEach es X.env)).any (·.1) = false := by rfl)
    (ht : eval (.Call (.Attribute o m apos) (e :: es) [] pos) X.env = (do let ov ← eval o X.env; standAt apos.atName; let (f, first) ← holding [ov] (getMethod ov m pl); callWith pos f first (backTo pos (starEach (e :: es) X.env)) (backToKw pos (keywordEach [] X.env))) := by rfl) :
    PE X (.Call (.Attribute o m apos) (e :: es) [] pos) (tMethE Cc m sp E ta t) := by
  refine ⟨fun pins s σ H Q I h => ?_⟩
  refine PySem.W.methodCall_KW (pl := pl) (thn (he.run pins s σ H _ I h) fun u s1 ⟨x, H1, I1, rx, a, dx, fs, ex, ea, l, q⟩ => ?_) ht
  subst ex
  obtain rfl : u = Value.ref a := rx
  refine getmeth_ok I1 ea c hm l ?_
  exact PySem.W.callWith_K (first := [.ref a]) (h₀ := X.base) I.ok.mod.kin hm.kp (thn (ha.run pos pins s1 σ H1 _ I1 q) fun us s2 ⟨vs, H2, I2, r, q2⟩ => ⟨I2.kIn, run_fnS (us := .ref a :: us) (vs := .ref a :: vs) F hr hb (hx σ) I2 (.cons rfl r) q2⟩) hst hpl
theorem pe_methE0 {pl : Sem Bool} (he : PE X o ta) (c : Cls X.K Cc) (hm : Meth X.K Cc m f) (F : FnOk X.prog X.w X.K X.mg X.base (L2.CX X.prog X.w) k f fd ps sp) (hr : Room k X.A) (hb : L2.Binds X.K fd ps []) (hx : ∀ σ, PassesAt (L2.CX X.prog X.w) X σ (E σ))
    (ht : eval (.Call (.Attribute o m apos) [] [] pos) X.env = (do let ov ← eval o X.env; standAt apos.atName; let (f, first) ← holding [ov] (getMethod ov m pl); callWith pos f first (backTo pos (starEach [] X.env)) (backToKw pos (keywordEach [] X.env))) := by rfl) :
    PE X (.Call (.Attribute o m apos) [] [] pos) (tMethE Cc m sp E ta tNil) := by
  refine ⟨fun pins s σ H Q I h => ?_⟩
  refine PySem.W.methodCall_KW (pl := pl) (thn (he.run pins s σ H _ I h) fun u s1 ⟨x, H1, I1, rx, a, dx, fs, ex, ea, l, q⟩ => ?_) ht
  subst ex
  obtain rfl : u = Value.ref a := rx
  refine getmeth_ok I1 ea c hm l ?_
  exact PySem.W.callWith_K0 (first := [.ref a]) I1.kIn hm.kp (run_fnS (us := [.ref a]) (vs := [.ref a]) F hr hb (hx σ) I1 (.cons rfl .nil) q)
end
section
variable {X : Cx} {C Cc a : Addr} {T : Tx} {A : Ah} {V : Vo} {env : List En} {e o : Expr} {es : List Expr} {m x : Str} {k j : Nat} {ps : List Str} {Pm : Vo → List D → (Except Err D → Vo → Prop) → Prop} {xs : List D} {Ψ : Except Err D → Vo → Prop} {W : WX} {pos apos p : Pos}
/-- an object's own address -/
def isAt (V : Vo) (Cc a : Addr) (m : Str) : Prop := ∀ S H, V.J S H → ∃ dx fs, H a = some (.ins Cc dx fs) ∧ fs.lookup m = none
theorem obj_at {K : PySem.W.Frag} {fds : List (Str × D)} (h : fds.lookup m = none) : isAt (V.obj K C Cc a fds) Cc a m := fun S H ⟨_, _, _, dx, fs, h4, h5⟩ => ⟨dx, fs, h4, h5.none h⟩
theorem callH_use {K : PySem.W.Frag} {σ : L2.St} {S H S1 H1 : Hp} {ds : List D} {vs : List L2.V} {Q : VK} (o : Ok K C V S H σ env) (g1 : Gr V.M S H S1 H1) (j1 : V.J S1 H1) (r1 : RL K C S1 ds vs) (hP : Pm V ds Ψ) (k1 : ∀ d V' v S' H', Ψ (.ok d) V' → Gr V.M S H S' H' → V'.J S' H' → R K C S' d v → Q v H')
    (k2 : ∀ er V' cls dd S' H', Ψ (.error er) V' → Gr V.M S H S' H' → V'.J S' H' → RX K C T S' H' er cls dd → W cls dd σ H') : spH K C T Pm vs H1 Q (WE W σ) :=
  ⟨S1, ds, V, Ψ, g1.sub, j1, r1, hP, fun d V' v S' H' p g j r => k1 d V' v S' H' p (g1.trans g) j r, fun er V' cls dd S' H' p g j r => k2 er V' cls dd S' H' p (g1.trans g) j r⟩
theorem px_meth (M : Mth X.prog X.w X.K X.mg X.base C T Cc m k ps Pm) (hr : Room j X.A) (hk : k ≤ j) (tk : Takes X W) (c : Cls X.K Cc) (he : JE X C V env o (· = .raw (.ref a))) (hat : isAt V Cc a m) (ha : JA X C V env (e :: es) (· = xs)) (hP : Pm V (.raw (.ref a) :: xs) Ψ) {pl : Sem Bool}
    (hst : starEach (e :: es) X.env = (false, eval e X.env) :: starEach es X.env := by rfl) (hpl : (backTo pos (starEach es X.env)).any (·.1) = false := by rfl)
    (ht : eval (.Call (.Attribute o m apos) (e :: es) [] pos) X.env = (do let ov ← eval o X.env; standAt apos.atName; let (f, first) ← holding [ov] (getMethod ov m pl); callWith pos f first (backTo pos (starEach (e :: es) X.env)) (backToKw pos (keywordEach [] X.env))) := by rfl) :
    PE X (.Call (.Attribute o m apos) (e :: es) [] pos) (tX X.K C T V env W Ψ) := by
  obtain ⟨f, fd, h1, h2, h3⟩ := M.ex
  exact (pe_methE (E := WE W) (pl := pl) he c h1 h3 (hr.mono hk) h2 (fun σ => passAt tk σ) ha hst hpl ht).weak fun σ H Q ⟨S, o, k1, k2⟩ => ⟨S, o, fun d v S1 H1 e1 g1 j1 r1 => by
    subst e1
    rw [R.raw_iff] at r1
    subst r1
    obtain ⟨dx, fs, q1, q2⟩ := hat S1 H1 j1
    exact ⟨a, dx, fs, rfl, q1, q2, S1, o.gr g1 j1, fun ds vs S2 H2 e2 g2 j2 r2 => by
      subst e2
      exact callH_use o (g1.trans g2) j2 (RL.cons (R.raw_iff.mpr rfl) r2) hP k1 k2⟩⟩
theorem px_meth0 (M : Mth X.prog X.w X.K X.mg X.base C T Cc m k ps Pm) (hr : Room j X.A) (hk : k ≤ j) (tk : Takes X W) (c : Cls X.K Cc) (he : JE X C V env o (· = .raw (.ref a))) (hat : isAt V Cc a m) (hP : Pm V [.raw (.ref a)] Ψ) {pl : Sem Bool}
    (ht : eval (.Call (.Attribute o m apos) [] [] pos) X.env = (do let ov ← eval o X.env; standAt apos.atName; let (f, first) ← holding [ov] (getMethod ov m pl); callWith pos f first (backTo pos (starEach [] X.env)) (backToKw pos (keywordEach [] X.env))) := by rfl) :
    PE X (.Call (.Attribute o m apos) [] [] pos) (tX X.K C T V env W Ψ) := by
  obtain ⟨f, fd, h1, h2, h3⟩ := M.ex
  exact (pe_methE0 (E := WE W) (pl := pl) he c h1 h3 (hr.mono hk) h2 (fun σ => passAt tk σ) ht).weak fun σ H Q ⟨S, o, k1, k2⟩ => ⟨S, o, fun d v S1 H1 e1 g1 j1 r1 => by
    subst e1
    rw [R.raw_iff] at r1
    subst r1
    obtain ⟨dx, fs, q1, q2⟩ := hat S1 H1 j1
    exact ⟨a, dx, fs, rfl, q1, q2, callH_use o g1 j1 (RL.cons (R.raw_iff.mpr rfl) RL.nil) hP k1 k2⟩⟩
theorem px_calC (F : FnC X.prog X.w X.K X.mg X.base C T x k ps Pm) (hr : Room j X.A) (hk : k ≤ j) (tk : Takes X W) (ha : JA X C V env (e :: es) (· = xs)) (hP : Pm V xs Ψ) (hg : Gl X x := by rfl)
    (hdb : (x == ("__debug__" : Str)) = false := by decide) (hst : starEach (e :: es) X.env = (false, eval e X.env) :: starEach es X.env := by rfl) (hpl : (backTo pos (starEach es X.env)).any (·.1) = false := by rfl) : PE X (.Call (.Name x p) (e :: es) [] pos) (tX X.K C T V env W Ψ) := by
  obtain ⟨f, fd, h1, h2, h3, h4⟩ := F.ex
  exact (pe_callS h4 (hr.mono hk) hg h1 h2 h3 (fun σ => passAt tk σ) ha hdb hst hpl).weak fun σ H Q ⟨S, o, k1, k2⟩ => ⟨S, o, fun ds vs S1 H1 e1 g1 j1 r1 => by
    subst e1
    exact callH_use o g1 j1 r1 hP k1 k2⟩
/-- what changes nothing -/
theorem px_ofJX {r : Except Err D} (h : PE X e (tJX X.K C T V env W r)) : PE X e (tX X.K C T V env W (fun r' V' => r' = r ∧ V' = V)) := h.weak fun σ H Q ⟨S, o, k1, k2⟩ => ⟨S, o, fun d v S' H' e1 g j rr => k1 d V v S' H' ⟨e1.symm, rfl⟩ g j rr, fun er cls dd S' H' e1 g j rx => k2 er V cls dd S' H' ⟨e1.symm, rfl⟩ g j rx⟩
variable {N : List En → Vo → Prop} {Rt : D → Vo → Prop} {Et : Err → Vo → Prop} {rest : List Stmt} {i : Nat} {n : Str} {pos' : Pos}
theorem Zh.call {K : PySem.W.Frag} {V' : Vo} {S H S' H' : Hp} {σ σ' : L2.St} {env' : List En} (z : Zh K C A V S H σ env) (g : Gr V.M S H S' H') (j : V'.J S' H') (hM : ∀ q, V'.M q → V.M q) (r : RS K C S' σ' env') : Zh K C A V' S' H' σ' env' := ⟨⟨g.sub, j, r⟩, z.gr.am g z.le, fun q m => z.le q (hM q m)⟩
theorem h_exprX (he : PE X e (tX X.K C T V env W Ψ)) (hM : ∀ d V', Ψ (.ok d) V' → ∀ q, V'.M q → V.M q) (ho : ∀ d V', Ψ (.ok d) V' → JH X C T A V' env rest N Rt W Et) (hE : ∀ er V', Ψ (.error er) V' → Et er V') (hs : swapsWith e none pos.line X.env = pure false := by rfl) : JH X C T A V env (.Expr e pos :: rest) N Rt W Et :=
  (pss_cons (ps_expr he hs) (pss_fam (P := fun q : D × Vo => Ψ (.ok q.1) q.2) fun q h => ho q.1 q.2 h)).weak fun D σ H ⟨S, z, k1, k2, k3⟩ => ⟨S, z.ok, fun d V' v S' H' p g j r => ⟨(d, V'), p, S', z.call g j (hM d V' p) (z.ok.rs.mono g.s), k1, k2, k3⟩, fun er V' cls dd S' H' p g j rx => k3 er V' cls dd σ S' H' (hE er V' p) (z.gr.am g z.le) j rx⟩
theorem h_letX (hN : X.N.Nodup) (hi : X.N[i]? = some n) (hx : Loc X.env.scope n) (he : PE X e (tX X.K C T V env W Ψ)) (hM : ∀ d V', Ψ (.ok d) V' → ∀ q, V'.M q → V.M q) (ho : ∀ d V', Ψ (.ok d) V' → JH X C T A V' (env.set i (.d d)) rest N Rt W Et) (hE : ∀ er V', Ψ (.error er) V' → Et er V') (hs : swapsWith e (some (.Name n pos')) pos.line X.env = pure false := by rfl)
    (hf : X.fn n = true ∨ X.env.scope.names.lookup n = some .local := by first | exact .inl rfl | exact .inr rfl | assumption) : JH X C T A V env (.Assign [.Name n pos'] e pos :: rest) N Rt W Et :=
  (pss_cons (ps_set hN hi hx he hs hf) (pss_fam (P := fun q : D × Vo => Ψ (.ok q.1) q.2) fun q h => ho q.1 q.2 h)).weak fun D σ H ⟨S, z, k1, k2, k3⟩ => ⟨S, z.ok, fun d V' v S' H' p g j r => ⟨(d, V'), p, S', z.call g j (hM d V' p) ((z.ok.rs.mono g.s).setD i r), k1, k2, k3⟩, fun er V' cls dd S' H' p g j rx => k3 er V' cls dd σ S' H' (hE er V' p) (z.gr.am g z.le) j rx⟩
theorem h_retX (he : PE X e (tX X.K C T V env W Ψ)) (ho : ∀ d V', Ψ (.ok d) V' → Rt d V') (hE : ∀ er V', Ψ (.error er) V' → Et er V') : JHt X C T A V env (.Return (some e) pos) N Rt W Et :=
  (ps_ret he).weak fun D σ H ⟨S, z, k1, k2, k3⟩ => ⟨S, z.ok, fun d V' v S' H' p g j r => k2 d V' v S' H' (ho d V' p) (z.gr.am g z.le) j r, fun er V' cls dd S' H' p g j rx => k3 er V' cls dd σ S' H' (hE er V' p) (z.gr.am g z.le) j rx⟩
end
end RQ

/-! Rqh: a caught error handed to a def; errors whose context is None; a comprehension within a suite. -/
namespace RQ
open PySem PySem.Spec PyProof.Rows L2

/-- an object that stands as it is -/
def isO (a : Addr) (oe : Obj) : HO := .ext fun h => h.get? a = some oe
theorem isO_ok {P : Program} {w : World} {H : Hp} {h : Heap} {a : Addr} {oe : Obj} (e : h.get? a = some oe) : ObjOk P w H h a (isO a oe) := ⟨e, ⟨oe, e⟩, fun _ _ q k => k oe q⟩
def delA (H : Hp) (a : Addr) : Hp := fun b => if b = a then none else H b
theorem delA_same {H : Hp} {a : Addr} : delA H a a = none := by unfold delA; rw [if_pos rfl]
theorem delA_ne {H : Hp} {a b : Addr} (h : b ≠ a) : delA H a b = H b := by unfold delA; rw [if_neg h]
def Vo.exc (V : Vo) (a : Addr) (oe : Obj) : Vo := ⟨fun q => V.M q ∨ q = a, fun S H => V.J S H ∧ S a = none ∧ ¬ V.M a ∧ H a = some (isO a oe), fun S H q ⟨j1, j2, j3, j4⟩ m => by
    rcases m with m | m
    · exact V.th S H q j1 m
    · subst m; exact ⟨⟨_, j4⟩, j2⟩, fun S H S' H' ⟨j1, j2, j3, j4⟩ ss sub h1 h2 => ⟨V.st S H S' H' j1 ss sub (fun q m => h1 q (.inl m)) (fun q m => h2 q (.inl m)), h2 a (.inr rfl), j3, by rw [h1 a (.inr rfl)]; exact j4⟩⟩
section
variable {V : Vo} {S H S' H' : Hp} {a : Addr} {oe : Obj} {o : HO}
theorem Gr.unx (g : Gr (V.exc a oe).M S (upd H a o) S' H') (n : H a = none) (s : S' a = none) : Gr V.M S H S' (delA H' a) where
  s := g.s
  sub := fun p u e => by rw [delA_ne (ne_of_none e s)]; exact g.sub p u e
  h := fun p u m e => by
    have ne := ne_of_none e n
    rw [delA_ne ne]
    exact g.h p u (fun z => z.elim m ne) (by rw [upd_ne ne]; exact e)
  m := fun p u e => by
    have ne := ne_of_none e n
    rw [delA_ne ne]
    exact g.m p u (by rw [upd_ne ne]; exact e)
  n := fun p u e q => g.n p u (by rw [upd_ne (ne_of_none e n)]; exact e) q
theorem Vo.unx (j : (V.exc a oe).J S' H') (sub : Same S' H') : V.J S' (delA H' a) := V.st S' H' S' _ j.1 (.refl S') (fun p u e => by rw [delA_ne (ne_of_none e j.2.1)]; exact sub p u e) (fun p m => delA_ne fun z => j.2.2.1 (by rw [← z]; exact m)) fun p m => (V.th S' H' p j.1 m).2
theorem Vo.onx (j : V.J S H) (sub : Same S H) (n : H a = none) : (V.exc a oe).J S (upd H a (isO a oe)) := by
  have m : ¬ V.M a := fun m => by
    obtain ⟨⟨u, e⟩, _⟩ := V.th S H a j m
    rw [n] at e
    cases e
  have s : S a = none := by
    cases e : S a with
    | none => rfl
    | some u => rw [sub a u e] at n; cases n
  exact ⟨V.mut m s sub j, s, m, upd_same⟩
end
/-! ### what a def sees of it -/
section
variable {X : Cx} {C : Addr} {T : Tx} {V : Vo} {env : List En} {e : Expr} {pos p : Pos} {a : Addr} {oe : Obj} {cls : Value} {dd : Option Addr} {er : Err} {n : Str} {d : D} {i : Nat}
theorem call_isE {De : Addr} {d : Option Addr} (Ec : ExcC X.K De) (hz : Zc (.ref De) d oe) (hf : ∃ vs, oe.data = .fields vs) : CallR X (.builtin "isinstance") (fun xs H Q => H a = some (isO a oe) ∧ rIsX X.K De a d xs H Q) := by
  intro pins s σ H xs us Q I r h
  obtain ⟨ha, c, cv, b, rfl, hcv, hd, e, q⟩ := h
  cases r with
  | cons rx rr =>
    cases rr with
    | cons rt rr =>
      cases rr
      cases rx
      have ec := hcv _ rt
      subst ec
      have hget : s.heap.get? a = some oe := (I.hok a _ ha).1
      obtain ⟨vs, hv⟩ := hf
      have hclsIn : (PySem.W.clsIn X.K De).isSome = true := by
        obtain ⟨cd, hc, _⟩ := PySem.W.any_some Ec.hd
        rw [hc]; rfl
      have fin : ∀ od, PySem.W.InstAt s.heap a oe De od → wpAny (model X.prog X.w) X.A (call (.builtin "isinstance") [.ref a, _]) (EP X pins σ Q) X.xe s := fun od J =>
        PySem.W.kia_one (PySem.W.kitx_exc hclsIn Ec.hg Ec.hk Ec.hs Ec.ha Ec.hn Ec.ht Ec.hm) I.kIn J e (fun z => nomatch z) fun tk => ⟨.bl b, H, I.kept (t' := tk) fun _ _ z => z, rfl, q⟩
      rcases hd with hd | ⟨dd, fs, hd, hx⟩
      · refine fin none ?_
        obtain ⟨oc, od, oda, osl⟩ := oe
        obtain ⟨h1, h2⟩ := hz
        dsimp only at h1 h2 hv
        subst h1 hd h2 hv
        exact ⟨hget, rfl, rfl, trivial⟩
      · have hx' : ObjOk X.prog X.w H s.heap dd (.xd fs) := I.hok dd _ hx
        obtain ⟨mA, ⟨od, es, ep, ho, _⟩, _⟩ := hx'
        refine fin (some od) ?_
        obtain ⟨oc, od', oda, osl⟩ := oe
        obtain ⟨h1, h2⟩ := hz
        dsimp only at h1 h2 hv
        subst h1 hd h2 hv
        exact ⟨hget, rfl, rfl, ho⟩
/-- isinstance(e, c) -/
theorem je_isE {p2 : Pos} {j : Nat} {b : Bool} (z : Zb X.mg) (Ec : ExcC X.K (T.cl er.k)) (hz : Zc cls dd oe) (hf : ∃ vs, oe.data = .fields vs) (hc : cls = .ref (T.cl er.k)) (hg : X.mg n = some (.ref (T.cl j))) (hk : PySem.W.kitOne X.K (.ref (T.cl er.k)) (.ref (T.cl j)) = some b)
    (he : JE X C ((V.err X.K C T er dd).exc a oe) env e (· = .raw (.ref a))) (g1 : Gl X "isinstance" := by rfl) (g2 : Gl X n := by rfl) (hdb : (n == ("__debug__" : Str)) = false := by decide)
    (he1 : starEach [e, .Name n p2] X.env = (false, eval e X.env) :: starEach [.Name n p2] X.env := by rfl) (he2 : starEach [.Name n p2] X.env = (false, eval (.Name n p2) X.env) :: starEach [] X.env := by rfl) (hpl : (backTo pos (starEach [.Name n p2] X.env)).any (·.1) = false := by rfl) :
    JE X C ((V.err X.K C T er dd).exc a oe) env (.Call (.Name "isinstance" p) [e, .Name n p2] [] pos) (· = .bl b) := by
  subst hc
  refine (pe_callB (call_isE (a := a) Ec hz hf) g1 z.isinstance (by decide +kernel) (ja_cons he (ja_cons (je_c (x := .raw (.ref (T.cl j))) (fun S => R.raw_iff.mpr rfl) (pe_glob (v := .ref (T.cl j)) g2 hg rfl hdb)) ja_nil he2) he1) (by decide) (by decide) he1 hpl).weak fun σ H Q ⟨S, o, q⟩ => ⟨S, o, fun ds vs S1 H1 p1 g1 j1 r1 => ?_⟩
  subst p1
  obtain ⟨v, w, e1, h1, h2⟩ := RL.two r1
  rw [R.raw_iff] at h1 h2
  subst h1 h2 e1
  refine ⟨j1.2.2.2, .ref (T.cl j), .ref (T.cl j), b, rfl, fun u h => h, ?_, hk, q _ _ S1 H1 rfl g1 j1 (R.bl_iff.mpr rfl)⟩
  rcases j1.1.2 with ⟨_, h1⟩ | ⟨x, xs, vs, h1, h2, h3, h4⟩
  · exact .inl h1
  · exact .inr ⟨x, xs, h1, g1.sub _ _ h2⟩
/-- e.f -/
theorem je_fE (Tx : XfC X.K (T.cl er.k)) (hno : PySem.W.findIn X.K (.ref (T.cl er.k)) n = some none) (hz : Zc cls dd oe) (hf : ∃ vs, oe.data = .fields vs) (hc : cls = .ref (T.cl er.k)) (he : JE X C ((V.err X.K C T er dd).exc a oe) env e (· = .raw (.ref a)))
    (hn : (T.fn er.k)[i]? = some n) (hd : er.fs[i]? = some d) (hb : attributeBase e n X.env (eval e X.env) = eval e X.env := by rfl) : JE X C ((V.err X.K C T er dd).exc a oe) env (.Attribute e n pos) (· = d) := by
  refine ⟨fun pins s σ H Q I ⟨S, o, q⟩ => ?_⟩
  refine attr_of hb (thn (he.run pins s σ H (fun v H1 => v = .ref a ∧ H1 a = some (isO a oe) ∧ ∃ (x : Addr) (xs : List (Str × L2.V)) (y : L2.V), dd = some x ∧ H1 x = some (.xd xs) ∧ xs.lookup n = some y ∧ Q y H1) I ⟨S, o, fun d1 v1 S1 H1 p1 g1 j1 r1 => ?_⟩) fun u s1 ⟨x, H1, I1, rx, e1, hI, x1, xs, y, h1, h2, h3, hq⟩ => ?_)
  · subst p1
    rw [R.raw_iff] at r1
    rcases j1.1.2 with ⟨h1, _⟩ | ⟨x, xs, vs, h1, h2, h3, h4⟩
    · rw [h1] at hd; simp at hd
    · obtain ⟨v, hv, rv⟩ := h3.get hd
      exact ⟨r1, j1.2.2.2, x, xs, v, h1, g1.sub _ _ h2, h4 i n v hn hv, q d v S1 H1 rfl g1 j1 rv⟩
  · subst e1
    obtain rfl : u = Value.ref a := rx
    have ha : s1.heap.get? a = some oe := (I1.hok a _ hI).1
    obtain ⟨vs, hd'⟩ := hf
    have hx : ObjOk X.prog X.w H1 s1.heap x1 (.xd xs) := I1.hok x1 _ h2
    obtain ⟨mA, hns, hr⟩ := hx
    obtain ⟨od, ho, hl⟩ := lookIn_ns hns
    obtain ⟨u, hu, ru⟩ := RelO.some_of (v := y) (o := mA n) (by rw [← h3]; exact hr n)
    have J : PySem.W.InstAt s1.heap a oe (T.cl er.k) (some od) := ⟨ha, by rw [hz.1, hc], by unfold PySem.W.notCls; rw [hd'] <;> rfl, by rw [hz.2, h1]; exact ho⟩
    exact HandSPX.exc_get I1.kIn J Tx.ga Tx.gg Tx.exC (PySem.W.findObj_own Tx.hdC hno rfl (by rw [hl, hu])) (handed_of ru) ⟨y, H1, I1.tok _, ru, hq⟩
end
/-! ### a def that is called while an error is handled, and raises nothing -/
structure RoomK (k : Nat) (A : Around) : Prop where
  dp : A.depth + 3 * k + 5 < recursionLimit
  un : A.units + 16 * k + 200 < cLine
theorem RoomK.mono {j k : Nat} {A : Around} (r : RoomK k A) (h : j ≤ k) : RoomK j A := ⟨by have := r.dp; omega, by have := r.un; omega⟩
theorem RoomK.deeper {k : Nat} {A : Around} (r : RoomK (k + 1) A) (env : Env) : RoomK k (A.deeper env) := ⟨by have := r.dp; show A.depth + 1 + 3 * k + 5 < _; omega, by have := r.un; show A.units + 3 + 16 * k + 200 < _; omega⟩
theorem RoomK.depth {k : Nat} {A : Around} (r : RoomK k A) : A.depth < recursionLimit := by have := r.dp; omega
theorem RoomK.units {k : Nat} {A : Around} (r : RoomK k A) : A.units + 64 < cLine := by have := r.un; omega
theorem roomK_mark {k : Nat} {A : Around} (r : Room k A) (h : Option Value) : RoomK k (A.mark h) := ⟨r.dp, r.un⟩
structure FnOkK (P : Program) (w : World) (K : PySem.W.Frag) (mg : Str → Option Value) (base : Heap) (k : Nat) (f : Addr) (fd : FuncData) (ps : List Str) (sp : Sp) : Prop where
  len : ∀ vs H Q E, sp vs H Q E → vs.length = ps.length
  run : ∀ (A : Around) (outer : List Env) (s : Shared) (H : Hp) (args : Args) (us : List Value) (vs : List L2.V) (Q : VK), RoomK k A → Env0 P w K mg base A outer s H → BindsTo s fd args (ps.zip us) → Vals vs us → sp vs H Q (fun _ _ _ => False) →
    codeAny (model P w) A (.call (.ref f) args) (CR CX0 outer P w H s Q E0) s
/-- the context of its body -/
def bodyK (P : Program) (w : World) (K : PySem.W.Frag) (mg : Str → Option Value) (base : Heap) (N : List Str) (qual : Str) (st : Stmt) (f : Addr) (cdv : Value) (A : Around) (outer : List Env) (s : Shared) (H : Hp) : Cx := { cxOf CX0 P w K mg base N qual (defScope st) f cdv A outer s H E0 with calm := false }
section
variable {P : Program} {w : World} {K : PySem.W.Frag} {mg : Str → Option Value} {base : Heap}
theorem inv_startK {N ps : List Str} {qual : Str} {st : Stmt} {f : Addr} {cd : Value} {A : Around} {outer : List Env} {s s1 : Shared} {H : Hp} {us : List Value} {vs : List L2.V}
    (Sc : FnScope N ps (defScope st)) (e0 : Env0 P w K mg base A outer s H) (hl : vs.length = ps.length) (r : Vals vs us)
    (x : InCallC s s.heap.objs.size (bindL (envOfC qual (defScope st) s.heap.objs.size f cd).kindOf (ps.zip us) fun _ => none) (cellsFrom (s.heap.objs.size + 1) (defScope st).names []) (bindC (envOfC qual (defScope st) s.heap.objs.size f cd).kindOf (ps.zip us) fun _ => none) s1) :
    Inv (bodyK P w K mg base N qual st f cd A outer s H) [] (L2.start N vs) H s1 := by
  have e1 : Env0 P w K mg base { A with handled := none } outer s H := ⟨e0.frames, e0.mod, e0.bs, e0.bsz, e0.funs, e0.frf, e0.hok, e0.bare⟩
  have I : Inv (cxOf CX0 P w K mg base N qual (defScope st) f cd { A with handled := none } outer s H E0) [] (L2.start N vs) H s1 := inv_start Sc rfl e1 hl r x
  have ok := I.ok
  exact ⟨⟨ok.mod, ok.kind, ok.glob, ok.blt, ok.above, ok.inj, ok.has, ok.cab, (fun z => absurd (show false = true from z) Bool.false_ne_true), Around.frames_deeper e0.frames, ok.stk, ok.exf, ok.bs, ok.bsz, ok.noex, ok.exfs, ok.funs, ok.frf⟩, I.os, I.bare, I.base, I.loc, I.cell, I.free, I.freeC, I.pin, I.hok, I.len⟩
theorem fn_ofK {x qual : Str} {st : Stmt} {f : Addr} {fd : FuncData} {N ps : List Str} {k : Nat} {sp : Sp} (F : Fun K x qual st f fd) (Sc : FnScope N ps (defScope st)) (len : ∀ vs H Q E, sp vs H Q E → vs.length = ps.length)
    (hbody : ∀ (cdv : Value) (A : Around) (outer : List Env) (s : Shared) (H : Hp) (vs : List L2.V) (Q : VK), RoomK k (A.deeper (envOfC qual (defScope st) s.heap.objs.size f cdv)) → sp vs H Q (fun _ _ _ => False) →
      ∃ t, PSs (bodyK P w K mg base N qual st f cdv A outer s H) (defBody st) t ∧ t { nx := fun _ H' => Q .non H', rt := Q } (L2.start N vs) H) : FnOkK P w K mg base (k + 1) f fd ps sp := by
  obtain ⟨oc, od, kV, doc, pm, an, cdv, ct, osl, rfl, lk, hcd⟩ := F.ex
  refine ⟨len, fun A outer s H args us vs Q hr e0 hb r hsp => ?_⟩
  have hl := len _ _ _ _ hsp
  have KX : K.In s.heap := e0.mod.kin.keeps fun b o e => (e0.bs b o e).1
  have lim : s.heap.NoLimit := e0.mod.nolimit.keeps fun b o e => (e0.bs b o e).1
  have hkind : ∀ y ∈ ps.zip us, (defScope st).names.lookup y.1 = some .local ∨ ((defScope st).names.lookup y.1 = some .cell ∧ ((cellsFrom (s.heap.objs.size + 1) (defScope st).names []).lookup y.1).isSome = true) := fun ⟨n, v⟩ hy => by
    rcases Sc.par n (List.of_mem_zip hy).1 with q | q
    · exact .inl q
    · exact .inr ⟨q, PySem.W.cellsFrom_some _ _ _ (.inl q)⟩
  refine codeAny_call_function hr.depth (KX _ _ lk) rfl Sc.co Sc.gen rfl (PySem.W.codeRec_of KX hcd) (hb _ _ _ _ ?_)
  refine wpAny_newFunctionEnv_cells Sc.kind hkind fun env he s1 x => ?_
  subst he
  refine ⟨lim.keeps x.toInCall.keep, codeAny_func ?_⟩
  obtain ⟨t, ht, hq⟩ := hbody cdv A outer s H vs Q (hr.deeper _) hsp
  have I : Inv (bodyK P w K mg base N qual st f cdv A outer s H) [] (L2.start N vs) H s1 := inv_startK Sc e0 hl r x
  refine wpAny_mono (ht.run [] s1 (L2.start N vs) H _ I hq) (fun fl s' hs => ?_) fun e s' hs => hs
  have fin : ∀ {σ' : L2.St} {H' : Hp} {v : L2.V} {u : Value}, Inv (bodyK P w K mg base N qual st f cdv A outer s H) [] σ' H' s' → RelV v u → Q v H' → CE outer P w H s Q u s' :=
    fun {σ' H' v u} J rv q => ⟨v, H', J.os, J.bare, J.base, J.hok, rv, q⟩
  cases fl with
  | ret u =>
    obtain ⟨v, σ', H', J, rv, q⟩ := hs
    exact fin J rv q
  | next =>
    obtain ⟨σ', H', J, q⟩ := hs
    exact fin (v := V.non) (u := Value.none) J rfl q
  | brk =>
    obtain ⟨_, _, _, q⟩ := hs
    exact False.elim q
  | cont =>
    obtain ⟨_, _, _, q⟩ := hs
    exact False.elim q
/-- .. that changes nothing; P tells, of what stands and the arguments, what comes back -/
structure FnK (P : Program) (w : World) (K : PySem.W.Frag) (mg : Str → Option Value) (base : Heap) (C : Addr) (T : Tx) (x : Str) (k : Nat) (ps : List Str) (Pm : Vo → List D → D → Prop) : Prop where
  ex : ∃ (f : Addr) (fd : FuncData), mg x = some (.ref f) ∧ PySem.W.keepIn K (.ref f) = true ∧ L2.Binds K fd ps [] ∧ FnOkK P w K mg base k f fd ps (spG K C T fun V ds Ψ => ∃ d, Pm V ds d ∧ Ψ = (· = .ok d))
theorem Df.fnK {C : Addr} {T : Tx} {x : Str} {st : Stmt} {N ps : List Str} {k : Nat} {Pm : Vo → List D → D → Prop} (d : Df K mg x st ps) (Sc : FnScope N ps (defScope st)) (hl : ∀ V ds r, Pm V ds r → ds.length = ps.length)
    (hb : ∀ (f : Addr) (cdv : Value) (A : Around) (outer : List Env) (s : Shared) (H : Hp) (V : Vo) (ds : List D) (r : D), RoomK k (A.deeper (envOfC x (defScope st) s.heap.objs.size f cdv)) → Pm V ds r →
      JS (bodyK P w K mg base N x st f cdv A outer s H) C T V (envS N ds) (defBody st) (fun _ => .non = r) (fun d => d = r) (fun _ _ _ _ => False) (fun _ => False)) : FnK P w K mg base C T x (k + 1) ps Pm := by
  obtain ⟨f, fd, h1, F, h2⟩ := d.ex
  refine ⟨f, fd, h1, F.kp, h2, fn_ofK F Sc (fun vs H Q E ⟨S, ds, V, Ψ, _, _, h3, ⟨r, h4, _⟩, _⟩ => by rw [h3.length]; exact hl V ds r h4) (fun cdv A outer s H vs Q hr ⟨S, ds, V, Ψ, h1, h2, h3, ⟨r, h4, e⟩, h5, _⟩ => ?_)⟩
  subst e
  refine ⟨_, hb f cdv A outer s H V ds r hr h4, S, ⟨h1, h2, ?_⟩, fun env' σ' S' H' n g j rr => h5 .non .non S' H' (by rw [n]) g j (R.non_iff.mpr rfl), fun d v S' H' n g j rr => h5 d v S' H' (by rw [n]) g j rr, fun _ _ _ _ _ _ z => z.elim⟩
  have := RS.start (N.length - vs.length) h3
  rw [h3.length] at this
  unfold L2.start
  rw [h3.length]
  exact this
end
/-! ### the call -/
section
variable {X : Cx} {k : Nat} {f : Addr} {fd : FuncData} {ps : List Str} {sp : Sp} {a : Addr} {oe : Obj}
theorem run_fnE {pins : List (Addr × Obj)} {σ : L2.St} {H : Hp} {s : Shared} {Q : VK} {us : List Value} {vs : List L2.V} (F : FnOkK X.prog X.w X.K X.mg X.base k f fd ps sp) (hr : RoomK k X.A) (hb : L2.Binds X.K fd ps []) (bn : X.base.get? a = none) (hp : (a, oe) ∈ X.pn ++ pins)
    (I : Inv X pins σ H s) (r : Vals vs us) (h : H a = none → sp vs (upd H a (isO a oe)) (fun v H' => H' a = some (isO a oe) ∧ Q v (delA H' a)) fun _ _ _ => False) : wpAny (model X.prog X.w) X.A (call (.ref f) us) (EP X pins σ Q) X.xe s := by
  obtain ⟨hget, n, nL, nF, _⟩ := I.pin _ hp
  have nS : a ∉ frs X.stack := fun z => (List.mem_cons.mp (I.stkSub a z)).elim nL nF
  have h := h n
  have hl : us.length = ps.length := by rw [← r.length]; exact F.len _ _ _ _ h
  have b := hb s us I.kIn (by rw [List.append_nil]; exact hl)
  rw [List.append_nil] at b
  have e0 : Env0 X.prog X.w X.K X.mg X.base X.A X.stack s (upd H a (isO a oe)) := ⟨I.ok.frames, I.ok.mod, fun b o e => ⟨(I.bs b o e).1, by rw [upd_ne (fun z => by rw [z, bn] at e; cases e)]; exact (I.bs b o e).2⟩, Nat.le_trans I.ok.bsz I.sz, I.stack, fun b hb => by rw [upd_ne (fun z => nS (by rw [← z]; exact hb))]; exact I.stkFree b hb,
    HOk.laidN I.hok (fun _ _ q => q) n (isO_ok hget), I.bare⟩
  refine wpAny_call (codeAny_mono (F.run X.A X.stack s _ ⟨us, []⟩ us vs _ hr e0 b r h) fun r s' hq => ?_)
  cases r with
  | error e =>
    exact False.elim hq
  | ok fl =>
    cases fl with
    | ret u =>
      obtain ⟨v, H', os, bare, un, hok, rv, ha, q⟩ := hq
      have hget' : s'.heap.get? a = some oe := (hok a _ ha).1
      have neO : ∀ {b : Addr} {o : HO}, H b = some o → b ≠ a := fun {b o} e z => by rw [z, n] at e; cases e
      refine I.after ⟨v, delA H' a, os, bare, ⟨fun b o e nb hb hx => ?_, fun b o e nb hb hx => ?_, fun b o e nb hx => ?_, un.there, fun b xs e => ?_, fun b o u e => ?_, fun b ps e => ?_⟩, fun b o e => ?_, rv, q⟩
      · by_cases hba : b = a
        · subst hba
          rw [hget] at e
          cases e
          exact hget'
        · exact un.keep b o e (by rw [upd_ne hba]; exact nb) hb hx
      · by_cases hba : b = a
        · subst hba; exact absurd hb nS
        · exact un.slot b o e (by rw [upd_ne hba]; exact nb) hb hx
      · by_cases hba : b = a
        · subst hba; exact delA_same
        · rw [delA_ne hba]; exact un.free b o e (by rw [upd_ne hba]; exact nb) hx
      · rw [delA_ne (neO e)]; exact un.tups b xs (by rw [upd_ne (neO e)]; exact e)
      · rw [delA_ne (neO e)]; exact un.frzs b o u (by rw [upd_ne (neO e)]; exact e)
      · obtain ⟨m, z⟩ := un.tbls b ps (by rw [upd_ne (neO e)]; exact e)
        exact ⟨m, by rw [delA_ne (neO e)]; exact z⟩
      · have hba : b ≠ a := fun z => by rw [z, delA_same] at e; cases e
        rw [delA_ne hba] at e
        refine (hok b o e).stay (fun _ _ _ q => q) (fun c q => ?_) fun c xs q => ?_
        · rw [delA_ne (fun z => by rw [z, ha] at q; cases q)]; exact q
        · rw [delA_ne (fun z => by rw [z, ha] at q; cases q)]; exact q
    | next => exact False.elim hq
    | brk => exact False.elim hq
    | cont => exact False.elim hq
end
section
variable {X : Cx} {C : Addr} {T : Tx} {V : Vo} {env : List En} {e : Expr} {es : List Expr} {p pos : Pos} {a : Addr} {oe : Obj} {pn : List (Addr × Obj)} {x : Str} {j k : Nat} {ps : List Str} {Pm : Vo → List D → D → Prop} {xs : List D} {z : D}
/-- f(.., e, ..) in a suite, e the error that it holds -/
theorem je_callE (F : FnK X.prog X.w X.K X.mg X.base C T x k ps Pm) (hr : RoomK j (X.suite a ((a, oe) :: pn)).A) (hk : k ≤ j) (bn : X.base.get? a = none) (ha : JA (X.suite a ((a, oe) :: pn)) C V env (e :: es) (· = xs)) (hP : Pm (V.exc a oe) xs z) (hg : Gl (X.suite a ((a, oe) :: pn)) x := by rfl)
    (hdb : (x == ("__debug__" : Str)) = false := by decide) (hst : starEach (e :: es) X.env = (false, eval e X.env) :: starEach es X.env := by rfl) (hpl : (backTo pos (starEach es X.env)).any (·.1) = false := by rfl) : JE (X.suite a ((a, oe) :: pn)) C V env (.Call (.Name x p) (e :: es) [] pos) (· = z) := by
  obtain ⟨f, fd, h1, h2, h3, h4⟩ := F.ex
  refine ⟨fun pins s σ H Q I ⟨S, o, q⟩ => ?_⟩
  refine wpAny_Call_Name_kw (ld_glob I hg h1 ?_ hdb)
  refine PySem.W.callWith_K (h₀ := X.base) I.ok.mod.kin h2 (thn (ha.run pos pins s σ H (fun vs H1 => ∃ S1, Gr V.M S H S1 H1 ∧ V.J S1 H1 ∧ RL X.K C S1 xs vs) I ⟨S, o, fun ds vs S1 H1 e1 g1 j1 r1 => by subst e1; exact ⟨S1, g1, j1, r1⟩⟩) fun us s1 ⟨vs, H1, I1, r, S1, g1, j1, r1⟩ => ⟨I1.kIn, ?_⟩) hst hpl
  refine run_fnE (X := X.suite a ((a, oe) :: pn)) (a := a) (oe := oe) (k := k) h4 (hr.mono hk) h3 bn (List.mem_append_left _ List.mem_cons_self) I1 r fun n => ?_
  refine ⟨S1, xs, V.exc a oe, _, fun b u z => by rw [upd_ne (fun y => by rw [← y, g1.sub b u z] at n; cases n)]; exact g1.sub b u z, Vo.onx j1 g1.sub n, r1, ⟨z, hP, rfl⟩, fun d v S' H' hd g jj rv => ⟨jj.2.2.2, q d v S' _ (Except.ok.inj hd) (g1.trans (g.unx n jj.2.1)) (Vo.unx jj g.sub) rv⟩, fun er cls dd S' H' z => nomatch z⟩
end
/-! ### try with one named clause; the base doesn't know the error -/
section
variable {X : Cx} {body suite : List Stmt} {b₀ : Stmt} {x n : Str} {np pos' pos : Pos} {i : Nat} {c : Value} {ts : Addr → Value → Option Addr → TS} {tb : WX → TS} {Wout : WX}
theorem ps_tryB (hs : X.stack = X.env :: X.outer) (hf : X.env.frame = some X.env.locals) (tk : L2N.Takes X Wout)
    (hb : ∀ (W : WX) (pn : List (Addr × Obj)) (xe : Value → Shared → Prop), L2N.Takes (X.tr pn xe) W → PassesOwn (model X.prog X.w) X.A X.env xe → PSs (X.tr pn xe) body (tb W))
    (hN : X.N.Nodup) (hi : X.N[i]? = some n) (hln : X.env.kindOf n = some .local) (hc : Names X x c)
    (hsu : ∀ (a : Addr) (oe : Obj) (cls : Value) (d : Option Addr) (pn : List (Addr × Obj)), X.base.get? a = none → L2N.Zn cls d oe → (∃ vs, oe.data = .fields vs) → PSs (X.suite a ((a, oe) :: pn)) (b₀ :: suite) (ts a cls d)) :
    PS X (.Try body [.ExceptHandler (some (.Name x np)) (some n) (b₀ :: suite) pos'] [] [] pos) (fun D σ H => tb (wG X.K Wout D [(c, some i, ts)]) D σ H) := by
  refine ⟨fun pins s σ H D I h => ?_⟩
  have ok := I.ok
  have hfr : X.A.frames = some (X.env :: X.outer) := by rw [ok.frames, hs]
  refine wpAny_Try_except ?_
  refine wpAny_mono ((hb (wG X.K Wout D [(c, some i, ts)]) (X.pn ++ pins) (fun e s₁ => wpAny (model X.prog X.w) X.A (noteFrame e X.env) (fun _ s₂ => wpAny (model X.prog X.w) X.A (setFlight e none) (fun _ s₃ =>
    wpAny (model X.prog X.w) X.A (handleBy e X.env [.ExceptHandler (some (.Name x np)) (some n) (b₀ :: suite) pos']) (SP X pins D) X.xe s₃) X.xe s₂) X.xe s₁) (fun u s' xx => ?_) PassesOwn.looking).run [] s σ H D (I.toTry _) h) (fun f s1 hsp => ?_) (fun e s1 he => he)
  · obtain ⟨a, B, sI, pins', σ', H', cls, d, rfl, J', nb, up, sky, na, os, ag, w⟩ := xx
    have J : Inv X pins σ' H' sI := J'.ofTry ok
    have sky' : Sky B (X.env :: X.outer) a (L2N.Zn cls d) X.env.locals s'.heap := by rw [← hs]; exact sky
    show wpAny (model X.prog X.w) X.A (noteFrame (.ref a) X.env) _ _ _
    refine L2N.Sky.land L2N.Zn.steady hfr hf sky' fun h3 fl3 up3 => ?_
    have J3 : Inv X pins σ' H' { s' with heap := h3 } := J.landed nb fl3.1 (up.trans up3) os ag
    obtain ⟨oe3, vs3, he3, hz3, hd3⟩ := fl3.there
    have notFr : ∀ {h : Heap} {o : Obj} {vs : Array Value}, h.FunFrames B (X.env :: X.outer) → h.get? a = some o → o.data = .fields vs → a ∉ frs (X.env :: X.outer) := fun {h o vs} ff e dd hm => by
      obtain ⟨_, o', e', hnf⟩ := ff.mem hm
      rw [e] at e'; cases e'
      exact hnf _ dd
    have nfr := notFr fl3.2.2.1 he3 hd3
    have bn : X.base.get? a = none := by
      cases e : X.base.get? a with
      | none => rfl
      | some o =>
        have q := nb a o (J.bk a o e) (by rw [hs]; exact nfr)
        rw [fl3.2.1] at q
        cases q
    have nL : a ≠ X.env.locals := fun z => nfr (List.mem_filterMap.mpr ⟨X.env, List.mem_cons_self, by rw [hf, z]⟩)
    have nF : a ∉ X.fs := fun hm => by
      obtain ⟨e, he, q⟩ := List.mem_filterMap.mp hm
      exact nfr (List.mem_filterMap.mpr ⟨e, List.mem_cons_of_mem _ he, q⟩)
    have S3 := J3.suite he3 hd3 na nL nF
    have test : ∀ {x : Str} {c : Value} {np : Pos} {Q : Value → Shared → Prop} {E : Value → Shared → Prop}, Names X x c → Q c { s' with heap := h3 } → wpAny (model X.prog X.w) (X.A.mark (some (.ref a))) (eval (.Name x np) X.env) Q E { s' with heap := h3 } := fun {x c np Q E} hc q => by
      obtain ⟨hg, hdbg, hm | ⟨hm, hv, hnn⟩⟩ := hc
      · exact ld_glob (X := X.suite a ((a, oe3) :: (X.pn ++ pins))) S3 hg hm q hdbg
      · exact ld_blt (X := X.suite a ((a, oe3) :: (X.pn ++ pins))) S3 hg hm hv q hnn hdbg
    have hloc : Loc X.env.scope n := .inl hln
    obtain ⟨b, hb1, hyes, hno⟩ := w
    refine wpAny_handleBy_cons (codeAny_handlers_test ?_) (by intro q; cases q)
    have LT : PySem.W.Looks (model X.prog X.w) h3 (typeOf (.ref a)) cls := fun A Q E s k q => wpAny_typeOf_ref (k _ _ he3) (by rw [hz3.1]; exact q)
    have LM := PySem.W.exm_one (M := model X.prog X.w) (J3.kIn) LT hb1
    refine test hc (LM.here ?_)
    cases b with
    | true =>
      refine codeAny_handlers_suite_as ?_
      refine HandSPX.lands_againZ fl3 fun h4 fl4 up4 => ?_
      have J4 : Inv X pins σ' H' { s' with heap := h4 } := J.landed nb fl4.1 ((up.trans up3).trans up4) os ag
      obtain ⟨oe4, vs4, he4, hz4, hd4⟩ := fl4.there
      have S4 := J4.suite he4 hd4 na nL nF
      refine store_ok (X := X.suite a ((a, oe4) :: (X.pn ++ pins))) (v := .ref a) S4 hN hi hloc rfl (fun s5 S5 => ?_) (.inr hln)
      refine wpAny_mono ((hsu a oe4 cls d (X.pn ++ pins) bn hz4 ⟨_, hd4⟩).run [] s5 _ H' _ S5 (hyes rfl a na)) (fun f s6 hsp => ?_) (fun _ _ z => False.elim z)
      have end_ : ∀ {σ6 : L2.St} {H6 : Hp} {Q : Shared → Prop}, Inv (X.suite a ((a, oe4) :: (X.pn ++ pins))) [] σ6 H6 s6 → (∀ s7, Inv X pins (σ6.set i none) H6 s7 → Q s7) →
          wpAny (model X.prog X.w) X.A (do bindName X.env n .none; unbindBehindTheSuite X.env n pos') (fun _ s7 => Q s7) X.xe s6 := fun {σ6 H6 Q} S6 hq => gone_ok (S6.unsuite ok) hN hi hln hq
      cases f with
      | next =>
        obtain ⟨σ6, H6, S6, q6⟩ := hsp
        exact end_ S6 fun s7 J7 => ⟨_, _, J7, q6⟩
      | brk =>
        obtain ⟨σ6, H6, S6, q6⟩ := hsp
        exact end_ S6 fun s7 J7 => ⟨_, _, J7, q6⟩
      | cont =>
        obtain ⟨σ6, H6, S6, q6⟩ := hsp
        exact end_ S6 fun s7 J7 => ⟨_, _, J7, q6⟩
      | ret u =>
        obtain ⟨v6, σ6, H6, S6, r6, q6⟩ := hsp
        exact end_ S6 fun s7 J7 => ⟨_, _, _, J7, r6, q6⟩
    | false =>
      show wpAny _ X.A (handleBy (.ref a) X.env []) _ _ _
      refine wpAny_handleBy_nil ?_
      obtain ⟨k1, k2, k3, oe, vs, T, oT, ts', he, hz, hd, h1, hr⟩ := id fl3
      unfold PySem.passOn
      refine wpAny_bind (wpAny_field he hd h1 ?_)
      rw [if_neg (show ¬ ((Value.ref T == Value.none) = true) from by simp)]
      have fin : wpAny (model X.prog X.w) X.A (setFlight (.ref a) X.env.frame) (fun _ s4 => wpAny (model X.prog X.w) X.A (throw (.ref a) : Sem Flow) (SP X pins D) X.xe s4) X.xe { s' with heap := h3 } := by
        rw [hf]
        refine HandSPX.setFlight_upZ fl3 fun h4 hh4 up4 => wpAny_throw (tk _ _ ?_)
        exact ⟨a, B, sI, pins, σ', H', cls, d, rfl, J, nb, (up.trans up3).trans up4, .inr (.inr (by rw [hs]; exact hh4)), na, os, ag, hno rfl⟩
      first
        | exact wpAny_bind (wpAny_pure (wpAny_bind fin))
        | exact wpAny_bind fin
  · cases f with
    | next =>
      obtain ⟨σ', H', J', q⟩ := hsp
      exact wpAny_execs_nil ⟨σ', H', J'.ofTry ok, q⟩
    | brk =>
      obtain ⟨σ', H', J', q⟩ := hsp
      exact ⟨σ', H', J'.ofTry ok, q⟩
    | cont =>
      obtain ⟨σ', H', J', q⟩ := hsp
      exact ⟨σ', H', J'.ofTry ok, q⟩
    | ret u =>
      obtain ⟨v, σ', H', J', r, q⟩ := hsp
      exact ⟨v, σ', H', J'.ofTry ok, r, q⟩
end
section
variable {X : Cx} {C : Addr} {T : Tx} {V : Vo} {env : List En} {body suite : List Stmt} {b₀ : Stmt} {x n : Str} {np pos' pos : Pos} {i k : Nat} {N : List En → Prop} {Rt : D → Prop} {Wout : WX} {Et EtB : Err → Prop}
/-- every error of the body is one of the class that the clause names -/
theorem jst_tryB {N' : List En → Prop} (hs : X.stack = X.env :: X.outer) (hf : X.env.frame = some X.env.locals) (tk : L2N.Takes X Wout)
    (hb : ∀ (W : WX) (pn : List (Addr × Obj)) (xe : Value → Shared → Prop), L2N.Takes (X.tr pn xe) W → JY (X.tr pn xe) C T V env body N Rt W EtB)
    (hN : X.N.Nodup) (hi : X.N[i]? = some n) (hln : X.env.kindOf n = some .local) (hc : Names X x (.ref (T.cl k))) (ht : ∀ er, EtB er → Exm X.K T er.k k true) (hn : ∀ env', N' env' → N (env'.set i .un))
    (hsu : ∀ (a : Addr) (oe : Obj) (cls : Value) (dd : Option Addr) (pn : List (Addr × Obj)) (er : Err), X.base.get? a = none → L2N.Zn cls dd oe → (∃ vs, oe.data = .fields vs) → EtB er → cls = .ref (T.cl er.k) → JS (X.suite a ((a, oe) :: pn)) C T (V.err X.K C T er dd) (env.set i (.d (.raw (.ref a)))) (b₀ :: suite) N' Rt (fun _ _ _ _ => False) (fun _ => False)) :
    JSt X C T V env (.Try body [.ExceptHandler (some (.Name x np)) (some n) (b₀ :: suite) pos'] [] [] pos) N Rt Wout Et :=
  (ps_tryB (tb := fun W => tY X.K C T V env N Rt W EtB) (ts := fun a => tNs X.K C T V (env.set i (.d (.raw (.ref a)))) N' Rt EtB a) hs hf tk (fun W pn xe tk' _ => hb W pn xe tk') hN hi hln hc (fun a oe cls dd pn bn hz hf' => pss_err fun er e1 hc => hsu a oe cls dd pn er bn hz hf' e1 hc)).weak fun D σ H ⟨S, o, k1, k2, k3⟩ => ⟨S, o, k1, k2, fun er cls dd S' H' hE g j rx => by
    exact wG_of (T := T) (c := ⟨k, some i, fun a => tNs X.K C T V (env.set i (.d (.raw (.ref a)))) N' Rt EtB a⟩) (pre := []) (post := []) rx.1 (fun c' h => by cases h) (ht er hE) fun a ha => sui_named (N := N) hE hn D σ S' H' cls dd a (o.gr g j) rx ha (fun env' σ' S2 H2 n2 g2 => k1 env' σ' S2 H2 n2 (g.trans g2)) fun d v S2 H2 p2 g2 => k2 d v S2 H2 p2 (g.trans g2)⟩
end
/-! ### errors whose context is None -/
section
variable {X : Cx} {C : Addr} {T : Tx} {V : Vo} {env : List En} {N : List En → Prop} {Rt : D → Prop} {W : WX} {Et : Err → Prop} {n f f1 f2 x : Str} {k j : Nat} {p pos pos2 : Pos} {e e2 : Expr} {es : List Expr} {d d2 : D}
theorem pmkN_own0 {B newId initId : String} {bmB : List Value} {Ce : Addr} (F : ExcBaseFacts B newId initId bmB) (q : PySem.W.excIn X.K Ce bmB newId = true) (gC : X.mg n = some (.ref Ce)) (kC : PySem.W.keepIn X.K (.ref Ce) = true) (r : Raises X (.ref Ce)) (hg : Gl X n)
    (hdb : (n == ("__debug__" : Str)) = false := by decide) : L2N.PMk X (.Call (.Name n p) [] [] pos) (fun _ H Q => Q (.ref Ce) none H) := by
  intro pins s σ H Q I h
  refine wpAny_Call_Name_kw (ld_glob I hg gC ?_ hdb)
  refine PySem.W.callWith_K0 I.kIn kC ?_
  show wpAny _ _ (call (.ref Ce) []) _ _ _
  obtain ⟨bm, N, nm, qn, bs, hdct, sn, sub, ab, col, dd, k0, k1, k2, k3, k5, mN, hC, hN, hni, T⟩ := exc_obj I.kIn q
  refine wpAny_call_exc_subT F T hC hN hni (fun h' e hm => ?_) (Nat.zero_le _)
  exact L2N.mk_of I hm r h (I.hok.gone hm.new)
theorem jst_raiseN {er : Err} {tm : L2.St → Hp → XK → Prop} (hc : X.calm = true) (tk : L2N.Takes X W) (he : L2N.PMk X e tm) (hm : ∀ σ S H Q, Ok X.K C V S H σ env → (∀ cls dd S' H', Gr V.M S H S' H' → V.J S' H' → RX X.K C T S' H' er cls dd → Q cls dd H') → tm σ H Q) (hE : Et er) :
    JSt X C T V env (.Raise (some e) none pos) N Rt W Et := (L2N.ps_raise hc tk he).weak fun D σ H ⟨S, o, _, _, k3⟩ => hm σ S H _ o fun cls dd S' H' g j rx => k3 er cls dd σ S' H' hE g j rx
theorem jst_raiseN0 (hc : X.calm = true) (tk : L2N.Takes X W) (E : Ec X.K X.mg T k n) (hE : Et ⟨k, []⟩) (hg : Gl X n := by rfl) (hdb : (n == ("__debug__" : Str)) = false := by decide) : JSt X C T V env (.Raise (some (.Call (.Name n p) [] [] pos)) none pos2) N Rt W Et :=
  jst_raiseN (er := ⟨k, []⟩) hc tk (pmkN_own0 PySem.F.excBase_ValueError E.x E.g E.kp (raises_own E.ex E.ty) hg hdb) (fun σ S H Q o q => q _ _ S H (.refl o.sub) o.j ⟨rfl, .inl ⟨rfl, rfl⟩⟩) hE
theorem pmkN_oex {CX : CXT} {Cc fI : Addr} {fd : FuncData} {ps : List Str} {sp : Sp} {ds : List Value} {dvs : List L2.V} {ta : TA} (T : OexC X.K Cc) (iC : PySem.W.findIn X.K (.ref Cc) "__init__" = some (some (.ref fI))) (tI : PySem.W.typeIn X.K (.ref fI) = some (.type "function"))
    (F1 : FnOk X.prog X.w X.K X.mg X.base CX k fI fd ps sp) (hr : Room (k + 1) X.A) (hb : L2.Binds X.K fd ps ds) (hd : Vals dvs ds) (hx : Passes CX X (fun _ _ _ => False)) (hg : Gl X x) (hm : X.mg x = some (.ref Cc)) (ha : PA X (e :: es) ta)
    (hdb : (x == ("__debug__" : Str)) = false := by decide) (he : starEach (e :: es) X.env = (false, eval e X.env) :: starEach es X.env := by rfl) (hpl : (backTo pos (starEach es X.env)).any (·.1) = false := by rfl) :
    L2N.PMk X (.Call (.Name x p) (e :: es) [] pos) (tMkO Cc sp dvs ta) := by
  intro pins s σ H Q I h
  obtain ⟨nm, q, N, bs, bm, sn, sub, ab, col, dd, k0, k1, k2, k3, k5, hC, hbm⟩ := T.cls
  refine wpAny_Call_Name_kw (ld_glob I hg hm ?_ hdb)
  refine PySem.W.callWith_K (h₀ := X.base) I.ok.mod.kin T.kC (thn (ha.run pos pins s σ H _ I h) fun us s1 ⟨vs, H1, I1, r1, hz, q1⟩ => ⟨I1.kIn, ?_⟩) he hpl
  show wpAny _ _ (call (.ref Cc) us) _ _ _
  obtain ⟨hp, g, dr, tk, os⟩ := s1
  have hsz : hp.objs.size ≤ hp.objs.size + 1 := Nat.le_succ _
  have hn : H1 (hp.objs.size + 1) = none := I1.hok.fresh hsz
  have hq := q1 (hp.objs.size + 1) hn
  have kk : ∀ b o, hp.get? b = some o → ((hp.push (PySem.W.kdv_tup us)).push (PySem.HandSPX.excO Cc hp.objs.size)).get? b = some o := fun b o e => Heap.get?_push_of_some _ (Heap.get?_push_of_some _ e)
  have hget : ((hp.push (PySem.W.kdv_tup us)).push (PySem.HandSPX.excO Cc hp.objs.size)).get? (hp.objs.size + 1) = some (PySem.HandSPX.excO Cc hp.objs.size) := by heap_get
  have I2 : Inv X pins σ (upd H1 (hp.objs.size + 1) (exo (hp.objs.size + 1) Cc none)) ⟨(hp.push (PySem.W.kdv_tup us)).push (PySem.HandSPX.excO Cc hp.objs.size), g, dr, tk, os⟩ :=
    I1.laid (t' := tk) (a := hp.objs.size + 1) (o := exo (hp.objs.size + 1) Cc none) (h' := (hp.push (PySem.W.kdv_tup us)).push (PySem.HandSPX.excO Cc hp.objs.size)) kk hsz (exo_ok hget)
  have r2 : Vals (L2.V.ref (hp.objs.size + 1) :: (vs ++ dvs)) (Value.ref (hp.objs.size + 1) :: (us ++ ds)) := .cons rfl (r1.append hd)
  have hl : (Value.ref (hp.objs.size + 1) :: us ++ ds).length = ps.length := by
    have e := r2.length
    rw [F1.len _ _ _ _ hq] at e
    exact e.symm
  have hus : us.length ≤ sizeLine := by
    rw [← Paired.length r1, sizeLine_eq]
    omega
  refine wpAny_call (PySem.HandSPX.call_own F.excBase_ValueError (fun Y => PySem.HandSPX.refsVE_contains Y bm hbm) (I1.kIn _ _ hC) (PySem.W.looks_findIn I1.kIn iC) (fun self => PySem.W.bind_fn I1.kIn self tI) hus
    (codeAny_mono (F1.run _ X.stack _ _ ⟨Value.ref (hp.objs.size + 1) :: us, []⟩ (Value.ref (hp.objs.size + 1) :: (us ++ ds)) _ _ (fun _ _ _ => False) (hr.make Cc us []) (I2.env0.make Cc us []) (hb _ (Value.ref (hp.objs.size + 1) :: us) I2.kIn hl) r2 hq) fun r s' hq' => ?_))
  cases r with
  | error er => exact hx pins σ _ _ er s' I2 hq'
  | ok fl =>
    cases fl with
    | ret u =>
      obtain ⟨v, H2, os2, bare2, un2, hok2, rv, ev, d, fs, ea, ed, hd1, q2⟩ := hq'
      subst ev
      obtain ⟨h2, g2, d2, t2, os'⟩ := s'
      obtain ⟨t0, G, J, kG, ge, hoe, na⟩ := mk_end0 (d2 := d2) (t2 := t2) I1 hsz kk un2 hok2 os2 bare2 ea ed hd1
      exact ⟨rv, hp.objs.size + 1, _, _, ⟨G, g2, d2, t2, os'⟩, _, .ref Cc, some d, rfl, J, kG, ge, hoe, ⟨rfl, rfl, fun vs hv => by cases hv; rfl⟩, rfl, rfl, na, rfl, bare2, raises_own T.exC T.tyC, q2⟩
    | next => exact False.elim hq'
    | brk => exact False.elim hq'
    | cont => exact False.elim hq'
end
end RQ

/-! Rqi: raising errors whose context stays None, defs that do; a comprehension over range within a suite. -/
namespace RQ
open PySem PySem.Spec PyProof.Rows L2

section
variable {X : Cx} {C : Addr} {T : Tx} {V : Vo} {env : List En} {N : List En → Prop} {Rt : D → Prop} {W : WX} {Et : Err → Prop} {n f f1 f2 : Str} {k j : Nat} {p pos pos2 : Pos} {e e2 : Expr} {d d2 : D}
theorem jst_raiseN1 (hc : X.calm = true) (tk : L2N.Takes X W) (hr : Room j X.A) (hj : 2 ≤ j) (E : Ef X.prog X.w X.K X.mg X.base T k n ["self", f] (spE1 (T.cl k) f)) (hfn : T.fn k = [f]) (ha : JE X C V env e (· = d)) (hE : Et ⟨k, [d]⟩) (hg : Gl X n := by rfl)
    (hdb : (n == ("__debug__" : Str)) = false := by decide) (he : starEach [e] X.env = (false, eval e X.env) :: starEach [] X.env := by rfl) (hpl : (backTo pos (starEach [] X.env)).any (·.1) = false := by rfl) :
    JSt X C T V env (.Raise (some (.Call (.Name n p) [e] [] pos)) none pos2) N Rt W Et := by
  obtain ⟨fI, fd, h1, h2, h3, h4⟩ := E.ex
  refine jst_raiseN (er := ⟨k, [d]⟩) hc tk (pmkN_oex (CX := L2.CX X.prog X.w) E.o h1 h2 h4 (hr.mono hj) h3 .nil passL hg E.g (ja_cons ha ja_nil he) hdb he hpl) (fun σ S H Q o q => ⟨S, o, fun ds vs S1 H1 p1 g1 j1 r1 => ?_⟩) hE
  subst p1
  obtain ⟨v, e1, rv⟩ := RL.one r1
  subst e1
  refine ⟨by show 1 ≤ 1000; decide, fun a hn => ⟨a, v, rfl, upd_same, fun dx hd hda => ⟨rfl, dx, [(f, v)], upd_same, ?_, ?_, ?_⟩⟩⟩
  · rw [upd_ne hda, upd_same]
  · rw [upd_ne hda] at hd
    exact hd
  · have hd1 : H1 dx = none := by
      rw [upd_ne hda] at hd
      exact hd
    have key : ∀ b u, H1 b = some u → upd (L2.del (upd (upd (upd H1 a (exo a (T.cl k) none)) dx (exd dx [(f, v)])) a (exo a (T.cl k) (some dx))) a) dx (.xd [(f, v)]) b = some u := fun b u q => by
      have nb := ne_of_none q hn
      rw [upd_ne (ne_of_none q hd1), L2.del_ne nb, upd_ne nb, upd_ne (ne_of_none q hd1), upd_ne nb]
      exact q
    have g2 : Gr M0 S1 H1 S1 (upd (L2.del (upd (upd (upd H1 a (exo a (T.cl k) none)) dx (exd dx [(f, v)])) a (exo a (T.cl k) (some dx))) a) dx (.xd [(f, v)])) := ⟨.refl _, fun b u q => key b u (g1.sub b u q), fun b u _ q => key b u q, fun b u q => ⟨u, key b u q⟩, fun _ _ _ z => z⟩
    have sdx : S1 dx = none := by
      cases z : S1 dx with
      | none => rfl
      | some u => rw [g1.sub dx u z] at hd1; cases hd1
    have g3 := g2.rel sdx hd1 upd_same
    refine q _ _ _ _ (g1.trans g3.up0) (V.gr0 g3 j1) ⟨rfl, .inr ⟨dx, [(f, v)], [v], rfl, upd_same, r1.mono g3.s, fun i f' v' q1 q2 => ?_⟩⟩
    rw [hfn] at q1
    match i, q1, q2 with
    | 0, q1, q2 =>
      have e1 : f = f' := Option.some.inj q1
      have e2 : v = v' := Option.some.inj q2
      subst e1 e2
      simp [List.lookup]
    | i + 1, q1, q2 => simp at q1
theorem jst_raiseN2 (hc : X.calm = true) (tk : L2N.Takes X W) (hr : Room j X.A) (hj : 2 ≤ j) (E : Ef X.prog X.w X.K X.mg X.base T k n ["self", f1, f2] (spE2 (T.cl k) f1 f2)) (hfn : T.fn k = [f1, f2]) (hff : f1 ≠ f2) (ha : JE X C V env e (· = d)) (hb : JE X C V env e2 (· = d2)) (hE : Et ⟨k, [d, d2]⟩) (hg : Gl X n := by rfl)
    (hdb : (n == ("__debug__" : Str)) = false := by decide) (he : starEach [e, e2] X.env = (false, eval e X.env) :: starEach [e2] X.env := by rfl) (he2 : starEach [e2] X.env = (false, eval e2 X.env) :: starEach [] X.env := by rfl) (hpl : (backTo pos (starEach [e2] X.env)).any (·.1) = false := by rfl) :
    JSt X C T V env (.Raise (some (.Call (.Name n p) [e, e2] [] pos)) none pos2) N Rt W Et := by
  obtain ⟨fI, fd, h1, h2, h3, h4⟩ := E.ex
  refine jst_raiseN (er := ⟨k, [d, d2]⟩) hc tk (pmkN_oex (CX := L2.CX X.prog X.w) E.o h1 h2 h4 (hr.mono hj) h3 .nil passL hg E.g (ja_cons ha (ja_cons hb ja_nil he2) he) hdb he hpl) (fun σ S H Q o q => ⟨S, o, fun ds vs S1 H1 p1 g1 j1 r1 => ?_⟩) hE
  subst p1
  obtain ⟨v, v2, e1, rv, rv2⟩ := RL.two r1
  subst e1
  refine ⟨by show 2 ≤ 1000; decide, fun a hn => ⟨a, v, v2, rfl, upd_same, fun dx hd hda => ⟨rfl, dx, [(f2, v2), (f1, v)], ?_, upd_same, ?_, ?_⟩⟩⟩
  · rw [upd_ne (Ne.symm hda), upd_same]
  · rw [upd_ne hda] at hd
    exact hd
  · have hd1 : H1 dx = none := by
      rw [upd_ne hda] at hd
      exact hd
    have key : ∀ b u, H1 b = some u → upd (L2.del (upd (upd (upd (upd H1 a (exo a (T.cl k) none)) dx (exd dx [(f1, v)])) a (exo a (T.cl k) (some dx))) dx (exd dx [(f2, v2), (f1, v)])) a) dx (.xd [(f2, v2), (f1, v)]) b = some u := fun b u q => by
      have nb := ne_of_none q hn
      have nd := ne_of_none q hd1
      rw [upd_ne nd, L2.del_ne nb, upd_ne nd, upd_ne nb, upd_ne nd, upd_ne nb]
      exact q
    have g2 : Gr M0 S1 H1 S1 (upd (L2.del (upd (upd (upd (upd H1 a (exo a (T.cl k) none)) dx (exd dx [(f1, v)])) a (exo a (T.cl k) (some dx))) dx (exd dx [(f2, v2), (f1, v)])) a) dx (.xd [(f2, v2), (f1, v)])) := ⟨.refl _, fun b u q => key b u (g1.sub b u q), fun b u _ q => key b u q, fun b u q => ⟨u, key b u q⟩, fun _ _ _ z => z⟩
    have sdx : S1 dx = none := by
      cases z : S1 dx with
      | none => rfl
      | some u => rw [g1.sub dx u z] at hd1; cases hd1
    have g3 := g2.rel sdx hd1 upd_same
    refine q _ _ _ _ (g1.trans g3.up0) (V.gr0 g3 j1) ⟨rfl, .inr ⟨dx, _, [v, v2], rfl, upd_same, r1.mono g3.s, fun i f' v' q1 q2 => ?_⟩⟩
    rw [hfn] at q1
    match i, q1, q2 with
    | 0, q1, q2 =>
      have e1 : f1 = f' := Option.some.inj q1
      have e2 : v = v' := Option.some.inj q2
      subst e1 e2
      have hne : (f1 == f2) = false := by simpa using hff
      simp [List.lookup, hne]
    | 1, q1, q2 =>
      have e1 : f2 = f' := Option.some.inj q1
      have e2 : v2 = v' := Option.some.inj q2
      subst e1 e2
      simp [List.lookup]
    | i + 2, q1, q2 => simp at q1
end
/-! ### defs that let such errors out -/
structure FnN (P : Program) (w : World) (K : PySem.W.Frag) (mg : Str → Option Value) (base : Heap) (C : Addr) (T : Tx) (x : Str) (k : Nat) (ps : List Str) (Pm : List D → Except Err D → Prop) : Prop where
  ex : ∃ (f : Addr) (fd : FuncData), mg x = some (.ref f) ∧ PySem.W.keepIn K (.ref f) = true ∧ L2.Binds K fd ps [] ∧ FnOk P w K mg base (L2N.CX P w) k f fd ps (spG K C T (pur Pm))
abbrev bodyN (P : Program) (w : World) (K : PySem.W.Frag) (mg : Str → Option Value) (base : Heap) (N : List Str) (qual : Str) (st : Stmt) (f : Addr) (cdv : Value) (A : Around) (outer : List Env) (s : Shared) (H : Hp) (E : XK) : Cx := cxOf (L2N.CX P w) P w K mg base N qual (defScope st) f cdv A outer s H E
section
variable {P : Program} {w : World} {K : PySem.W.Frag} {mg : Str → Option Value} {base : Heap} {C : Addr} {T : Tx}
theorem Df.fnN {x : Str} {st : Stmt} {N ps : List Str} {k : Nat} {Pm : List D → Except Err D → Prop} (d : Df K mg x st ps) (Sc : FnScope N ps (defScope st)) (hl : ∀ ds r, Pm ds r → ds.length = ps.length)
    (hb : ∀ (f : Addr) (cdv : Value) (A : Around) (outer : List Env) (s : Shared) (H : Hp) (E : XK) (ds : List D) (r : Except Err D), Room k (A.deeper (envOfC x (defScope st) s.heap.objs.size f cdv)) → L2N.Takes (bodyN P w K mg base N x st f cdv A outer s H E) (fun cls d _ H' => E cls d H') → Pm ds r →
      JS (bodyN P w K mg base N x st f cdv A outer s H E) C T V0 (envS N ds) (defBody st) (fun _ => .ok .non = r) (fun d => .ok d = r) (fun cls d _ H' => E cls d H') (fun er => .error er = r)) : FnN P w K mg base C T x (k + 1) ps Pm := by
  obtain ⟨f, fd, h1, F, h2⟩ := d.ex
  obtain ⟨oc, od, kV, doc, pm, an, cdv, ct, osl, rfl, lk, hcd⟩ := F.ex
  refine ⟨f, _, h1, F.kp, h2, fn_of lk hcd Sc (fun vs H Q E ⟨S, ds, V, Ψ, _, _, h3, ⟨_, r, h4, _⟩, _⟩ => by rw [h3.length]; exact hl ds r h4) (fun A outer s H vs Q E hr ⟨S, ds, V, Ψ, h1, h2, h3, ⟨e1, r, h4, e2⟩, h5, h6⟩ => ?_)⟩
  subst e1 e2
  refine ⟨_, hb f cdv A outer s H E ds r hr (L2N.takes_of rfl rfl rfl rfl) h4, S, ⟨h1, h2, ?_⟩, fun env' σ' S' H' n g j rr => h5 .non .non S' H' n g j (R.non_iff.mpr rfl), fun d v S' H' n g j rr => h5 d v S' H' n g j rr, fun er cls dd σ' S' H' n g j rx => h6 er cls dd S' H' n g j rx⟩
  have := RS.start (N.length - vs.length) h3
  rw [h3.length] at this
  unfold L2.start
  rw [h3.length]
  exact this
end
section
variable {X : Cx} {C : Addr} {T : Tx} {V : Vo} {env : List En} {e : Expr} {es : List Expr} {x : Str} {j k : Nat} {ps : List Str} {xs : List D} {pos p : Pos}
theorem px_calN {Pm : List D → Except Err D → Prop} {W : WX} {r : Except Err D} (F : FnN X.prog X.w X.K X.mg X.base C T x k ps Pm) (hr : Room j X.A) (hk : k ≤ j) (tk : L2N.Takes X W) (ha : JA X C V env (e :: es) (· = xs)) (hd : Pm xs r) (hg : Gl X x := by rfl)
    (hdb : (x == ("__debug__" : Str)) = false := by decide) (he : starEach (e :: es) X.env = (false, eval e X.env) :: starEach es X.env := by rfl) (hpl : (backTo pos (starEach es X.env)).any (·.1) = false := by rfl) : PE X (.Call (.Name x p) (e :: es) [] pos) (tJX X.K C T V env W r) := by
  obtain ⟨f, fd, h1, h2, h3, h4⟩ := F.ex
  exact (pe_callS h4 (hr.mono hk) hg h1 h2 h3 (fun σ => L2N.passAt tk σ) ha hdb he hpl).weak fun σ H Q ⟨S, o, q1, q2⟩ => ⟨S, o, fun ds vs S1 H1 p1 g1 j1 r1 => by
    subst p1
    exact ⟨S1, _, V0, (· = r), g1.sub, True.intro, r1, ⟨rfl, r, hd, rfl⟩, fun d v S2 H2 p2 g2 j2 r2 => q1 d v S2 H2 p2.symm (g1.trans g2.up0) (V.gr0 g2 j1) r2, fun er cls dd S2 H2 p2 g2 j2 r2 => q2 er cls dd S2 H2 p2.symm (g1.trans g2.up0) (V.gr0 g2 j1) r2⟩⟩
end
/-! ### for over range while an error is handled (after the library's own of the kind) -/
structure TurnK (P : Program) (w : World) (K : PySem.W.Frag) (tg : Expr) (J : It) (fp : List Addr) (it : Addr) (tn : Nat → Heap → Prop) : Prop where
  mem : it ∈ fp
  obj : ∀ i h, tn i h → ∀ b ∈ fp, ∃ o, h.get? b = some o ∧ ∀ v, o.data ≠ .cell v
  keep : ∀ i h h', tn i h → (∀ b ∈ fp, ∀ o, h.get? b = some o → h'.get? b = some o) → tn i h'
  item : ∀ (X : Cx), X.prog = P → X.w = w → X.K = K → ∀ (i : Nat) (pins : List (Addr × Obj)) (s : Shared) (σ : L2.St) (H : Hp) (E : Value → Shared → Prop), Inv X pins σ H s → (∀ b ∈ fp, FpOk X pins H b) → tn i s.heap → J.go i H →
    wpAny (model P w) X.A (pyNext (.ref it)) (fun r s1 => ∃ u, r = some u ∧
      wpAny (model P w) X.A (letOwnedTupleGo tg (.ref it) u) (fun _ s2 => ∃ x H', Inv X pins σ H' s2 ∧ RelV x u ∧ J.yld i H x H' ∧ tn (i + 1) s2.heap ∧ ∀ b ∈ fp, H' b = none) E s1) E s
  done : ∀ (X : Cx), X.prog = P → X.w = w → X.K = K → ∀ (i : Nat) (pins : List (Addr × Obj)) (s : Shared) (σ : L2.St) (H : Hp) (E : Value → Shared → Prop), Inv X pins σ H s → (∀ b ∈ fp, FpOk X pins H b) → tn i s.heap → J.stop i H → ∀ {x1 : Addr}, HotX.HotAt X.A x1 s.heap →
    wpAny (model P w) X.A (pyNext (.ref it)) (fun r s1 => r = none ∧ Inv X pins σ H s1) E s
  self : ∀ (A : Around) (i : Nat) (s : Shared) (Q : Value → Shared → Prop) (E : Value → Shared → Prop), tn i s.heap → Q (.ref it) s → wpAny (model P w) A (pyIter (.ref it)) Q E s
theorem turn_rangeK {P : Program} {w : World} {K : PySem.W.Frag} {tg : Expr} (it : Addr) (lo : Int) (n : Nat) : TurnK P w K tg (Itr lo n) [it] it (fun i h => IsRangeIter h it (lo + (i : Nat) * 1) ((n : Int) - (i : Nat)) 1) where
  mem := by simp
  obj := fun i h st b hb => by
    have e : b = it := by simpa using hb
    subst e
    exact ⟨_, st, fun v z => by
      have z' : Data.fields _ = Data.cell v := z
      cases z'⟩
  keep := fun i h h' st k => k it (by simp) _ st
  item := by
    intro X hP hw hK i pins s σ H E I hf st hg
    subst hP hw hK
    obtain ⟨f0, f1, f2, f3, f4, f5⟩ := hf it (by simp)
    have hlt : i < n := hg
    refine wpAny_pyNext_range_item st (by omega) fun h' st' sb => ?_
    have st2 : IsRangeIter h' it (lo + ((i + 1 : Nat) : Int) * 1) ((n : Int) - ((i + 1 : Nat) : Int)) 1 := by
      have e1 : lo + ((i : Nat) : Int) * 1 + 1 = lo + ((i + 1 : Nat) : Int) * 1 := by omega
      have e2 : (n : Int) - ((i : Nat) : Int) - 1 = (n : Int) - ((i + 1 : Nat) : Int) := by omega
      rw [← e1, ← e2]
      exact st'
    have I1 : Inv X pins σ H { s with heap := h', toks := s.toks + 1 } := I.turned (fun b o hb e => (sb.2 b hb).trans e) f0 f1 f3 f4 f5
    refine ⟨_, rfl, go_of (s := { s with heap := h', toks := s.toks + 1 }) (n := "range_iterator") st2 rfl rfl (by decide) ⟨.int (lo + i), H, I1, ⟨s.toks, ?_⟩, ⟨rfl, rfl⟩, st2, fun b hb => (hf b hb).1⟩⟩
    rw [Int.mul_one]
  done := by
    intro X hP hw hK i pins s σ H E I hf st hg x1 hot
    subst hP hw hK
    obtain ⟨f0, f1, f2, f3, f4, f5⟩ := hf it (by simp)
    exact HotX.pyNext_range_end_hot hot st (by have : n ≤ i := hg; omega) fun h' eb => ⟨rfl, I.turned (t' := s.toks) (fun b o _ e => eb b o e) f0 f1 f3 f4 f5⟩
  self := fun _ _ _ _ _ st h => wpAny_pyIter_rangeiter st h
def PIEK (X : Cx) (pins : List (Addr × Obj)) (σ : L2.St) (tg : Expr) (R : It → Hp → Prop) (itv : Value) (s2 : Shared) : Prop :=
  ∃ (it : Addr) (fp : List Addr) (tn : Nat → Heap → Prop) (J : It) (H' : Hp), itv = .ref it ∧ Inv X pins σ H' s2 ∧ TurnK X.prog X.w X.K tg J fp it tn ∧ tn 0 s2.heap ∧ (∀ b ∈ fp, FpOk X pins H' b) ∧ R J H'
structure PIK (X : Cx) (tg iter : Expr) (wi : TI) : Prop where
  run : ∀ (pins : List (Addr × Obj)) (s : Shared) (σ : L2.St) (H : Hp) (R : It → Hp → Prop), Inv X pins σ H s → wi σ H R →
    wpAny (model X.prog X.w) X.A (eval iter X.env) (fun v s1 => wpAny (model X.prog X.w) X.A (pyIter v) (PIEK X pins σ tg R) X.xe s1) X.xe s
section
variable {X : Cx} {tg : Expr}
theorem range_itK {pins : List (Addr × Obj)} {σ : L2.St} {H : Hp} {s : Shared} {R : It → Hp → Prop} {E : Value → Shared → Prop} {lo hi : Int} {t u v : Tok} {tk : Nat} (I : Inv X pins σ H s) (h1 : -(2 ^ 62) ≤ lo) (h2 : lo < 2 ^ 62) (h3 : -(2 ^ 62) ≤ hi) (h4 : hi < 2 ^ 62)
    (q : R (Itr lo (hi - lo).toNat) H) : wpAny (model X.prog X.w) X.A (pyIter (.ref s.heap.objs.size)) (PIEK X pins σ tg R) E { s with heap := s.heap.push { cls := .type "range", data := .fields #[.int lo t, .int hi u, .int 1 v] }, toks := tk } := by
  refine wpAny_pyIter_range (IsRange.new ..) (small_one h1 h2 h3 h4) ?_
  have I1 : Inv X pins σ H { s with heap := s.heap.push { cls := .type "range", data := .fields #[.int lo t, .int hi u, .int 1 v] }, toks := tk } := I.kept fun b o e => Heap.get?_push_of_some _ e
  refine ⟨(s.heap.push { cls := .type "range", data := .fields #[.int lo t, .int hi u, .int 1 v] }).objs.size, [(s.heap.push { cls := .type "range", data := .fields #[.int lo t, .int hi u, .int 1 v] }).objs.size], _, _, H, rfl,
    I1.kept (t' := tk) fun b o e => Heap.get?_push_of_some _ e, turn_rangeK _ lo (hi - lo).toNat, ?_, fun b hb => ?_, q⟩
  · have e1 : lo + ((0 : Nat) : Int) * 1 = lo := by simp
    have e2 : (((hi - lo).toNat : Nat) : Int) - ((0 : Nat) : Int) = Builtin.Range.rangeSize lo hi 1 := by rw [rangeSize_one]; split <;> omega
    show IsRangeIter _ _ (lo + ((0 : Nat) : Int) * 1) ((((hi - lo).toNat : Nat) : Int) - ((0 : Nat) : Int)) 1
    rw [e1, e2]
    exact Heap.get?_push_size _ rfl
  · have e : b = (s.heap.push { cls := .type "range", data := .fields #[.int lo t, .int hi u, .int 1 v] }).objs.size := by simpa using hb
    subst e
    exact I1.fpOk (Nat.le_refl _) (I1.hok.fresh (Nat.le_refl _))
theorem pik_range1 {a : Expr} {ta : TA} {p pos : Pos} (hg : Gl X "range") (hm : X.mg "range" = none) (ha : PA X [a] ta) (hs : starEach [a] X.env = [(false, eval a X.env)] := by rfl) : PIK X tg (.Call (.Name "range" p) [a] [] pos) (iRng1 ta) := by
  refine ⟨fun pins s σ H R I h => ?_⟩
  refine Call_ (ld_blt I hg hm boot_range (PyProof.Rows.callWith_type1 (thn (ha.run pos pins s σ H _ I h) fun us s1 ⟨vs, H1, I1, r1, q1⟩ => ?_) hs rfl))
  obtain ⟨j, e, q1, q2, q⟩ := q1
  subst e
  cases r1 with
  | cons r rr =>
    cases rr
    obtain ⟨t, rfl⟩ := r
    exact call_range_1 (range_itK I1 (by omega) (by omega) q1 q2 (by simpa using q))
end
theorem PIK.weak {X : Cx} {tg iter : Expr} {wi wi' : TI} (h : PIK X tg iter wi) (k : ∀ σ H R, wi' σ H R → wi σ H R) : PIK X tg iter wi' := ⟨fun pins s σ H R I q => h.run pins s σ H R I (k σ H R q)⟩
abbrev JIK (X : Cx) (C : Addr) (V : Vo) (env : List En) (tg iter : Expr) (Φ : List D → Prop) : Prop := PIK X tg iter (iJ X.K C V env Φ)
/-- the error that the suite holds: its context is None -/
def HotP (X : Cx) (a : Addr) (oe : Obj) : Prop := (a, oe) ∈ X.pn ∧ X.A.handled = some (.ref a) ∧ ∃ vs : Array Value, oe.data = .fields vs ∧ vs[2]? = some .none
section
variable {X : Cx} {C : Addr} {V : Vo} {env : List En} {tg a : Expr} {pos p : Pos}
theorem jik_range1 {n : Int} (h : JE X C V env a (· = .int n)) (hn : -(2 ^ 62) ≤ n ∧ n < 2 ^ 62) (hg : Gl X "range") (hm : X.mg "range" = none) (hs : starEach [a] X.env = [(false, eval a X.env)] := by rfl) :
    JIK X C V env tg (.Call (.Name "range" p) [a] [] pos) (· = rngD 0 n.toNat) := (pik_range1 hg hm (ja_cons h ja_nil (by rw [hs]; rfl)) hs).weak fun σ H Rr ⟨S, o, k⟩ => ⟨S, o, fun ds vs S' H' e g j r => by
  subst e
  obtain ⟨v, r', e4, h4, h5⟩ := RL.cons_iff.mp r
  rw [RL.nil_iff] at h5
  rw [R.int_iff] at h4
  subst h5 h4 e4
  exact ⟨n, rfl, hn.1, hn.2, k _ _ S' H' rfl g j (wk_rng 0 n.toNat)⟩⟩
end
section
variable {X : Cx}
theorem lc_coreK {pins : List (Addr × Obj)} {s : Shared} {σ : L2.St} {H : Hp} {Q : VK} {elt tg iter : Expr} {ifs : List Expr} {scope : Scope} {own : List (Str × Nat)} {pos pos' : Pos} {wi : TI} {g : TG} {tt : TT} {te : TE} {use : Option (Value → Sem Unit)} {Qf : Value → Shared → Prop}
    {a : Addr} {oe : Obj} (hot : HotP X a oe) (hN : X.N.Nodup) (I : Inv X pins σ H s) (hi : PIK X tg iter wi) (ok : BlkOk X.N X.env.scope scope own)
    (hg : ∀ (s : Shared) (H : Hp) (C : Addr) (cl : List (Str × Addr)) (fp : List Addr), PG (X.blk s H scope (compEnvC scope cl C X.env) fp) tg g) (ht : ∀ (s : Shared) (H : Hp) (C : Addr) (cl : List (Str × Addr)) (fp : List Addr), PTs (X.blk s H scope (compEnvC scope cl C X.env) fp) ifs tt)
    (he : ∀ (s : Shared) (H : Hp) (C : Addr) (cl : List (Str × Addr)) (fp : List Addr), PE (X.blk s H scope (compEnvC scope cl C X.env) fp) elt te) (hs : ∀ x, foldedSetIterable iter X.env x = pure x)
    (h : tLc wi g tt te (own.map (·.2)) σ H Q)
    (hRR : ∀ D C s' m H', Inv X pins σ H' s' → Q (.ref D) H' → s'.heap.Ns C m → FpOk X pins H' C → compPost (model X.prog X.w) X.A X.xe use Qf (.ref D) C (.ok .next) s') :
    wpAny (model X.prog X.w) X.A (comprehension (.ListComp elt [⟨tg, iter, ifs, 0⟩] scope pos) scope X.env pos' (newList []) false (eval iter X.env) use) Qf X.xe s := by
  have hfree : ∀ y ∈ scope.names, y.2 = .free → ∃ c, X.env.cells.lookup y.1 = some c := fun y hy e => by
    rcases ok.free y hy e with k | k
    · exact I.ok.has _ (.inl k)
    · exact I.ok.has _ (.inr k)
  refine wpAny_comprehension_free (use := use) rfl hs (closure_ok hfree) ok.kind (fun y hy e => by rw [ok.uniq y hy, e])
    (thn (hi.run pins s σ H _ I h) fun xv s1 hx => thn hx fun itv s2 h2 => ?_)
  obtain ⟨it, fp, tn, J, H2, e, I2, T, st2, f2, q⟩ := h2
  subst e
  refine wpAny_newObj_type (newEnv_comp ?_) (by show 0 ≤ sizeLine; decide)
  generalize hD : s2.heap.objs.size = D
  have hDn : H2 D = none := I2.hok.fresh (Nat.le_of_eq hD)
  obtain ⟨W, ⟨m0, w0⟩, turn⟩ := q D hDn
  -- the new list
  generalize hs3 : ({ s2 with heap := s2.heap.push { cls := .type "list", data := .seq ([] : List Value).toArray } } : Shared) = s3
  have I3 : Inv X pins σ (upd H2 D (.lst [])) s3 := by
    rw [← hs3]
    refine I2.laid (t' := s2.toks) (fun b o e => Heap.get?_push_of_some _ e) (Nat.le_of_eq hD) ⟨Nat.zero_le _, [], 0, .nil, ?_⟩
    rw [← hD]
    exact Heap.get?_push_size _ rfl
  have h3 : s3.heap = s2.heap.push { cls := .type "list", data := .seq ([] : List Value).toArray } := by rw [← hs3]
  have sz : ∀ b ∈ fp, b < s2.heap.objs.size := fun b hb => by
    obtain ⟨o, e, _⟩ := T.obj _ _ st2 b hb
    exact Heap.lt_size e
  have f3 : ∀ b ∈ fp, FpOk X pins (upd H2 D (.lst [])) b ∧ b < s3.heap.objs.size := fun b hb => by
    have hlt := sz b hb
    refine ⟨⟨?_, (f2 b hb).2⟩, by rw [h3, Heap.size_push]; exact Nat.lt_succ_of_lt hlt⟩
    rw [upd_ne (by rw [← hD]; exact Nat.ne_of_lt hlt)]
    exact (f2 b hb).1
  have st3 : tn 0 s3.heap := T.keep _ _ _ st2 fun b _ o e => by rw [h3]; exact Heap.get?_push_of_some _ e
  have I4 := block_start I3 ok hN f3
  have pg := hg s3 (upd H2 D (.lst [])) s3.heap.objs.size (cellsFrom (s3.heap.objs.size + 1) scope.names (cloFrom X.env.cells scope.names [])) fp
  have pt := ht s3 (upd H2 D (.lst [])) s3.heap.objs.size (cellsFrom (s3.heap.objs.size + 1) scope.names (cloFrom X.env.cells scope.names [])) fp
  have pe := he s3 (upd H2 D (.lst [])) s3.heap.objs.size (cellsFrom (s3.heap.objs.size + 1) scope.names (cloFrom X.env.cells scope.names [])) fp
  show codeAny _ _ (.compStart (.ListComp elt [⟨tg, iter, ifs, 0⟩] scope pos) 0 (.ref it) (.ref D) (compEnvC scope (cellsFrom (s3.heap.objs.size + 1) scope.names (cloFrom X.env.cells scope.names [])) s3.heap.objs.size X.env)) (compPost (model X.prog X.w) X.A X.xe use Qf (.ref D) s3.heap.objs.size) { s3 with heap := pushCells (s3.heap.push { cls := .type "dict", data := .dict #[] }) scope.names }
  have nfp : ∀ b ∈ fp, (upd H2 D (.lst [])) b = none := fun b hb => (f3 b hb).1.1
  generalize hce : compEnvC scope (cellsFrom (s3.heap.objs.size + 1) scope.names (cloFrom X.env.cells scope.names [])) s3.heap.objs.size X.env = ce at I4 pg pt pe ⊢
  have cL : ce.locals = s3.heap.objs.size := by subst hce; rfl
  generalize hH3 : upd H2 D (.lst []) = H3 at I3 I4 pg pt pe w0 nfp f3
  generalize hs4 : ({ s3 with heap := pushCells (s3.heap.push { cls := .type "dict", data := .dict #[] }) scope.names } : Shared) = s4 at I4 ⊢
  have st4 : tn 0 s4.heap := T.keep _ _ _ st3 fun b _ o e => by rw [← hs4]; exact pushCells_keeps _ _ _ _ (Heap.get?_push_of_some _ e)
  have stat : ∀ {σ' : L2.St} {H' : Hp} {s' : Shared}, Inv (X.blk s3 H3 scope ce fp) [] σ' H' s' → (∀ b ∈ fp, H' b = none) → ∀ b ∈ fp, FpOk (X.blk s3 H3 scope ce fp) [] H' b := fun {σ' H' s'} I' hn b hb =>
    ⟨hn b hb, (I'.ok.exf b hb).1, I'.ok.exfs b hb, .inl hb, fun x c e => (I'.ok.exf b hb).2 x c e, fun p hp => absurd (show p ∈ ([] : List (Addr × Obj)) ++ [] from hp) (by simp)⟩
  have hotB : ∀ {σ' : L2.St} {H' : Hp} {s' : Shared}, Inv (X.blk s3 H3 scope ce fp) [] σ' H' s' → HotX.HotAt X.A a s'.heap := fun {σ' H' s'} I' => by
    obtain ⟨hm, hh, vs, hv, h2⟩ := hot
    obtain ⟨p1, p2, p3, p4, _⟩ := I3.pin (a, oe) (List.mem_append_left _ hm)
    exact ⟨hh, oe, vs, I'.base.keep a oe p1 p2 (fun z => (List.mem_cons.mp (I3.stkSub a z)).elim p3 p4) (fun z => (f3 a z).1.2.2.2.2.2 (a, oe) (List.mem_append_left _ hm) rfl), hv, h2⟩
  have loop : codeAny (model X.prog X.w) X.A (.compLoop (.ListComp elt [⟨tg, iter, ifs, 0⟩] scope pos) 0 (.ref it) (.ref D) ce) (compPost (model X.prog X.w) X.A X.xe use Qf (.ref D) s3.heap.objs.size) s4 := by
    refine compLoop_any (fun n s' => ∃ i H', Inv (X.blk s3 H3 scope ce fp) [] (wipe σ (own.map (·.2))) H' s' ∧ tn i s'.heap ∧ (∀ b ∈ fp, H' b = none) ∧ W i n H') ?_ m0 ⟨0, H3, I4, st4, nfp, w0⟩
    rintro n s5 ⟨i, H5, I5, st5, n5, w5⟩
    rcases turn i n H5 w5 with ⟨stop, qq⟩ | ⟨go, Nx, hNx, step⟩
    · have td := T.done (X.blk s3 H3 scope ce fp) rfl rfl rfl i [] s5 _ H5 (fun _ _ => False) I5 (stat I5 n5) st5 stop (hotB I5)
      refine thnF td fun r s6 ⟨hr, I6⟩ => ?_
      subst hr
      -- back in the def's context
      have I7 : Inv X pins σ H5 s6 := I3.call' (ch := fp) I6.os I6.base I6.hok I6.bare fun b hb => ⟨(f3 b hb).1.2.2.2.1, (f3 b hb).1.2.1, (f3 b hb).1.2.2.2.2.1, (f3 b hb).1.2.2.2.2.2⟩
      have nC : H5 s3.heap.objs.size = none := by
        have z : H5 ce.locals = none := I6.free
        rw [cL] at z
        exact z
      obtain ⟨m, hn, _⟩ := I6.loc
      have hn : s6.heap.Ns ce.locals m := hn
      rw [cL] at hn
      exact hRR D s3.heap.objs.size s6 m H5 I7 qq hn (I3.fpOk (Nat.le_refl _) nC)
    · have ti := T.item (X.blk s3 H3 scope ce fp) rfl rfl rfl i [] s5 _ H5 (fun _ _ => False) I5 (stat I5 n5) st5 go
      refine thnF ti fun r s6 ⟨u, hr, h6⟩ => ?_
      subst hr
      refine thnF h6 fun _ s7 ⟨x, H7, I7, r7, y7, st7, n7⟩ => ?_
      have I7' := I7.pinned (stat I7 n7) (T.obj _ _ st7)
      refine thnF (pg.run _ s7 _ H7 x u _ I7' r7 (step x H7 y7)) fun _ s8 ⟨σ8, H8, I8, hw8, q8⟩ => ?_
      refine thnF (pt.run _ s8 σ8 H8 _ I8 q8) fun b s9 ⟨H9, I9, q9⟩ => ?_
      -- the turn's end
      have fin : ∀ {s' : Shared} {H' : Hp}, Inv (X.blk s3 H3 scope ce fp) ([] ++ pinsAt fp s7.heap) σ8 H' s' → Nx H' → ∃ m, m < n ∧ ∃ i H', Inv (X.blk s3 H3 scope ce fp) [] (wipe σ (own.map (·.2))) H' s' ∧ tn i s'.heap ∧ (∀ b ∈ fp, H' b = none) ∧ W i m H' := fun {s' H'} I' nx => by
        obtain ⟨m', hm, w'⟩ := hNx H' nx
        have pin' : ∀ b ∈ fp, ∀ o, s7.heap.get? b = some o → s'.heap.get? b = some o ∧ H' b = none := fun b hb o e =>
          let z := I'.pin (b, o) (List.mem_append_right _ (List.mem_append_right _ (mem_pinsAt hb e)))
          ⟨z.1, z.2.1⟩
        have hl : (wipe σ (own.map (·.2))).length = σ8.length := by rw [← hw8, wipe_length]
        refine ⟨m', hm, i + 1, H', (I'.unpinned (pins := [])).weak hl (fun j v e => ?_), T.keep _ _ _ st7 fun b hb o e => (pin' b hb o e).1, fun b hb => ?_, w'⟩
        · rw [← hw8] at e
          exact (wipe_some e).1
        · obtain ⟨o, e, _⟩ := T.obj _ _ st7 b hb
          exact (pin' b hb o e).2
      cases b with
      | false =>
        simp only [Bool.false_eq_true, if_false] at q9 ⊢
        exact fin I9 q9
      | true =>
        simp only [if_true] at q9 ⊢
        refine thnF (pe.run _ s9 σ8 H9 _ I9 q9) fun z s10 ⟨yv, H10, I10, r10, acc, hD10, hz10, nx⟩ => ?_
        exact app_ok (X := X.blk s3 H3 scope ce fp) I10 hD10 hz10 r10 fun s11 I11 => fin I11 nx
  exact codeAny_compStart_list loop (T.self X.A 0 _ _ _ st4 loop)
theorem pe_lcK {elt tg iter : Expr} {ifs : List Expr} {scope : Scope} {own : List (Str × Nat)} {pos : Pos} {wi : TI} {g : TG} {tt : TT} {te : TE} {a : Addr} {oe : Obj} (hot : HotP X a oe) (hN : X.N.Nodup) (hi : PIK X tg iter wi) (ok : BlkOk X.N X.env.scope scope own)
    (hg : ∀ (s : Shared) (H : Hp) (C : Addr) (cl : List (Str × Addr)) (fp : List Addr), PG (X.blk s H scope (compEnvC scope cl C X.env) fp) tg g) (ht : ∀ (s : Shared) (H : Hp) (C : Addr) (cl : List (Str × Addr)) (fp : List Addr), PTs (X.blk s H scope (compEnvC scope cl C X.env) fp) ifs tt)
    (he : ∀ (s : Shared) (H : Hp) (C : Addr) (cl : List (Str × Addr)) (fp : List Addr), PE (X.blk s H scope (compEnvC scope cl C X.env) fp) elt te) (hs : ∀ x, foldedSetIterable iter X.env x = pure x := by intro _; rfl) :
    PE X (.ListComp elt [⟨tg, iter, ifs, 0⟩] scope pos) (tLc wi g tt te (own.map (·.2))) := by
  refine ⟨fun pins s σ H Q I h => ?_⟩
  rw [eval_ListComp]
  refine lc_coreK hot hN I hi ok hg ht he hs h fun D C s' m H' I' q hn f => ⟨m, hn, fun h'' sb => ?_⟩
  obtain ⟨f0, f1, f2, f3, f4, f5⟩ := f
  exact ⟨.ref D, H', I'.turned (t' := s'.toks) (fun b o hb e => (sb.2 b hb).trans e) f0 f1 f3 f4 f5, rfl, q⟩
end
section
variable {X : Cx} {C : Addr} {T : Tx} {V : Vo} {env : List En} {tg iter elt : Expr} {ifs : List Expr} {pos : Pos} {Φl : List D → Prop} {scope : Scope} {own : List (Str × Nat)} {bind : List En → D → List En → Prop} {Φ : D → Prop}
theorem je_lcGK {tq : D → Bool → Prop} {fq : D → D → Prop} {x : Addr} {oe : Obj} (hot : HotP X x oe) (hN : X.N.Nodup) (hi : JIK X C V env tg iter Φl) (ok : BlkOk X.N X.env.scope scope own)
    (hg : ∀ (s : Shared) (H : Hp) (Cc : Addr) (cl : List (Str × Addr)) (fp : List Addr), PG (X.blk s H scope (compEnvC scope cl Cc X.env) fp) tg (gB X.K C (own.map (·.2)) bind))
    (ht : ∀ (s : Shared) (H : Hp) (Cc : Addr) (cl : List (Str × Addr)) (fp : List Addr) (q : D × List En), ((∃ ds, Φl ds ∧ q.1 ∈ ds) ∧ bind (wipeE env (own.map (·.2))) q.1 q.2) → PTs (X.blk s H scope (compEnvC scope cl Cc X.env) fp) ifs (tJT X.K C V q.2 (tq q.1)))
    (he : ∀ (s : Shared) (H : Hp) (Cc : Addr) (cl : List (Str × Addr)) (fp : List Addr) (q : D × List En), (((∃ ds, Φl ds ∧ q.1 ∈ ds) ∧ tq q.1 true) ∧ bind (wipeE env (own.map (·.2))) q.1 q.2) → PE (X.blk s H scope (compEnvC scope cl Cc X.env) fp) elt (tJ X.K C V q.2 (fq q.1)))
    (hbd : ∀ ds d, Φl ds → d ∈ ds → ∃ env', bind (wipeE env (own.map (·.2))) d env') (hz : ∀ ds, Φl ds → ds.length ≤ 1000000) (hΦ : ∀ ds ys, Φl ds → Lc tq fq ds ys → Φ (.lst ys)) (hs : ∀ x, foldedSetIterable iter X.env x = pure x := by intro _; rfl) :
    JE X C V env (.ListComp elt [⟨tg, iter, ifs, 0⟩] scope pos) Φ :=
  (pe_lcK hot hN hi ok hg (fun s H Cc cl fp => pts_fam (ht s H Cc cl fp)) (fun s H Cc cl fp => pe_fam (he s H Cc cl fp)) hs).weak (lc_read hbd hz hΦ)
theorem je_lcNK {j : Nat} {n : Str} {p : Pos} {ds : List D} (t : D → Bool) (f : D → D) {x : Addr} {oe : Obj} (hot : HotP X x oe) (hN : X.N.Nodup) (hi : JIK X C V env (.Name n p) iter (· = ds)) (ok : BlkOk X.N X.env.scope scope own)
    (hg : ∀ (s : Shared) (H : Hp) (Cc : Addr) (cl : List (Str × Addr)) (fp : List Addr), PG (X.blk s H scope (compEnvC scope cl Cc X.env) fp) (.Name n p) (gB X.K C (own.map (·.2)) (bN j)))
    (ht : ∀ (s : Shared) (H : Hp) (Cc : Addr) (cl : List (Str × Addr)) (fp : List Addr) (d : D), d ∈ ds → PTs (X.blk s H scope (compEnvC scope cl Cc X.env) fp) ifs (tJT X.K C V ((wipeE env (own.map (·.2))).set j (.d d)) (· = t d)))
    (he : ∀ (s : Shared) (H : Hp) (Cc : Addr) (cl : List (Str × Addr)) (fp : List Addr) (d : D), d ∈ ds → t d = true → PE (X.blk s H scope (compEnvC scope cl Cc X.env) fp) elt (tJ X.K C V ((wipeE env (own.map (·.2))).set j (.d d)) (· = f d)))
    (hz : ds.length ≤ 1000000) (hs : ∀ x, foldedSetIterable iter X.env x = pure x := by intro _; rfl) :
    JE X C V env (.ListComp elt [⟨.Name n p, iter, ifs, 0⟩] scope pos) (· = .lst ((ds.filter t).map f)) :=
  je_lcGK (bind := bN j) (tq := fun d b => b = t d) (fq := fun d y => y = f d) hot hN hi ok
    hg
    (fun s H Cc cl fp q ⟨⟨ds', e1, h1⟩, h2⟩ => by subst e1; have h2 : q.2 = (wipeE env (own.map (·.2))).set j (.d q.1) := h2; rw [h2]; exact ht s H Cc cl fp q.1 h1)
    (fun s H Cc cl fp q ⟨⟨⟨ds', e1, h1⟩, h3⟩, h2⟩ => by subst e1; have h2 : q.2 = (wipeE env (own.map (·.2))).set j (.d q.1) := h2; rw [h2]; exact he s H Cc cl fp q.1 h1 h3.symm)
    (fun _ _ _ _ => ⟨_, rfl⟩) (fun ds' e => by subst e; exact hz) (fun ds' ys e r => by subst e; rw [Lc.det r]) hs
end
end RQ

/-! Rqj: texts that are joined, added, repeated; str(..), int(text); displays with a star. -/
namespace RQ
open PySem PySem.Spec PyProof.Rows L2

section
variable {X : Cx} {C : Addr} {V : Vo} {env : List En} {e a b : Expr} {es : List Expr} {pos p : Pos} {w u : Str} {xs ys : List D} {ws : List Str} {i n : Int} {Φa Φb : D → Prop}
/-- *e, .. -/
theorem ja_starT (he : JE X C V env e (· = .tup xs)) (hr : JA X C V env es (· = ys)) (hs : starEach (.Starred e p :: es) X.env = (true, eval e X.env) :: starEach es X.env := by rfl) : JA X C V env (.Starred e p :: es) (· = xs ++ ys) :=
  (StX.pa_star he hr hs).weak fun σ H Q ⟨S, o, k⟩ => ⟨S, o, fun d v S1 H1 p1 g1 j1 r1 => by
    subst p1
    obtain ⟨q, vs, e1, h1, h2⟩ := R.tup_iff.mp r1
    exact ⟨q, vs, e1, .inl (Same.seqT g1.sub h1), S1, o.gr g1 j1, fun ds us S2 H2 p2 g2 j2 r2 => by
      subst p2
      exact k _ _ S2 H2 rfl (g1.trans g2) j2 ((h2.mono g2.s).append r2)⟩⟩
theorem ja_starL (he : JE X C V env e (· = .lst xs)) (hr : JA X C V env es (· = ys)) (hs : starEach (.Starred e p :: es) X.env = (true, eval e X.env) :: starEach es X.env := by rfl) : JA X C V env (.Starred e p :: es) (· = xs ++ ys) :=
  (StX.pa_star he hr hs).weak fun σ H Q ⟨S, o, k⟩ => ⟨S, o, fun d v S1 H1 p1 g1 j1 r1 => by
    subst p1
    obtain ⟨q, vs, e1, h1, h2⟩ := R.lstL r1
    exact ⟨q, vs, e1, .inr (g1.sub.seq h1), S1, o.gr g1 j1, fun ds us S2 H2 p2 g2 j2 r2 => by
      subst p2
      exact k _ _ S2 H2 rfl (g1.trans g2) j2 ((h2.mono g2.s).append r2)⟩⟩
/-- sep.join(texts) -/
theorem je_join {apos : Pos} (ha : JE X C V env a (· = .str w)) (hb : JE X C V env b (· = .lst (ws.map .str))) (hz : (ws.map (·.length)).sum + ws.length * w.length ≤ 1000000) (hs : starEach [b] X.env = [(false, eval b X.env)] := by rfl) (hbase : attributeBase a "join" X.env (eval a X.env) = eval a X.env := by rfl) (hline : (apos.endLine == pos.line) = true := by rfl) :
    JE X C V env (.Call (.Attribute a "join" apos) [b] [] pos) (· = .str (Str.join w ws)) :=
  (pe_join ha hb hs hbase hline).weak fun σ H Q ⟨S, o, q⟩ => ⟨S, o, fun d v S1 H1 p1 g1 j1 r1 => by
    subst p1
    rw [R.str_iff] at r1
    subst r1
    refine ⟨⟨w, rfl⟩, S1, o.gr g1 j1, fun d2 v2 S2 H2 p2 g2 j2 r2 => ?_⟩
    subst p2
    obtain ⟨l, vs, e1, h1, h2⟩ := R.lstL r2
    have ev := RL.of_strs h2
    subst ev
    exact ⟨w, l, ws, rfl, by rw [e1], .inl (g2.sub.seq h1), Nat.le_trans hz (by decide), q _ _ S2 H2 rfl (g1.trans g2) j2 (R.str_iff.mpr (by rw [TL.join_eq]))⟩⟩
theorem o2_addS {K : PySem.W.Frag} (hz : w.length + u.length ≤ 1000000) : O2 K C (fun x y H Q => ∃ i j, x = .str i ∧ y = .str j ∧ i.length + j.length ≤ sizeLine ∧ Q (.str (i ++ j)) H) (.str w) (.str u) (.str (w ++ u)) := o2_of fun S H x y e r1 r2 => by
  rw [R.str_iff] at r1 r2
  subst r1 r2
  exact ⟨_, R.str_iff.mpr rfl, fun Q q => ⟨w, u, rfl, rfl, small hz, q⟩⟩
theorem je_addS (ha : JE X C V env a (· = .str w)) (hb : JE X C V env b (· = .str u)) (hz : w.length + u.length ≤ 1000000) : JE X C V env (.BinOp a .Add b pos) (· = .str (w ++ u)) := je_op1 op_add_str ha hb (o2_addS hz)
/-- a text some times -/
def repS (z : Str) (n : Int) : Str := ⟨(List.replicate n.toNat z.cps).foldl (· ++ ·) #[]⟩
theorem op_mul_str : OpR X (binaryOp .Mult) (fun x y H Q => ∃ z n, x = .str z ∧ y = .int n ∧ z.length = 1 ∧ 0 ≤ n ∧ n ≤ 1000 ∧ Q (.str (repS z n)) H) := by
  intro pins s σ H x y v u Q I rx ry h
  obtain ⟨z, n, rfl, rfl, hz, h0, h1, q⟩ := h
  obtain ⟨t, rfl⟩ := rx
  obtain ⟨t', rfl⟩ := ry
  refine PySem.P.mul_str (by rw [decide_eq_false (by omega), decide_eq_false (by omega)]; rfl) (fun a1 _ => ?_) (fun a1 _ => ?_) ?_
  · rw [hz]
    have : (1 : Int) ≤ (2 ^ 63 - 1) / n := Int.le_ediv_of_mul_le (by omega) (by omega)
    omega
  · rw [hz]
    have : (sizeLine : Nat) = 2 ^ 24 := rfl
    show decide (1 * n.toNat > sizeLine) = false
    exact decide_eq_false (by omega)
  · by_cases a1 : n < 1
    · rw [if_pos a1]
      have e : n = 0 := by omega
      subst e
      exact ⟨by decide, .str _, H, I.tok _, ⟨_, rfl⟩, q⟩
    · rw [if_neg a1]
      by_cases a2 : n = 1
      · subst a2
        rw [if_pos (show ((1 : Int) == 1 || z.length == 0) = true from rfl)]
        have e : repS z 1 = z := by
          show (⟨#[] ++ z.cps⟩ : Str) = z
          rw [Array.empty_append]
        rw [e] at q
        exact ⟨.str z, H, I, ⟨t, rfl⟩, q⟩
      · rw [if_neg (by rw [hz]; simp [a2])]
        refine ⟨?_, .str _, H, I.tok _, ⟨_, rfl⟩, q⟩
        have len : ∀ (k : Nat) (acc : Array Nat), ((List.replicate k z.cps).foldl (· ++ ·) acc).size = acc.size + k := by
          intro k
          induction k with
          | zero => intro acc; rfl
          | succ k ih =>
            intro acc
            show ((List.replicate k z.cps).foldl (· ++ ·) (acc ++ z.cps)).size = _
            rw [ih, Array.size_append]
            have : z.cps.size = 1 := hz
            omega
        show ((List.replicate n.toNat z.cps).foldl (· ++ ·) #[]).size ≤ sizeLine
        rw [len]
        have : (sizeLine : Nat) = 2 ^ 24 := rfl
        have : (#[] : Array Nat).size = 0 := rfl
        omega
theorem je_mulSR {Φ : D → Prop} (hw : w.length = 1) (ha : JE X C V env a (· = .str w)) (hb : JE X C V env b Φb) (hd : ∀ d, Φb d → ∃ n : Int, d = .int n ∧ 0 ≤ n ∧ n ≤ 1000 ∧ Φ (.str (repS w n))) : JE X C V env (.BinOp a .Mult b pos) Φ := je_op op_mul_str ha hb fun x y e1 e2 => by
  obtain ⟨n, e3, h0, h1, h2⟩ := hd y e2
  subst e1 e3
  refine ⟨_, h2, o2_of fun S H u v e r1 r2 => ?_⟩
  rw [R.str_iff] at r1
  rw [R.int_iff] at r2
  subst r1 r2
  exact ⟨_, R.str_iff.mpr rfl, fun Q q => ⟨w, n, rfl, rfl, hw, h0, h1, q⟩⟩
theorem je_addSR {Φ : D → Prop} (ha : JE X C V env a Φa) (hb : JE X C V env b Φb) (hd : ∀ x y, Φa x → Φb y → ∃ w u, x = .str w ∧ y = .str u ∧ w.length + u.length ≤ 1000000 ∧ Φ (.str (w ++ u))) : JE X C V env (.BinOp a .Add b pos) Φ := je_op op_add_str ha hb fun x y e1 e2 => by
  obtain ⟨w, u, e3, e4, hz, h⟩ := hd x y e1 e2
  subst e3 e4
  exact ⟨_, h, o2_addS hz⟩
/-- str(a number), str(a text), int(a text) -/
def strI (i : Int) : Str := Str.ofString (toString i)
theorem je_strI (z : Zb X.mg) (ha : JE X C V env a (· = .int i)) (hi : i.natAbs.log2 < 1920) (hg : Gl X "str" := by rfl) (he : starEach [a] X.env = (false, eval a X.env) :: starEach [] X.env := by rfl) (hpl : (backTo pos (starEach [] X.env)).any (·.1) = false := by rfl) : JE X C V env (.Call (.Name "str" p) [a] [] pos) (· = .str (strI i)) :=
  je_Ty1 call_str_int hg z.str (by decide +kernel) (ja_cons ha ja_nil he) (oc_of fun S H vs e rr => by
    obtain ⟨v, e1, h1⟩ := RL.one rr
    rw [R.int_iff] at h1
    subst h1 e1
    exact ⟨_, R.str_iff.mpr rfl, fun Q q => ⟨i, rfl, hi, q⟩⟩) (by decide) (by decide) he hpl
theorem je_strS (z : Zb X.mg) (ha : JE X C V env a (· = .str w)) (hg : Gl X "str" := by rfl) (he : starEach [a] X.env = (false, eval a X.env) :: starEach [] X.env := by rfl) (hpl : (backTo pos (starEach [] X.env)).any (·.1) = false := by rfl) : JE X C V env (.Call (.Name "str" p) [a] [] pos) (· = .str w) :=
  je_Ty1 SkE.call_str_str hg z.str (by decide +kernel) (ja_cons ha ja_nil he) (oc_of fun S H vs e rr => by
    obtain ⟨v, e1, h1⟩ := RL.one rr
    rw [R.str_iff] at h1
    subst h1 e1
    exact ⟨_, R.str_iff.mpr rfl, fun Q q => ⟨w, rfl, q⟩⟩) (by decide) (by decide) he hpl
theorem je_intS (z : Zb X.mg) (ha : JE X C V env a (· = .str w)) (hi : PySem.intText? w = some i) (hw : w.length ≤ 640) (hg : Gl X "int" := by rfl) (he : starEach [a] X.env = (false, eval a X.env) :: starEach [] X.env := by rfl) (hpl : (backTo pos (starEach [] X.env)).any (·.1) = false := by rfl) : JE X C V env (.Call (.Name "int" p) [a] [] pos) (· = .int i) :=
  je_Ty1 L2.call_int_str hg z.int (by decide +kernel) (ja_cons ha ja_nil he) (oc_of fun S H vs e rr => by
    obtain ⟨v, e1, h1⟩ := RL.one rr
    rw [R.str_iff] at h1
    subst h1 e1
    exact ⟨_, R.int_iff.mpr rfl, fun Q q => ⟨w, i, rfl, hi, hw, q⟩⟩) (by decide) (by decide) he hpl
end
end RQ

/-! Rqk: objects of one's own, made; a list of them, made by a comprehension. -/
namespace RQ
open PySem PySem.Spec PyProof.Rows L2

/-- some objects of one class -/
def Vo.flat (V : Vo) (K : PySem.W.Frag) (C Cc : Addr) (os : List (Addr × List (Str × D))) : Vo := ⟨fun q => V.M q ∨ q ∈ os.map (·.1), fun S H => V.J S H ∧ (os.map (·.1)).Nodup ∧ ∀ x ∈ os, S x.1 = none ∧ ¬ V.M x.1 ∧ ∃ dx fs, H x.1 = some (.ins Cc dx fs) ∧ FR K C S x.2 fs, fun S H q ⟨j1, j2, j3⟩ m => by
    rcases m with m | m
    · exact V.th S H q j1 m
    · obtain ⟨x, hx, e⟩ := List.mem_map.mp m
      subst e
      obtain ⟨a1, a2, dx, fs, a3, a4⟩ := j3 x hx
      exact ⟨⟨_, a3⟩, a1⟩,
  fun S H S' H' ⟨j1, j2, j3⟩ ss sub h1 h2 => ⟨V.st S H S' H' j1 ss sub (fun q m => h1 q (.inl m)) (fun q m => h2 q (.inl m)), j2, fun x hx => by
    obtain ⟨a1, a2, dx, fs, a3, a4⟩ := j3 x hx
    have m := List.mem_map_of_mem (f := (·.1)) hx
    exact ⟨h2 _ (.inr m), a2, dx, fs, by rw [h1 _ (.inr m)]; exact a3, a4.mono ss⟩⟩⟩
section
variable {V : Vo} {K : PySem.W.Frag} {C Cc a : Addr} {f : List (Str × D)} {os : List (Addr × List (Str × D))} {S H : Hp}
theorem flat_nil (j : V.J S H) : (V.flat K C Cc []).J S H := ⟨j, List.nodup_nil, fun x h => by cases h⟩
theorem flat_snoc (j : ((V.flat K C Cc os).obj K C Cc a f).J S H) : (V.flat K C Cc (os ++ [(a, f)])).J S H := by
  obtain ⟨⟨j1, j2, j3⟩, i2, i3, dx, fs, i4, i5⟩ := j
  refine ⟨j1, ?_, fun x hx => ?_⟩
  · rw [List.map_append]
    refine List.nodup_append.mpr ⟨j2, List.nodup_cons.mpr ⟨List.not_mem_nil, List.nodup_nil⟩, fun q hq q' hq' e => ?_⟩
    have e2 : q' = a := List.mem_singleton.mp hq'
    exact i3 (.inr (by rw [← e2, ← e]; exact hq))
  · rcases List.mem_append.mp hx with hx | hx
    · exact j3 x hx
    · have e := List.mem_singleton.mp hx
      subst e
      exact ⟨i2, fun m => i3 (.inl m), dx, fs, i4, i5⟩
/-- the first of them ahead of the others -/
theorem flat_first (j : (V.flat K C Cc ((a, f) :: os)).J S H) : ((V.flat K C Cc os).obj K C Cc a f).J S H := by
  obtain ⟨j1, j2, j3⟩ := j
  obtain ⟨n1, n2⟩ := List.nodup_cons.mp j2
  obtain ⟨a1, a2, dx, fs, a3, a4⟩ := j3 (a, f) List.mem_cons_self
  exact ⟨⟨j1, n2, fun x hx => j3 x (List.mem_cons_of_mem _ hx)⟩, a1, fun m => m.elim a2 n1, dx, fs, a3, a4⟩
theorem flat_firstM {q : Addr} (m : ((V.flat K C Cc os).obj K C Cc a f).M q) : (V.flat K C Cc ((a, f) :: os)).M q := by
  rcases m with (m | m) | m
  · exact .inl m
  · exact .inr (List.mem_cons_of_mem _ m)
  · exact .inr (by rw [m]; exact List.mem_cons_self)
end
/-- a new object: a at the address, with such fields -/
def tMk (K : PySem.W.Frag) (C Cc : Addr) (V : Vo) (env : List En) (fds : List (Str × D)) : TE := fun σ H Q => ∃ S, Ok K C V S H σ env ∧ ∀ a S' H', H a = none → Gr V.M S H S' H' → (V.obj K C Cc a fds).J S' H' → Q (.ref a) H'
/-- a class whose __init__ sets such fields -/
structure Mko (P : Program) (w : World) (K : PySem.W.Frag) (mg : Str → Option Value) (base : Heap) (C : Addr) (T : Tx) (Cc : Addr) (n : Str) (k : Nat) (ps : List Str) (Pm : List D → List (Str × D) → Prop) : Prop where
  g : mg n = some (.ref Cc)
  ex : ∃ (f : Addr) (fd : FuncData), Mk K Cc f ∧ L2.Binds K fd ps [] ∧ FnOk P w K mg base (L2.CX P w) k f fd ps (spH K C T fun V ds Ψ => ∃ V0 a xs fds, V = Vo.obj V0 K C Cc a [] ∧ ds = .raw (.ref a) :: xs ∧ Pm xs fds ∧ Ψ = fun r V' => r = .ok .non ∧ V' = Vo.obj V0 K C Cc a fds)
section
variable {X : Cx} {C Cc : Addr} {T : Tx} {V : Vo} {env : List En} {e : Expr} {es : List Expr} {n : Str} {j k : Nat} {ps : List Str} {Pm : List D → List (Str × D) → Prop} {xs : List D} {fds : List (Str × D)} {p pos : Pos}
theorem pe_mko (M : Mko X.prog X.w X.K X.mg X.base C T Cc n k ps Pm) (hr : Room j X.A) (hk : k + 1 ≤ j) (ha : JA X C V env (e :: es) (· = xs)) (hP : Pm xs fds) (hg : Gl X n := by rfl)
    (hdb : (n == ("__debug__" : Str)) = false := by decide) (he : starEach (e :: es) X.env = (false, eval e X.env) :: starEach es X.env := by rfl) (hpl : (backTo pos (starEach es X.env)).any (·.1) = false := by rfl) : PE X (.Call (.Name n p) (e :: es) [] pos) (tMk X.K C Cc V env fds) := by
  obtain ⟨f, fd, m, hb, F⟩ := M.ex
  exact (pe_make m F (hr.mono hk) hg M.g hb .nil passL ha hdb he hpl).weak fun σ H Q ⟨S, o, k⟩ => ⟨S, o, fun ds vs S1 H1 e1 g1 j1 r1 => fun x dx hx hd hne => by
    subst e1
    have sx : S1 x = none := by
      cases z : S1 x with
      | none => rfl
      | some u => rw [g1.sub x u z] at hx; cases hx
    have gA : Gr M0 S1 H1 S1 (upd H1 dx (.own x)) := .mine g1.sub hd
    have hx2 : (upd H1 dx (.own x)) x = none := by rw [upd_ne (Ne.symm hne)]; exact hx
    have gB : Gr M0 S1 (upd H1 dx (.own x)) S1 (upd (upd H1 dx (.own x)) x (.ins Cc dx [])) := .mine gA.sub hx2
    have hx0 : H x = none := by
      cases z : H x with
      | none => rfl
      | some u =>
        obtain ⟨u', z'⟩ := g1.m x u z
        rw [hx] at z'; cases z'
    have old : ∀ {q u}, H1 q = some u → q ≠ x ∧ q ≠ dx := fun {q u} z => ⟨ne_of_none z hx, ne_of_none z hd⟩
    have up : ∀ {q u}, H1 q = some u → (upd (upd H1 dx (.own x)) x (.ins Cc dx [])) q = some u := fun {q u} z => by rw [upd_ne (old z).1, upd_ne (old z).2]; exact z
    rw [List.append_nil]
    refine ⟨S1, _, V.obj X.K C Cc x [], _, gB.sub, ⟨V.gr0 gB (V.gr0 gA j1), sx, V.new hx j1, dx, [], upd_same, rfl⟩, RL.cons (R.raw_iff.mpr rfl) r1, ⟨V, x, _, fds, rfl, rfl, hP, rfl⟩, fun d V' v S' H' hq g jj rr => ?_, fun er V' cls dd S' H' hq => nomatch hq.1⟩
    obtain ⟨q1, q2⟩ := hq
    have q1 := Except.ok.inj q1
    subst q1 q2
    refine ⟨R.non_iff.mp rr, k x S' H' hx0 (g1.trans ⟨g.s, g.sub, fun p u m z => g.h p u (fun y => y.elim m (old z).1) (up z), fun p u z => g.m p u (up z), fun p u z y => g.n p u (up z) y⟩) jj⟩⟩
end
section
variable {X : Cx} {C Cc : Addr} {T : Tx} {A : Ah} {V : Vo} {env : List En} {elt iter tg : Expr} {pos spos py : Pos} {i : Nat} {y : Str} {scope : Scope} {own : List (Str × Nat)} {ds : List D} {Rt : D → Vo → Prop} {W : WX} {Et : Err → Vo → Prop} {bind : List En → D → List En → Prop} {g : D → List (Str × D)}
/-- x = [Class(..) for .. in ..] -/
theorem h_mkL (hc : X.calm = true) (hN : X.N.Nodup) (hy : X.N[i]? = some y) (hyl : X.env.scope.names.lookup y = some .local) (hsw : swapsWith (.ListComp elt [⟨tg, iter, [], 0⟩] scope pos) (some (.Name y py)) spos.line X.env = pure true)
    (hi : JI X C V env tg iter (· = ds)) (ok : BlkOk X.N X.env.scope scope own)
    (hg : ∀ (s : Shared) (H : Hp) (Cx : Addr) (cl : List (Str × Addr)) (fp : List Addr), PG (X.blk s H scope (compEnvC scope cl Cx X.env) fp) tg (gB X.K C (own.map (·.2)) bind))
    (hbd : ∀ d ∈ ds, ∃ env', bind (wipeE env (own.map (·.2))) d env')
    (he : ∀ (s : Shared) (H : Hp) (Cx : Addr) (cl : List (Str × Addr)) (fp : List Addr) (V' : Vo) (d : D) (env' : List En), d ∈ ds → bind (wipeE env (own.map (·.2))) d env' → PE (X.blk s H scope (compEnvC scope cl Cx X.env) fp) elt (tMk X.K C Cc V' env' (g d)))
    (hz : ds.length ≤ 1000000) (hs : ∀ x, foldedSetIterable iter X.env x = pure x := by intro _; rfl) :
    JHt X C T A V env (.Assign [.Name y py] (.ListComp elt [⟨tg, iter, [], 0⟩] scope pos) spos) (fun env' V' => ∃ as : List Addr, as.length = ds.length ∧ env' = env.set i (.d (.lst (as.map fun q => .raw (.ref q)))) ∧ V' = V.flat X.K C Cc (as.zip (ds.map g))) Rt W Et :=
  (ps_setLc hc hN hy hyl hsw hi ok hg
    (fun s H Cx cl fp => pts_fam (P := fun _ => True) (t := fun q : Vo × List En => tJT X.K C q.1 q.2 (· = true)) fun q _ => jts_nil)
    (fun s H Cx cl fp => pe_fam (P := fun q : Vo × D × List En => q.2.1 ∈ ds ∧ bind (wipeE env (own.map (·.2))) q.2.1 q.2.2) (t := fun q => tMk X.K C Cc q.1 q.2.2 (g q.2.1)) fun q hq => he s H Cx cl fp q.1 q.2.1 q.2.2 hq.1 hq.2) hs).weak fun DD σ H ⟨S, z, k1, _, _⟩ => ⟨S, z.ok, fun ds' J S1 H1 p1 g1 j1 wk => fun L hL => by
  subst p1
  generalize hvs : own.map (·.2) = vs at *
  have hM := V.new hL j1
  have old : ∀ {q : Addr} {H2 : Hp}, (∀ b u, H b = some u → ∃ u', H2 b = some u') → H2 q = none → H q = none := fun {q H2} h z => by
    cases w : H q with
    | none => rfl
    | some u =>
      obtain ⟨u', e⟩ := h q u w
      rw [z] at e; cases e
  have hLH : H L = none := old g1.m hL
  have sL1 : S1 L = none := by
    cases q : S1 L with
    | none => rfl
    | some u => rw [g1.sub L u q] at hL; cases hL
  refine ⟨fun i m' H' => m' = ds'.length - i ∧ i ≤ ds'.length ∧ ∃ (S' : Hp) (os : List (Addr × List (Str × D))), Gr V.M S H S' H' ∧ Same S1 S' ∧ (V.flat X.K C Cc os).J S' H' ∧ S' L = none ∧ H' L = some (.lst (os.map fun q => .ref q.1)) ∧ os.map (·.2) = (ds'.take i).map g ∧ ∀ q ∈ os, H q.1 = none ∧ q.1 ≠ L,
    ⟨ds'.length, by omega, by omega, S1, [], g1.trans (Gr.mine g1.sub hL), .refl S1, flat_nil (V.gr0 (Gr.mine g1.sub hL) j1), sL1, upd_same, by rw [List.take_zero]; rfl, fun _ z => nomatch z⟩, fun i m' H' ⟨em, hi, S', os, gg, ss, j, sL, hL', ql, qa⟩ => ?_⟩
  by_cases hlt : i < ds'.length
  · refine .inr ⟨wk.go i H' (ss.trans gg.sub) hlt, fun H2 => i + 1 ≤ ds'.length ∧ ∃ (S' : Hp) (os : List (Addr × List (Str × D))), Gr V.M S H S' H2 ∧ Same S1 S' ∧ (V.flat X.K C Cc os).J S' H2 ∧ S' L = none ∧ H2 L = some (.lst (os.map fun q => .ref q.1)) ∧ os.map (·.2) = (ds'.take (i + 1)).map g ∧ ∀ q ∈ os, H q.1 = none ∧ q.1 ≠ L,
      fun H2 ⟨hl, q⟩ => ⟨ds'.length - (i + 1), by omega, rfl, hl, q⟩, fun x H2 y => ?_⟩
    have hd : ds'[i]? = some ds'[i] := List.getElem?_eq_getElem hlt
    have hm : ds'[i] ∈ ds' := List.getElem_mem hlt
    obtain ⟨S2, g2, r2⟩ := wk.yld i ds'[i] S' H' x H2 ss gg.sub hd y
    obtain ⟨env', hB⟩ := hbd _ hm
    have rs2 : RS X.K C S2 (L2.wipe σ vs) (wipeE env vs) := RS.wipe ((z.ok.rs.mono gg.s).mono g2.s) vs
    have j2 := (V.flat X.K C Cc os).gr0 g2 j
    refine ⟨S2, ds'[i], wipeE env vs, env', g2.sub, rs2, r2, hB, fun σ3 rs3 hw => ⟨hw.trans wipe_again, (V.flat X.K C Cc os, env'), True.intro, S2, ⟨g2.sub, j2, rs3⟩, fun b S3 H3 hb g3 j3 => ?_⟩⟩
    subst hb
    refine iteT ⟨(V.flat X.K C Cc os, ds'[i], env'), ⟨hm, hB⟩, S3, ⟨g3.sub, j3, rs3.mono g3.s⟩, fun a S4 H4 na g4 j4 => ?_⟩
    have nL : ¬ (V.flat X.K C Cc os).M L := fun m => m.elim hM fun m => by
      obtain ⟨q, hq, e⟩ := List.mem_map.mp m
      exact (qa q hq).2 e
    have hL2 := g2.h L _ (fun z => z) hL'
    have hL3 := g3.h L _ nL hL2
    have hL4 := g4.h L _ nL hL3
    have sL4 := g4.n L _ hL3 (g3.n L _ hL2 (g2.n L _ hL' sL))
    have aL : a ≠ L := fun e => by rw [e, hL3] at na; cases na
    have naH : H a = none := old (fun b u w => by
      obtain ⟨u1, w1⟩ := gg.m b u w
      obtain ⟨u2, w2⟩ := g2.m b u1 w1
      exact g3.m b u2 w2) na
    -- what one changes is new, or one's own
    have low : ∀ {S5 H5 S6 H6 : Hp}, Gr (V.flat X.K C Cc os).M S5 H5 S6 H6 → Gr V.M S H S5 H5 → Gr V.M S H S6 H6 := fun {S5 H5 S6 H6} gx g0 => ⟨g0.s.trans gx.s, gx.sub, fun p u m w => gx.h p u (fun y => y.elim m fun y => by
        obtain ⟨q, hq, e⟩ := List.mem_map.mp y
        rw [← e, (qa q hq).1] at w; cases w) (g0.h p u m w), fun p u w => by
        obtain ⟨u1, w1⟩ := g0.m p u w
        exact gx.m p u1 w1, fun p u w n => by
        obtain ⟨u1, w1⟩ := g0.m p u w
        exact gx.n p u1 w1 (g0.n p u w n)⟩
    have gA := low g4 (low g3 (gg.trans g2.up0))
    have nA : ¬ ((V.flat X.K C Cc os).obj X.K C Cc a (g ds'[i])).M L := fun m => m.elim nL fun e => aL e.symm
    refine ⟨os.map fun q => .ref q.1, hL4, ?_, by omega, S4, os ++ [(a, g ds'[i])], gA.mut sL4 hLH, ((ss.trans g2.s).trans g3.s).trans g4.s, flat_snoc (Vo.mut _ nA sL4 gA.sub j4), sL4, by rw [upd_same, List.map_append]; rfl, ?_, fun q hq => ?_⟩
    · rw [List.length_map]
      have e1 : os.length = (os.map (·.2)).length := (List.length_map ..).symm
      rw [ql, List.length_map, List.length_take] at e1
      have : (sizeLine : Nat) = 2 ^ 24 := rfl
      omega
    · rw [List.map_append, ql, List.take_succ, hd, List.map_append]; rfl
    · rcases List.mem_append.mp hq with hq | hq
      · exact qa q hq
      · rw [List.mem_singleton.mp hq]; exact ⟨naH, aL⟩
  · have e : i = ds'.length := by omega
    refine .inl ⟨wk.stop _ H' (ss.trans gg.sub) (by omega), ?_⟩
    rw [e, List.take_length] at ql
    have g2 := gg.rel sL hLH hL'
    have up : Same S' (upd S' L (.lst (os.map fun q => .ref q.1))) := fun p u q => by rw [upd_ne (ne_of_none q sL)]; exact q
    have raws : ∀ (qs : List (Addr × List (Str × D))) (S0 : Hp), RL X.K C S0 ((qs.map (·.1)).map fun q => .raw (.ref q)) (qs.map fun q => .ref q.1) := fun qs S0 => by
      induction qs with
      | nil => exact RL.nil
      | cons q qs ih => exact RL.cons (R.raw_iff.mpr rfl) ih
    have nL : ¬ (V.flat X.K C Cc os).M L := fun m => m.elim hM fun m => by
      obtain ⟨q, hq, e⟩ := List.mem_map.mp m
      exact (qa q hq).2 e
    have ez : (os.map (·.1)).zip (ds'.map g) = os := by
      rw [← ql]
      clear ql qa hL' j up raws nL g2
      induction os with
      | nil => rfl
      | cons q os ih => rw [List.map_cons, List.map_cons, List.zip_cons_cons, ih]
    refine k1 _ _ _ (upd S' L (.lst (os.map fun q => .ref q.1))) H' ⟨os.map (·.1), ?_, rfl, rfl⟩ ?_
    · have e1 : os.length = (os.map (·.2)).length := (List.length_map ..).symm
      rw [List.length_map, e1, ql, List.length_map]
    · rw [ez]
      refine ⟨⟨g2.sub, Vo.rel _ nL sL hL' gg.sub j, ((z.ok.rs.mono gg.s).mono up).setD _ (R.mkL upd_same (raws os _))⟩, z.gr.am g2 z.le, fun q hq => ?_⟩
      rcases hq with hq | hq
      · exact z.le q hq
      · obtain ⟨x, hx, rfl⟩ := List.mem_map.mp hq
        refine .inr ?_
        cases w : A.H0 x.1 with
        | none => rfl
        | some u =>
          obtain ⟨u', w'⟩ := z.gr.m x.1 u w
          rw [(qa x hx).1] at w'; cases w'⟩
end
end RQ

/-! Rql: a call whose first argument may raise; a def that makes objects for itself alone. -/
namespace RQ
open PySem PySem.Spec PyProof.Rows L2

section
variable {X : Cx} {C : Addr} {T : Tx} {V : Vo} {env : List En} {e : Expr} {es : List Expr} {x : Str} {k j : Nat} {ps : List Str} {Pm : Vo → List D → (Except Err D → Vo → Prop) → Prop} {xs : List D} {Ψ : Except Err D → Vo → Prop} {W : WX} {pos p : Pos} {r : Except Err D}
theorem px_calC2 (F : FnC X.prog X.w X.K X.mg X.base C T x k ps Pm) (hr : Room j X.A) (hk : k ≤ j) (tk : Takes X W) (he : PE X e (tJX X.K C T V env W r)) (ha : JA X C V env es (· = xs)) (hP : ∀ d, r = .ok d → Pm V (d :: xs) Ψ) (hg : Gl X x := by rfl)
    (hdb : (x == ("__debug__" : Str)) = false := by decide) (hst : starEach (e :: es) X.env = (false, eval e X.env) :: starEach es X.env := by rfl) (hpl : (backTo pos (starEach es X.env)).any (·.1) = false := by rfl) : PE X (.Call (.Name x p) (e :: es) [] pos) (tX X.K C T V env W (fun r' V' => (∃ d, r = .ok d ∧ Ψ r' V') ∨ ∃ er, r = .error er ∧ r' = .error er ∧ V' = V)) := by
  obtain ⟨f, fd, h1, h2, h3, h4⟩ := F.ex
  exact (pe_callS h4 (hr.mono hk) hg h1 h2 h3 (fun σ => passAt tk σ) (pa_cons he ha hst) hdb hst hpl).weak fun σ H Q ⟨S, o, k1, k2⟩ => ⟨S, o, fun d v S1 H1 e1 g1 j1 r1 => ⟨S1, o.gr g1 j1, fun ds vs S2 H2 e2 g2 j2 r2 => by
      subst e2
      exact callH_use o (g1.trans g2) j2 (RL.cons (r1.mono g2.s) r2) (hP d e1) (fun d' V' v' S' H' q => k1 d' V' v' S' H' (.inl ⟨d, e1, q⟩)) fun er V' cls dd S' H' q => k2 er V' cls dd S' H' (.inl ⟨d, e1, q⟩)⟩,
    fun er cls dd S1 H1 e1 g1 j1 rx => k2 er V cls dd S1 H1 (.inr ⟨er, e1, rfl, rfl⟩) g1 j1 rx⟩
end
section
variable {P : Program} {w : World} {K : PySem.W.Frag} {mg : Str → Option Value} {base : Heap} {C : Addr} {T : Tx}
/-- a def that changes nothing that stood; its body makes and changes objects -/
theorem Df.purH {x : Str} {st : Stmt} {N ps : List Str} {k : Nat} {Pm : List D → Except Err D → Prop} (d : Df K mg x st ps) (Sc : FnScope N ps (defScope st)) (hl : ∀ ds r, Pm ds r → ds.length = ps.length)
    (hb : ∀ (f : Addr) (cdv : Value) (A' : Around) (outer : List Env) (s : Shared) (H : Hp) (E : XK) (A : Ah) (ds : List D) (r : Except Err D), Room k (A'.deeper (envOfC x (defScope st) s.heap.objs.size f cdv)) → Takes (bodyX P w K mg base N x st f cdv A' outer s H E) (fun cls d _ H' => E cls d H') → Pm ds r →
      JH (bodyX P w K mg base N x st f cdv A' outer s H E) C T A V0 (envS N ds) (defBody st) (fun _ _ => .ok .non = r) (fun d _ => .ok d = r) (fun cls d _ H' => E cls d H') (fun er _ => .error er = r)) : Fn P w K mg base C T x (k + 1) ps (RQ.pur Pm) := by
  obtain ⟨f, fd, h1, F, h2⟩ := d.ex
  refine ⟨f, fd, h1, F.kp, h2, F.okX Sc (fun vs H Q E ⟨S, ds, V, Ψ, _, _, h3, ⟨_, r, h4, _⟩, _⟩ => by rw [h3.length]; exact hl ds r h4) (fun cdv A' outer s H vs Q E hr ⟨S, ds, V, Ψ, h1, h2, h3, ⟨e1, r, h4, e2⟩, h5, h6⟩ => ?_)⟩
  subst e1 e2
  refine ⟨_, hb f cdv A' outer s H E ⟨M0, S, H⟩ ds r hr (takes_of rfl rfl rfl rfl) h4, S, ⟨⟨h1, trivial, ?_⟩, .refl h1, fun q m => .inl m⟩, fun env' V' σ' S' H' n z => h5 .non .non S' H' n z.gr trivial (R.non_iff.mpr rfl), fun d V' v S' H' n g _ rr => h5 d v S' H' n g trivial rr, fun er V' cls dd σ' S' H' n g _ rr => h6 er cls dd S' H' n g trivial rr⟩
  have := RS.start (N.length - vs.length) h3
  rw [h3.length] at this
  unfold L2.start
  rw [h3.length]
  exact this
end
end RQ

/-! Rqm: slices of a list with any bounds that are not negative. -/
namespace RQ
open PySem PySem.Spec PyProof.Rows L2
theorem cut_gen {α : Type} (xs : List α) (a b : Nat) : (xs.drop (min a xs.length)).take (min b xs.length - min a xs.length) = (xs.take b).drop a := by
  refine List.ext_getElem? fun i => ?_
  rw [List.getElem?_take, List.getElem?_drop, List.getElem?_drop, List.getElem?_take]
  by_cases h : a + i < xs.length
  · rw [Nat.min_eq_left (show a ≤ xs.length by omega)]
    by_cases h2 : a + i < b
    · rw [if_pos (by omega), if_pos h2]
    · rw [if_neg (by omega), if_neg h2]
  · rw [List.getElem?_eq_none (show xs.length ≤ a + i by omega), if_neg (by omega)]
    split <;> rfl
theorem cutV_both (xs : List L2.V) (a b : Nat) : cutV xs (some (a : Int)) (some (b : Int)) = (xs.take b).drop a := by
  unfold cutV
  rw [HT.sIx_nat, HT.sIx_nat]
  exact cut_gen xs a b
theorem cutV_tG (xs : List L2.V) (b : Nat) : cutV xs none (some (b : Int)) = xs.take b := by
  unfold cutV
  rw [HT.sIx_none, HT.sIx_nat]
  have h := cut_gen xs 0 b
  rw [Nat.zero_min, List.drop_zero, List.drop_zero] at h
  rw [List.drop_zero]
  exact h
theorem cutV_frG (xs : List L2.V) (a : Nat) : cutV xs (some (a : Int)) none = xs.drop a := by
  unfold cutV
  rw [HT.sIx_none, HT.sIx_nat]
  have h := cut_gen xs a xs.length
  rw [Nat.min_self, List.take_length] at h
  exact h
section
variable {X : Cx} {C : Addr} {V : Vo} {env : List En} {e a b c : Expr} {pos p2 : Pos} {ds : List D} {k j : Nat}
theorem je_slToG (ha : JE X C V env a (· = .lst ds)) (hb : JE X C V env b (· = .int (k : Int))) : JE X C V env (.Subscript a (.Slice none (some b) none p2) pos) (· = .lst (ds.take k)) :=
  (pe_slice sl_list ha po_none (po_some hb)).weak fun σ H Q ⟨S, o, q⟩ => ⟨S, o, fun d v S1 H1 p1 g1 j1 r1 => by
    subst p1
    show tJ _ _ _ _ _ σ H1 _
    refine ⟨S1, o.gr g1 j1, fun d2 v2 S2 H2 p2 g2 j2 r2 => ?_⟩
    subst p2
    rw [R.int_iff] at r2
    subst r2
    obtain ⟨x, xs, e1, h1, h2⟩ := R.lstL r1
    refine ⟨(k : Int), rfl, x, xs, e1, g2.sub.seq (Same.seq g2.s h1), fun p hp => ?_⟩
    rw [cutV_tG]
    have g3 : Gr M0 S2 H2 (upd S2 p (.lst (xs.take k))) (upd H2 p (.lst (xs.take k))) := .new g2.sub hp
    exact q _ _ _ _ rfl ((g1.trans g2).trans g3.up0) (V.gr0 g3 j2) (R.mkL upd_same (((h2.mono g2.s).mono g3.s).take k))⟩
theorem je_slFromG (ha : JE X C V env a (· = .lst ds)) (hb : JE X C V env b (· = .int (k : Int))) : JE X C V env (.Subscript a (.Slice (some b) none none p2) pos) (· = .lst (ds.drop k)) :=
  (pe_slice sl_list ha (po_some hb) po_none).weak fun σ H Q ⟨S, o, q⟩ => ⟨S, o, fun d v S1 H1 p1 g1 j1 r1 => by
    subst p1
    refine ⟨S1, o.gr g1 j1, fun d2 v2 S2 H2 p2 g2 j2 r2 => ?_⟩
    subst p2
    rw [R.int_iff] at r2
    subst r2
    obtain ⟨x, xs, e1, h1, h2⟩ := R.lstL r1
    refine ⟨(k : Int), rfl, x, xs, e1, g2.sub.seq (Same.seq g2.s h1), fun p hp => ?_⟩
    rw [cutV_frG]
    have g3 : Gr M0 S2 H2 (upd S2 p (.lst (xs.drop k))) (upd H2 p (.lst (xs.drop k))) := .new g2.sub hp
    exact q _ _ _ _ rfl ((g1.trans g2).trans g3.up0) (V.gr0 g3 j2) (R.mkL upd_same (((h2.mono g2.s).mono g3.s).drop k))⟩
theorem je_slBoth (ha : JE X C V env a (· = .lst ds)) (hb : JE X C V env b (· = .int (k : Int))) (hc : JE X C V env c (· = .int (j : Int))) : JE X C V env (.Subscript a (.Slice (some b) (some c) none p2) pos) (· = .lst ((ds.take j).drop k)) :=
  (pe_slice sl_list ha (po_some hb) (po_some hc)).weak fun σ H Q ⟨S, o, q⟩ => ⟨S, o, fun d v S1 H1 p1 g1 j1 r1 => by
    subst p1
    refine ⟨S1, o.gr g1 j1, fun d2 v2 S2 H2 p2 g2 j2 r2 => ?_⟩
    subst p2
    rw [R.int_iff] at r2
    subst r2
    refine ⟨(k : Int), rfl, S2, (o.gr g1 j1).gr g2 j2, fun d3 v3 S3 H3 p3 g3 j3 r3 => ?_⟩
    subst p3
    rw [R.int_iff] at r3
    subst r3
    obtain ⟨x, xs, e1, h1, h2⟩ := R.lstL r1
    refine ⟨(j : Int), rfl, x, xs, e1, g3.sub.seq (Same.seq g3.s (Same.seq g2.s h1)), fun p hp => ?_⟩
    rw [cutV_both]
    have g4 : Gr M0 S3 H3 (upd S3 p (.lst ((xs.take j).drop k))) (upd H3 p (.lst ((xs.take j).drop k))) := .new g3.sub hp
    exact q _ _ _ _ rfl (((g1.trans g2).trans g3).trans g4.up0) (V.gr0 g4 j3) (R.mkL upd_same (((((h2.mono g2.s).mono g3.s).mono g4.s).take j).drop k))⟩
end
end RQ

/-! Rqn: as Rqg, for defs that also make what is one's own afterwards. -/
namespace RQ
open PySem PySem.Spec PyProof.Rows L2
theorem Gr.back {M : Addr → Prop} {S H S' H' : Hp} {q : Addr} (g : Gr M S H S' H') (w : H' q = none) : H q = none := by
  cases e : H q with
  | none => rfl
  | some u =>
    obtain ⟨u', e'⟩ := g.m q u e
    rw [w] at e'; cases e'
section
variable (K : PySem.W.Frag) (C : Addr) (T : Tx) (A : Ah) (V : Vo) (env : List En) (N : List En → Vo → Prop) (Rt : D → Vo → Prop) (W : WX) (Et : Err → Vo → Prop)
def tHg : TS := fun D σ H => ∃ S, Zh K C A V S H σ env ∧ (∀ env' V' σ' S' H', N env' V' → Zh K C A V' S' H' σ' env' → D.nx σ' H') ∧
  (∀ d V' v S' H', Rt d V' → (∀ q, V'.M q → A.M q ∨ A.H0 q = none) → Gr A.M A.S0 A.H0 S' H' → V'.J S' H' → R K C S' d v → D.rt v H') ∧
  (∀ er V' cls dd σ' S' H', Et er V' → Gr A.M A.S0 A.H0 S' H' → V'.J S' H' → RX K C T S' H' er cls dd → W cls dd σ' H')
end
abbrev JHg (X : Cx) (C : Addr) (T : Tx) (A : Ah) (V : Vo) (env : List En) (sts : List Stmt) (N : List En → Vo → Prop) (Rt : D → Vo → Prop) (W : WX) (Et : Err → Vo → Prop) : Prop := PSs X sts (tHg X.K C T A V env N Rt W Et)
abbrev JHtg (X : Cx) (C : Addr) (T : Tx) (A : Ah) (V : Vo) (env : List En) (st : Stmt) (N : List En → Vo → Prop) (Rt : D → Vo → Prop) (W : WX) (Et : Err → Vo → Prop) : Prop := PS X st (tHg X.K C T A V env N Rt W Et)
section
variable {X : Cx} {C : Addr} {T : Tx} {A : Ah} {V V2 : Vo} {env : List En} {e a b : Expr} {Φ : D → Prop} {Θ : Bool → Prop} {pos : Pos} {x : D} {N N1 N' : List En → Vo → Prop} {Ne : List En → Prop} {Rt : D → Vo → Prop} {RtD : D → Prop} {W : WX} {Et : Err → Vo → Prop} {EtD : Err → Prop} {st : Stmt} {rest sts : List Stmt}
theorem JHtg.imp (h : JHtg X C T A V env st N Rt W Et) (h1 : ∀ e v, N e v → N' e v) : JHtg X C T A V env st N' Rt W Et := h.weak fun D σ H ⟨S, o, k1, k2, k3⟩ => ⟨S, o, fun env' V' σ' S' H' p => k1 env' V' σ' S' H' (h1 _ _ p), k2, k3⟩
theorem JHg.imp (h : JHg X C T A V env sts N Rt W Et) (h1 : ∀ e v, N e v → N' e v) : JHg X C T A V env sts N' Rt W Et := h.weak fun D σ H ⟨S, o, k1, k2, k3⟩ => ⟨S, o, fun env' V' σ' S' H' p => k1 env' V' σ' S' H' (h1 _ _ p), k2, k3⟩
theorem g_nil : JHg X C T A V env [] (fun e v => e = env ∧ v = V) Rt W Et := pss_nil.weak fun D σ H ⟨S, o, k1, _⟩ => k1 env V σ S H ⟨rfl, rfl⟩ o
theorem g_cons (h1 : JHtg X C T A V env st N1 Rt W Et) (h2 : ∀ env' V', N1 env' V' → JHg X C T A V' env' rest N Rt W Et) : JHg X C T A V env (st :: rest) N Rt W Et :=
  (pss_cons h1 (pss_fam (P := fun q : List En × Vo => N1 q.1 q.2) fun q h => h2 q.1 q.2 h)).weak fun D σ H ⟨S, o, k1, k2, k3⟩ =>
    ⟨S, o, fun env' V' σ' S' H' n z => ⟨(env', V'), n, S', z, k1, k2, k3⟩, k2, k3⟩
theorem g_one (h1 : JHtg X C T A V env st N Rt W Et) : JHg X C T A V env [st] N Rt W Et := pss_one h1
theorem g_st (h : JSt X C T V env st Ne RtD W EtD) (hr : ∀ d, RtD d → Rt d V) (he : ∀ er, EtD er → Et er V) : JHtg X C T A V env st (fun e v => Ne e ∧ v = V) Rt W Et := h.weak fun D σ H ⟨S, z, k1, k2, k3⟩ => ⟨S, z.ok, fun env' σ' S' H' n g j r => k1 env' V σ' S' H' ⟨n, rfl⟩ (z.step g j r),
  fun d v S' H' p g j r => k2 d V v S' H' (hr d p) z.le (z.gr.am g z.le) j r, fun er cls dd σ' S' H' p g j r => k3 er V cls dd σ' S' H' (he er p) (z.gr.am g z.le) j r⟩
theorem g_js (h : JS X C T V env sts Ne RtD W EtD) (hr : ∀ d, RtD d → Rt d V) (he : ∀ er, EtD er → Et er V) : JHg X C T A V env sts (fun e v => Ne e ∧ v = V) Rt W Et := h.weak fun D σ H ⟨S, z, k1, k2, k3⟩ => ⟨S, z.ok, fun env' σ' S' H' n g j r => k1 env' V σ' S' H' ⟨n, rfl⟩ (z.step g j r),
  fun d v S' H' p g j r => k2 d V v S' H' (hr d p) z.le (z.gr.am g z.le) j r, fun er cls dd σ' S' H' p g j r => k3 er V cls dd σ' S' H' (he er p) (z.gr.am g z.le) j r⟩
theorem g_jsF (h : JS X C T V env sts (fun _ => False) (fun d => Rt d V) W (fun er => Et er V)) : JHg X C T A V env sts N Rt W Et := (g_js h (fun _ z => z) (fun _ z => z)).imp fun _ _ z => z.1.elim
theorem g_seq (h : JSt X C T V env st Ne (fun d => Rt d V) W (fun er => Et er V)) (h2 : ∀ env', Ne env' → JHg X C T A V env' rest N Rt W Et) : JHg X C T A V env (st :: rest) N Rt W Et := g_cons (g_st h (fun _ z => z) (fun _ z => z)) fun env' V' ⟨n, e⟩ => by subst e; exact h2 env' n
theorem g_ret (h : JE X C V env e (fun d => Rt d V)) : JHtg X C T A V env (.Return (some e) pos) N Rt W Et := (g_st (jst_ret (N := fun _ => False) (Et := fun er => Et er V) h) (fun _ z => z) (fun _ z => z)).imp fun _ _ z => z.1.elim
theorem g_let {i : Nat} {n : Str} {pos' : Pos} (hN : X.N.Nodup) (hi : X.N[i]? = some n) (hx : Loc X.env.scope n) (he : JE X C V env e (· = x)) (hr : JHg X C T A V (env.set i (.d x)) rest N Rt W Et) (hs : swapsWith e (some (.Name n pos')) pos.line X.env = pure false := by rfl)
    (hf : X.fn n = true ∨ X.env.scope.names.lookup n = some .local := by first | exact .inl rfl | exact .inr rfl | assumption) : JHg X C T A V env (.Assign [.Name n pos'] e pos :: rest) N Rt W Et :=
  g_seq (jst_set hN hi hx he hs hf) fun env' ⟨d, p, q⟩ => by subst p q; exact hr
theorem g_if {c : Expr} {P Q : List Stmt} (hc : JT X C V env c Θ) (ha : (∃ h, Θ h ∧ h = true) → JHg X C T A V env P N Rt W Et) (hb : (∃ h, Θ h ∧ h = false) → JHg X C T A V env Q N Rt W Et) : JHtg X C T A V env (.If c P Q pos) N Rt W Et := by
  refine ⟨fun pins s σ H D I h => ?_⟩
  obtain ⟨S, z, k1, k2, k3⟩ := h
  refine wpAny_If (thn (hc.run pins s σ H (fun c H1 => Θ c ∧ tHg X.K C T A V env N Rt W Et D σ H1) I ⟨S, z.ok, fun c S' H' p g j => ⟨p, S', z.step g j (z.ok.rs.mono g.s), k1, k2, k3⟩⟩) fun d s1 ⟨H1, I1, q0, q1⟩ => ?_)
  cases d with
  | true => exact (ha ⟨_, q0, rfl⟩).run pins s1 σ H1 D I1 q1
  | false => exact (hb ⟨_, q0, rfl⟩).run pins s1 σ H1 D I1 q1
theorem g_ifE {c : Expr} {p : Bool} {P Q : List Stmt} (hc : JT X C V env c (· = p)) (ha : p = true → JHg X C T A V env P N Rt W Et) (hb : p = false → JHg X C T A V env Q N Rt W Et) : JHtg X C T A V env (.If c P Q pos) N Rt W Et :=
  g_if hc (fun ⟨h, e1, e2⟩ => ha (e1.symm.trans e2)) (fun ⟨h, e1, e2⟩ => hb (e1.symm.trans e2))
/-- if c: .. (that leaves); the rest -/
theorem g_when {c : Expr} {p : Bool} {P : List Stmt} (hc : JT X C V env c (· = p)) (ha : p = true → JHg X C T A V env P (fun _ _ => False) Rt W Et) (hb : p = false → JHg X C T A V env rest N Rt W Et) : JHg X C T A V env (.If c P [] pos :: rest) N Rt W Et := by
  cases p with
  | true => exact g_cons (N1 := fun _ _ => False) (g_ifE hc (fun _ => ha rfl) (fun h => nomatch h)) fun _ _ h => h.elim
  | false => exact g_cons (N1 := fun e v => e = env ∧ v = V) (g_ifE hc (fun h => nomatch h) (fun _ => g_nil)) fun env' V' ⟨h1, h2⟩ => by subst h1 h2; exact hb rfl
/-- less is known of what may change -/
theorem g_weak (hJ : ∀ S H, V.J S H → V2.J S H) (hM : ∀ q, V2.M q → V.M q) (h : JHg X C T A V2 env sts N Rt W Et) : JHg X C T A V env sts N Rt W Et := h.weak fun D σ H ⟨S, z, k⟩ => ⟨S, ⟨⟨z.ok.sub, hJ _ _ z.ok.j, z.ok.rs⟩, z.gr, fun q m => z.le q (hM q m)⟩, k⟩
end
section
variable {X : Cx} {C Cc a : Addr} {T : Tx} {A : Ah} {V : Vo} {env : List En} {e o : Expr} {fds : List (Str × D)} {f : Str} {z d : D} {pos pos' tpos : Pos} {N : List En → Vo → Prop} {Rt : D → Vo → Prop} {W : WX} {Et : Err → Vo → Prop} {rest : List Stmt} {i j : Int} {Φ : D → Prop}
/-- o.f = e -/
theorem g_fldR (c : Cls X.K Cc) (n : NoAttr X.K Cc f) (ho : JE X C (V.obj X.K C Cc a fds) env o (· = .raw (.ref a))) (hv : JE X C (V.obj X.K C Cc a fds) env e Φ) (few : fds.length < 1000) (hr : ∀ d, Φ d → JHg X C T A (V.obj X.K C Cc a (putD f d fds)) env rest N Rt W Et)
    (hs : swapsWith e (some (.Attribute o f pos')) pos.line X.env = pure false := by rfl) : JHg X C T A (V.obj X.K C Cc a fds) env (.Assign [.Attribute o f pos'] e pos :: rest) N Rt W Et :=
  (pss_cons (ps_fld ho hv hs) (pss_fam (P := fun d : D => Φ d) hr)).weak fun D σ H ⟨S, zh, k1, k2, k3⟩ => ⟨S, zh.ok, fun d' u S1 H1 e1 g1 j1 r1 => ⟨S1, zh.ok.gr g1 j1, fun d2 v2 S2 H2 e2 g2 jj r2 => by
    subst e2
    rw [R.raw_iff] at r2
    subst r2
    have z2 := (zh.step g1 j1 (zh.ok.rs.mono g1.s)).step g2 jj ((zh.ok.rs.mono g1.s).mono g2.s)
    obtain ⟨q1, q2, q3, dx, fs, q4, q5⟩ := jj
    exact ⟨a, Cc, dx, fs, rfl, q4, c, n, by rw [q5.len]; exact few, d', e1, S2, obj_put z2 q4 q5 (r1.mono g2.s), k1, k2, k3⟩⟩⟩
theorem g_fld (c : Cls X.K Cc) (n : NoAttr X.K Cc f) (ho : JE X C (V.obj X.K C Cc a fds) env o (· = .raw (.ref a))) (hv : JE X C (V.obj X.K C Cc a fds) env e (· = d)) (few : fds.length < 1000) (hr : JHg X C T A (V.obj X.K C Cc a (putD f d fds)) env rest N Rt W Et)
    (hs : swapsWith e (some (.Attribute o f pos')) pos.line X.env = pure false := by rfl) : JHg X C T A (V.obj X.K C Cc a fds) env (.Assign [.Attribute o f pos'] e pos :: rest) N Rt W Et := g_fldR c n ho hv few (fun d' e => by rw [e]; exact hr) hs
/-- o.f += e -/
theorem g_aug (c : Cls X.K Cc) (n : NoAttr X.K Cc f) (ho : JE X C (V.obj X.K C Cc a fds) env o (· = .raw (.ref a))) (hv : JE X C (V.obj X.K C Cc a fds) env e (· = .int j)) (hz : fds.lookup f = some (.int i)) (few : fds.length < 1000) (hr : JHg X C T A (V.obj X.K C Cc a (putD f (.int (i + j)) fds)) env rest N Rt W Et) :
    JHg X C T A (V.obj X.K C Cc a fds) env (.AugAssign (.Attribute o f tpos) .Add e pos :: rest) N Rt W Et :=
  (pss_cons (ps_fldaug ho hv in_add) hr).weak fun D σ H ⟨S, zh, k1, k2, k3⟩ => ⟨S, zh.ok, fun d1 u S1 H1 e1 g1 j1 r1 => by
    subst e1
    rw [R.raw_iff] at r1
    subst r1
    have z1 := zh.step g1 j1 (zh.ok.rs.mono g1.s)
    obtain ⟨q1, q2, q3, dx, fs, q4, q5⟩ := j1
    obtain ⟨v, h1, h2⟩ := q5.look hz
    rw [R.int_iff] at h2
    subst h2
    refine ⟨a, Cc, dx, fs, _, rfl, q4, c, n, h1, S1, z1.ok, fun d2 v2 S2 H2 e2 g2 j2 r2 => ?_⟩
    subst e2
    rw [R.int_iff] at r2
    subst r2
    have z2 := z1.step g2 j2 (z1.ok.rs.mono g2.s)
    obtain ⟨q1, q2, q3, dx, fs, q4, q5⟩ := j2
    exact ⟨i, j, rfl, rfl, dx, fs, q4, by rw [q5.len]; exact few, S2, obj_put z2 q4 q5 (R.int_iff.mpr rfl), k1, k2, k3⟩⟩
end
/-! ### calls that change -/
def spHg (K : PySem.W.Frag) (C : Addr) (T : Tx) (P : Vo → List D → (Except Err D → Vo → Prop) → Prop) : Sp := fun vs H Q E => ∃ S ds V Ψ, Same S H ∧ V.J S H ∧ RL K C S ds vs ∧ P V ds Ψ ∧
  (∀ d V' v S' H', Ψ (.ok d) V' → (∀ q, V'.M q → V.M q ∨ H q = none) → Gr V.M S H S' H' → V'.J S' H' → R K C S' d v → Q v H') ∧ (∀ er V' cls dd S' H', Ψ (.error er) V' → Gr V.M S H S' H' → V'.J S' H' → RX K C T S' H' er cls dd → E cls dd H')
/-- an expression that may change what is one's own -/
def tXg (K : PySem.W.Frag) (C : Addr) (T : Tx) (V : Vo) (env : List En) (W : WX) (Ψ : Except Err D → Vo → Prop) : TE := fun σ H Q => ∃ S, Ok K C V S H σ env ∧ (∀ d V' v S' H', Ψ (.ok d) V' → (∀ q, V'.M q → V.M q ∨ H q = none) → Gr V.M S H S' H' → V'.J S' H' → R K C S' d v → Q v H') ∧
  (∀ er V' cls dd S' H', Ψ (.error er) V' → Gr V.M S H S' H' → V'.J S' H' → RX K C T S' H' er cls dd → W cls dd σ H')
section
variable {P : Program} {w : World} {K : PySem.W.Frag} {mg : Str → Option Value} {base : Heap} {C : Addr} {T : Tx}
theorem okHg {x qual : Str} {st : Stmt} {f : Addr} {fd : FuncData} {N ps : List Str} {k : Nat} {Pm : Vo → List D → (Except Err D → Vo → Prop) → Prop} (F : Fun K x qual st f fd) (Sc : FnScope N ps (defScope st)) (hl : ∀ V ds Ψ, Pm V ds Ψ → ds.length = ps.length)
    (hb : ∀ (cdv : Value) (A' : Around) (outer : List Env) (s : Shared) (H : Hp) (E : XK) (A : Ah) (V : Vo) (ds : List D) (Ψ : Except Err D → Vo → Prop), Room k (A'.deeper (envOfC qual (defScope st) s.heap.objs.size f cdv)) → Takes (bodyX P w K mg base N qual st f cdv A' outer s H E) (fun cls d _ H' => E cls d H') → Pm V ds Ψ →
      JHg (bodyX P w K mg base N qual st f cdv A' outer s H E) C T A V (envS N ds) (defBody st) (fun _ V' => Ψ (.ok .non) V') (fun d V' => Ψ (.ok d) V') (fun cls d _ H' => E cls d H') (fun er V' => Ψ (.error er) V')) :
    FnOk P w K mg base (L2.CX P w) (k + 1) f fd ps (spHg K C T Pm) := by
  refine F.okX Sc (fun vs H Q E ⟨S, ds, V, Ψ, h1, h2, h3, h4, _⟩ => by rw [h3.length]; exact hl V ds Ψ h4) (fun cdv A' outer s H vs Q E hr ⟨S, ds, V, Ψ, h1, h2, h3, h4, h5, h6⟩ => ?_)
  refine ⟨_, hb cdv A' outer s H E ⟨V.M, S, H⟩ V ds Ψ hr (takes_of rfl rfl rfl rfl) h4, S, ⟨⟨h1, h2, ?_⟩, .refl h1, fun q m => .inl m⟩, fun env' V' σ' S' H' n z => h5 .non V' .non S' H' n z.le z.gr z.ok.j (R.non_iff.mpr rfl), fun d V' v S' H' n l g j r => h5 d V' v S' H' n l g j r, fun er V' cls dd σ' S' H' n g j r => h6 er V' cls dd S' H' n g j r⟩
  have := RS.start (N.length - vs.length) h3
  rw [h3.length] at this
  unfold L2.start
  rw [h3.length]
  exact this
structure FnCg (P : Program) (w : World) (K : PySem.W.Frag) (mg : Str → Option Value) (base : Heap) (C : Addr) (T : Tx) (x : Str) (k : Nat) (ps : List Str) (Pm : Vo → List D → (Except Err D → Vo → Prop) → Prop) : Prop where
  ex : ∃ (f : Addr) (fd : FuncData), mg x = some (.ref f) ∧ PySem.W.keepIn K (.ref f) = true ∧ L2.Binds K fd ps [] ∧ FnOk P w K mg base (L2.CX P w) k f fd ps (spHg K C T Pm)
theorem Df.fnHg {x : Str} {st : Stmt} {N ps : List Str} {k : Nat} {Pm : Vo → List D → (Except Err D → Vo → Prop) → Prop} (d : Df K mg x st ps) (Sc : FnScope N ps (defScope st)) (hl : ∀ V ds Ψ, Pm V ds Ψ → ds.length = ps.length)
    (hb : ∀ (f : Addr) (cdv : Value) (A' : Around) (outer : List Env) (s : Shared) (H : Hp) (E : XK) (A : Ah) (V : Vo) (ds : List D) (Ψ : Except Err D → Vo → Prop), Room k (A'.deeper (envOfC x (defScope st) s.heap.objs.size f cdv)) → Takes (bodyX P w K mg base N x st f cdv A' outer s H E) (fun cls d _ H' => E cls d H') → Pm V ds Ψ →
      JHg (bodyX P w K mg base N x st f cdv A' outer s H E) C T A V (envS N ds) (defBody st) (fun _ V' => Ψ (.ok .non) V') (fun d V' => Ψ (.ok d) V') (fun cls d _ H' => E cls d H') (fun er V' => Ψ (.error er) V')) : FnCg P w K mg base C T x (k + 1) ps Pm := by
  obtain ⟨f, fd, h1, F, h2⟩ := d.ex
  exact ⟨f, fd, h1, F.kp, h2, okHg F Sc hl (hb f)⟩
/-- a method of the class Cc -/
structure Mthg (P : Program) (w : World) (K : PySem.W.Frag) (mg : Str → Option Value) (base : Heap) (C : Addr) (T : Tx) (Cc : Addr) (m : Str) (k : Nat) (ps : List Str) (Pm : Vo → List D → (Except Err D → Vo → Prop) → Prop) : Prop where
  ex : ∃ (f : Addr) (fd : FuncData), Meth K Cc m f ∧ L2.Binds K fd ps [] ∧ FnOk P w K mg base (L2.CX P w) k f fd ps (spHg K C T Pm)
theorem Dmt.mthg {Cc : Addr} {m qual : Str} {st : Stmt} {N ps : List Str} {k : Nat} {Pm : Vo → List D → (Except Err D → Vo → Prop) → Prop} (d : Dmt K Cc m qual st ps) (Sc : FnScope N ps (defScope st)) (hl : ∀ V ds Ψ, Pm V ds Ψ → ds.length = ps.length)
    (hb : ∀ (f : Addr) (cdv : Value) (A' : Around) (outer : List Env) (s : Shared) (H : Hp) (E : XK) (A : Ah) (V : Vo) (ds : List D) (Ψ : Except Err D → Vo → Prop), Room k (A'.deeper (envOfC qual (defScope st) s.heap.objs.size f cdv)) → Takes (bodyX P w K mg base N qual st f cdv A' outer s H E) (fun cls d _ H' => E cls d H') → Pm V ds Ψ →
      JHg (bodyX P w K mg base N qual st f cdv A' outer s H E) C T A V (envS N ds) (defBody st) (fun _ V' => Ψ (.ok .non) V') (fun d V' => Ψ (.ok d) V') (fun cls d _ H' => E cls d H') (fun er V' => Ψ (.error er) V')) : Mthg P w K mg base C T Cc m (k + 1) ps Pm := by
  obtain ⟨f, fd, h1, F, h2⟩ := d.ex
  exact ⟨f, fd, h1, h2, okHg F Sc hl (hb f)⟩
end
section
variable {X : Cx} {C Cc a : Addr} {T : Tx} {A : Ah} {V : Vo} {env : List En} {e o : Expr} {es : List Expr} {m x : Str} {k j : Nat} {ps : List Str} {Pm : Vo → List D → (Except Err D → Vo → Prop) → Prop} {xs : List D} {Ψ : Except Err D → Vo → Prop} {W : WX} {pos apos p : Pos}
theorem callH_useg {K : PySem.W.Frag} {σ : L2.St} {S H S1 H1 : Hp} {ds : List D} {vs : List L2.V} {Q : VK} (o : Ok K C V S H σ env) (g1 : Gr V.M S H S1 H1) (j1 : V.J S1 H1) (r1 : RL K C S1 ds vs) (hP : Pm V ds Ψ) (k1 : ∀ d V' v S' H', Ψ (.ok d) V' → (∀ q, V'.M q → V.M q ∨ H q = none) → Gr V.M S H S' H' → V'.J S' H' → R K C S' d v → Q v H')
    (k2 : ∀ er V' cls dd S' H', Ψ (.error er) V' → Gr V.M S H S' H' → V'.J S' H' → RX K C T S' H' er cls dd → W cls dd σ H') : spHg K C T Pm vs H1 Q (WE W σ) :=
  ⟨S1, ds, V, Ψ, g1.sub, j1, r1, hP, fun d V' v S' H' p l g j r => k1 d V' v S' H' p (fun q m => (l q m).imp id fun w => g1.back w) (g1.trans g) j r, fun er V' cls dd S' H' p g j r => k2 er V' cls dd S' H' p (g1.trans g) j r⟩
theorem px_methg (M : Mthg X.prog X.w X.K X.mg X.base C T Cc m k ps Pm) (hr : Room j X.A) (hk : k ≤ j) (tk : Takes X W) (c : Cls X.K Cc) (he : JE X C V env o (· = .raw (.ref a))) (hat : isAt V Cc a m) (ha : JA X C V env (e :: es) (· = xs)) (hP : Pm V (.raw (.ref a) :: xs) Ψ) {pl : Sem Bool}
    (hst : starEach (e :: es) X.env = (false, eval e X.env) :: starEach es X.env := by rfl) (hpl : (backTo pos (starEach es X.env)).any (·.1) = false := by rfl)
    (ht : eval (.Call (.Attribute o m apos) (e :: es) [] pos) X.env = (do let ov ← eval o X.env; standAt apos.atName; let (f, first) ← holding [ov] (getMethod ov m pl); callWith pos f first (backTo pos (starEach (e :: es) X.env)) (backToKw pos (keywordEach [] X.env))) := by rfl) :
    PE X (.Call (.Attribute o m apos) (e :: es) [] pos) (tXg X.K C T V env W Ψ) := by
  obtain ⟨f, fd, h1, h2, h3⟩ := M.ex
  exact (pe_methE (E := WE W) (pl := pl) he c h1 h3 (hr.mono hk) h2 (fun σ => passAt tk σ) ha hst hpl ht).weak fun σ H Q ⟨S, o, k1, k2⟩ => ⟨S, o, fun d v S1 H1 e1 g1 j1 r1 => by
    subst e1
    rw [R.raw_iff] at r1
    subst r1
    obtain ⟨dx, fs, q1, q2⟩ := hat S1 H1 j1
    exact ⟨a, dx, fs, rfl, q1, q2, S1, o.gr g1 j1, fun ds vs S2 H2 e2 g2 j2 r2 => by
      subst e2
      exact callH_useg o (g1.trans g2) j2 (RL.cons (R.raw_iff.mpr rfl) r2) hP k1 k2⟩⟩
theorem px_meth0g (M : Mthg X.prog X.w X.K X.mg X.base C T Cc m k ps Pm) (hr : Room j X.A) (hk : k ≤ j) (tk : Takes X W) (c : Cls X.K Cc) (he : JE X C V env o (· = .raw (.ref a))) (hat : isAt V Cc a m) (hP : Pm V [.raw (.ref a)] Ψ) {pl : Sem Bool}
    (ht : eval (.Call (.Attribute o m apos) [] [] pos) X.env = (do let ov ← eval o X.env; standAt apos.atName; let (f, first) ← holding [ov] (getMethod ov m pl); callWith pos f first (backTo pos (starEach [] X.env)) (backToKw pos (keywordEach [] X.env))) := by rfl) :
    PE X (.Call (.Attribute o m apos) [] [] pos) (tXg X.K C T V env W Ψ) := by
  obtain ⟨f, fd, h1, h2, h3⟩ := M.ex
  exact (pe_methE0 (E := WE W) (pl := pl) he c h1 h3 (hr.mono hk) h2 (fun σ => passAt tk σ) ht).weak fun σ H Q ⟨S, o, k1, k2⟩ => ⟨S, o, fun d v S1 H1 e1 g1 j1 r1 => by
    subst e1
    rw [R.raw_iff] at r1
    subst r1
    obtain ⟨dx, fs, q1, q2⟩ := hat S1 H1 j1
    exact ⟨a, dx, fs, rfl, q1, q2, callH_useg o g1 j1 (RL.cons (R.raw_iff.mpr rfl) RL.nil) hP k1 k2⟩⟩
theorem px_calCg (F : FnCg X.prog X.w X.K X.mg X.base C T x k ps Pm) (hr : Room j X.A) (hk : k ≤ j) (tk : Takes X W) (ha : JA X C V env (e :: es) (· = xs)) (hP : Pm V xs Ψ) (hg : Gl X x := by rfl)
    (hdb : (x == ("__debug__" : Str)) = false := by decide) (hst : starEach (e :: es) X.env = (false, eval e X.env) :: starEach es X.env := by rfl) (hpl : (backTo pos (starEach es X.env)).any (·.1) = false := by rfl) : PE X (.Call (.Name x p) (e :: es) [] pos) (tXg X.K C T V env W Ψ) := by
  obtain ⟨f, fd, h1, h2, h3, h4⟩ := F.ex
  exact (pe_callS h4 (hr.mono hk) hg h1 h2 h3 (fun σ => passAt tk σ) ha hdb hst hpl).weak fun σ H Q ⟨S, o, k1, k2⟩ => ⟨S, o, fun ds vs S1 H1 e1 g1 j1 r1 => by
    subst e1
    exact callH_useg o g1 j1 r1 hP k1 k2⟩
/-- what changes nothing -/
theorem px_ofJXg {r : Except Err D} (h : PE X e (tJX X.K C T V env W r)) : PE X e (tXg X.K C T V env W (fun r' V' => r' = r ∧ V' = V)) := h.weak fun σ H Q ⟨S, o, k1, k2⟩ => ⟨S, o, fun d v S' H' e1 g j rr => k1 d V v S' H' ⟨e1.symm, rfl⟩ (fun q m => .inl m) g j rr, fun er cls dd S' H' e1 g j rx => k2 er V cls dd S' H' ⟨e1.symm, rfl⟩ g j rx⟩
variable {N : List En → Vo → Prop} {Rt : D → Vo → Prop} {Et : Err → Vo → Prop} {rest : List Stmt} {i : Nat} {n : Str} {pos' : Pos}
theorem Zh.low {K : PySem.W.Frag} {V' : Vo} {S H : Hp} {σ : L2.St} (z : Zh K C A V S H σ env) (l : ∀ q, V'.M q → V.M q ∨ H q = none) : ∀ q, V'.M q → A.M q ∨ A.H0 q = none := fun q m => (l q m).elim (z.le q) fun w => .inr (by
  cases e : A.H0 q with
  | none => rfl
  | some u =>
    obtain ⟨u', e'⟩ := z.gr.m q u e
    rw [w] at e'; cases e')
theorem Zh.callg {K : PySem.W.Frag} {V' : Vo} {S H S' H' : Hp} {σ σ' : L2.St} {env' : List En} (z : Zh K C A V S H σ env) (g : Gr V.M S H S' H') (j : V'.J S' H') (l : ∀ q, V'.M q → V.M q ∨ H q = none) (r : RS K C S' σ' env') : Zh K C A V' S' H' σ' env' := ⟨⟨g.sub, j, r⟩, z.gr.am g z.le, z.low l⟩
theorem g_exprX (he : PE X e (tXg X.K C T V env W Ψ)) (ho : ∀ d V', Ψ (.ok d) V' → JHg X C T A V' env rest N Rt W Et) (hE : ∀ er V', Ψ (.error er) V' → Et er V') (hs : swapsWith e none pos.line X.env = pure false := by rfl) : JHg X C T A V env (.Expr e pos :: rest) N Rt W Et :=
  (pss_cons (ps_expr he hs) (pss_fam (P := fun q : D × Vo => Ψ (.ok q.1) q.2) fun q h => ho q.1 q.2 h)).weak fun D σ H ⟨S, z, k1, k2, k3⟩ => ⟨S, z.ok, fun d V' v S' H' p l g j r => ⟨(d, V'), p, S', z.callg g j l (z.ok.rs.mono g.s), k1, k2, k3⟩, fun er V' cls dd S' H' p g j rx => k3 er V' cls dd σ S' H' (hE er V' p) (z.gr.am g z.le) j rx⟩
theorem g_letX (hN : X.N.Nodup) (hi : X.N[i]? = some n) (hx : Loc X.env.scope n) (he : PE X e (tXg X.K C T V env W Ψ)) (ho : ∀ d V', Ψ (.ok d) V' → JHg X C T A V' (env.set i (.d d)) rest N Rt W Et) (hE : ∀ er V', Ψ (.error er) V' → Et er V') (hs : swapsWith e (some (.Name n pos')) pos.line X.env = pure false := by rfl)
    (hf : X.fn n = true ∨ X.env.scope.names.lookup n = some .local := by first | exact .inl rfl | exact .inr rfl | assumption) : JHg X C T A V env (.Assign [.Name n pos'] e pos :: rest) N Rt W Et :=
  (pss_cons (ps_set hN hi hx he hs hf) (pss_fam (P := fun q : D × Vo => Ψ (.ok q.1) q.2) fun q h => ho q.1 q.2 h)).weak fun D σ H ⟨S, z, k1, k2, k3⟩ => ⟨S, z.ok, fun d V' v S' H' p l g j r => ⟨(d, V'), p, S', z.callg g j l ((z.ok.rs.mono g.s).setD i r), k1, k2, k3⟩, fun er V' cls dd S' H' p g j rx => k3 er V' cls dd σ S' H' (hE er V' p) (z.gr.am g z.le) j rx⟩
theorem g_retX (he : PE X e (tXg X.K C T V env W Ψ)) (ho : ∀ d V', Ψ (.ok d) V' → Rt d V') (hE : ∀ er V', Ψ (.error er) V' → Et er V') : JHtg X C T A V env (.Return (some e) pos) N Rt W Et :=
  (ps_ret he).weak fun D σ H ⟨S, z, k1, k2, k3⟩ => ⟨S, z.ok, fun d V' v S' H' p l g j r => k2 d V' v S' H' (ho d V' p) (z.low l) (z.gr.am g z.le) j r, fun er V' cls dd S' H' p g j rx => k3 er V' cls dd σ S' H' (hE er V' p) (z.gr.am g z.le) j rx⟩
end
end RQ

/-! Rqo: dicts whose keys are cells: copied, asked, filled. -/
namespace RQ
open PySem PySem.Spec PyProof.Rows L2

def hRC (r c : Int) : Int := reduceHash (Builtin.Tuple.tupleHashOf [hashInt r, hashInt c])
def cellsN (n : Nat) : List (Int × Int) := (List.range n).flatMap fun (r : Nat) => (List.range n).map fun (c : Nat) => ((r : Int), (c : Int))
theorem h_nd : ((cellsN 10).map fun x => hRC x.1 x.2).Nodup := by decide +kernel
theorem cellsN_mem {n : Nat} {x : Int × Int} (h : (0 ≤ x.1 ∧ x.1 < n) ∧ 0 ≤ x.2 ∧ x.2 < n) : x ∈ cellsN n := by
  refine List.mem_flatMap.mpr ⟨x.1.toNat, List.mem_range.mpr (by omega), List.mem_map.mpr ⟨x.2.toNat, List.mem_range.mpr (by omega), ?_⟩⟩
  rw [Int.toNat_of_nonneg h.1.1, Int.toNat_of_nonneg h.2.1]
theorem nodup_inj {α β : Type} {f : α → β} : ∀ {l : List α}, (l.map f).Nodup → ∀ x ∈ l, ∀ y ∈ l, f x = f y → x = y
  | a :: l, h, x, hx, y, hy, e => by
    obtain ⟨h1, h2⟩ := List.nodup_cons.mp h
    rcases List.mem_cons.mp hx with hx | hx <;> rcases List.mem_cons.mp hy with hy | hy
    · rw [hx, hy]
    · exact absurd (List.mem_map.mpr ⟨y, hy, by rw [← e, hx]⟩) h1
    · exact absurd (List.mem_map.mpr ⟨x, hx, by rw [e, hy]⟩) h1
    · exact nodup_inj h2 x hx y hy e
def inT (x : Int × Int) : Prop := (0 ≤ x.1 ∧ x.1 < 10) ∧ 0 ≤ x.2 ∧ x.2 < 10
theorem keyT_inj {x y : Int × Int} (h : keyT x = keyT y) : x = y := by
  unfold keyT at h
  obtain ⟨h1, h2⟩ := List.cons.inj h
  obtain ⟨h2, _⟩ := List.cons.inj h2
  exact Prod.ext (Sum.inl.inj h1) (Sum.inl.inj h2)
theorem hash_nd {P : Program} {w : World} {ks : List (Int × Int)} (hi : ∀ x ∈ ks, inT x) (hn : ks.Nodup) : (ks.map fun x => (tupleKind (mixKind P w)).hash (keyT x)).Nodup := by
  have e : ∀ x : Int × Int, (tupleKind (mixKind P w)).hash (keyT x) = hRC x.1 x.2 := fun _ => rfl
  refine List.pairwise_map.mpr (hn.imp_of_mem fun {a b} ha hb ne z => ne ?_)
  exact nodup_inj h_nd a (cellsN_mem (hi a ha)) b (cellsN_mem (hi b hb)) (by rw [← e, ← e]; exact z)
section
variable {prog : Program} {w : World} {K : Type} [DecidableEq K] {knd : HeapKind prog w K} {A : Around} {E : Value → Shared → Prop} {s : Shared}
/-- dict(a dict), its keys objects -/
theorem call_dictH {o : Addr} {more : List (K × Addr × Value)} {Q : Value → Shared → Prop} (hu : knd.room A.in1.in1) (hoS : (o == sysModules) = false) (ho : s.heap.DictOfH knd o more) (hty : ∀ x ∈ more, s.TypeIs (.ref x.2.1) "tuple") (hap : (more.map fun x => knd.hash x.1).Nodup) (hsz : more.length ≤ sizeLine) (hst : ∀ h', (∀ b o, s.heap.get? b = some o → h'.get? b = some o) → ∀ x ∈ more, knd.is h' x.1 x.2.1)
    (h : ∀ h', h'.DictOfH knd s.heap.objs.size more → Heap.SameBut s.heap.objs.size (s.heap.push { cls := .type "dict", data := .dict #[] }) h' → Q (.ref s.heap.objs.size) { s with heap := h' }) :
    wpAny (model prog w) A (call (.type "dict") [.ref o]) Q E s := by
  refine callType_codes (Q₁ := fun obj s₁ => obj = .ref s.heap.objs.size ∧ s₁ = { s with heap := s.heap.push { cls := .type "dict", data := .dict #[] } }) F.kt_called_dict (F.kt_typeCall_dict_1 _) F.entry_dict_init (kt_code_dict_new _ ⟨rfl, rfl⟩) ?_
  rintro obj s₁ ⟨rfl, rfl⟩
  obtain ⟨oo, es, ep, hg, hc, hd, he, his, hn⟩ := id ho
  have hdo : s.heap.objs.size ≠ o := fun e => absurd (Heap.lt_size hg) (by rw [e]; exact Nat.lt_irrefl _)
  have kp : ∀ b u, s.heap.get? b = some u → (s.heap.push { cls := .type "dict", data := .dict #[] }).get? b = some u := fun b u e => Heap.get?_push_of_some _ e
  have hnew : (s.heap.push { cls := .type "dict", data := .dict #[] }).DictOfH knd s.heap.objs.size [] := ⟨_, #[], 0, Heap.get?_push_size _ rfl, ⟨rfl, rfl, rfl⟩, rfl, rfl, (fun x z => by cases z), List.nodup_nil⟩
  have ho' : (s.heap.push { cls := .type "dict", data := .dict #[] }).DictOfH knd o more := ⟨oo, es, ep, kp _ _ hg, hc, hd, he, hst _ kp, hn⟩
  refine ⟨hnew.typeIs, F.args_dict_init_2 _ _, ?_⟩
  unfold Builtin.«dict.__init__»
  refine wpAny_bind ?_
  unfold Builtin.Dict.selfAndRest
  refine wpAny_bind (wpAny_notOrdered_dict hnew.typeIs ?_)
  show wpAny _ _ (pure (s.heap.objs.size, [Value.ref o])) _ _ _
  refine wpAny_pure ?_
  show wpAny _ _ (Builtin.Dict.updateFrom "dict.__init__" s.heap.objs.size (.ref o) [] .none) _ _ _
  refine updateFrom_dictH .none hu hdo hoS hnew ho' (.inr ⟨fun x hx => ?_, hap⟩) (by simpa using hsz) fun h' hd' _ hs' => ?_
  · obtain ⟨u, hu1, hu2⟩ := hty x hx
    exact ⟨u, kp _ _ hu1, hu2⟩
  · rw [storedAllH_nil_of_nodup more hn] at hd'
    exact ⟨rfl, h h' hd' hs'⟩
end
end RQ

/-! Rqp: dict(a table) as a call; a table of one's own. -/
namespace RQ
open PySem PySem.Spec PyProof.Rows L2

theorem KT.keys {H : Hp} {kvs : List (List Key × L2.V)} {xs : List (List Key × Addr × Value)} (r : KT H kvs xs) : kvs.map (·.1) = xs.map (·.1) := by
  unfold KT at r
  induction r with
  | nil => rfl
  | cons h t ih => rw [List.map_cons, List.map_cons, ih, h.1]
/-- dict(a table) -/
def rDictT (l : Tab) : List L2.V → Hp → VK → Prop := fun xs H Q => ∃ o, xs = [L2.V.ref o] ∧ Rd H o (.dT (kvT l)) ∧ ∀ p, H p = none → Q (.ref p) (upd H p (.dT (kvT l)))
theorem call_dictT {X : Cx} {l : Tab} (hu : X.A.units + 2 < cLine) (hi : ∀ x ∈ l, inT x.1) (hn : (l.map (·.1)).Nodup) : CallR X (.type "dict") (rDictT l) := by
  intro pins s σ H xs us Q I r h
  obtain ⟨o, rfl, hd, q⟩ := h
  obtain ⟨u, rfl, rx⟩ := r.one
  cases rx
  obtain ⟨z, hs, ks, pr, dd⟩ := dt_rd I.hok hd
  obtain ⟨oo, es, ep, h1, h2, h3, h4, his, hnd⟩ := id dd
  have hk : ks.map (·.1) = l.map fun x => keyT x.1 := by
    rw [← KT.keys pr]
    unfold kvT
    rw [List.map_map]
    rfl
  refine call_dictH (knd := tupleKind (mixKind X.prog X.w)) hu hs dd (fun x hx => ?_) ?_ (by rw [← Paired.length pr]; exact z) (fun h' kp x hx => ?_) fun h' hd' hsm => ?_
  · obtain ⟨ob, its, n, a1, a2, a3, a4⟩ := his x hx
    exact ⟨ob, a1, a2⟩
  · have e : (ks.map fun x => (tupleKind (mixKind X.prog X.w)).hash x.1) = (l.map (·.1)).map fun x => (tupleKind (mixKind X.prog X.w)).hash (keyT x) := by
      have e2 : (ks.map fun x => (tupleKind (mixKind X.prog X.w)).hash x.1) = (ks.map (·.1)).map (tupleKind (mixKind X.prog X.w)).hash := by rw [List.map_map]; rfl
      rw [e2, hk, List.map_map, List.map_map]
      rfl
    rw [e]
    refine hash_nd (fun x hx => ?_) hn
    obtain ⟨y, hy, e⟩ := List.mem_map.mp hx
    rw [← e]; exact hi y hy
  · obtain ⟨ob, its, n, a1, a2, a3, a4⟩ := his x hx
    exact ⟨ob, its, n, kp _ _ a1, a2, a3, a4⟩
  · obtain ⟨o2, es2, ep2, b1, b2, b3, b4, b5, b6⟩ := hd'
    have fr := I.hok.fresh (Nat.le_refl s.heap.objs.size)
    refine ⟨.ref s.heap.objs.size, _, I.laid (t' := s.toks) (o := .dT (kvT l)) (fun b u e => ?_) (Nat.le_refl _) ?_, rfl, q _ fr⟩
    · have ne : b ≠ s.heap.objs.size := fun z => absurd (Heap.lt_size e) (by rw [z]; exact Nat.lt_irrefl _)
      exact (hsm.2 b ne).trans (Heap.get?_push_of_some _ e)
    · exact ⟨z, beq_eq_false_iff_ne.mpr (Ne.symm (Nat.ne_of_lt I.big)), ks, KT.keeps pr fun b ys e => by rw [upd_ne (ne_of_none e fr)]; exact e, o2, es2, ep2, b1, b2, b3, b4, b6⟩

/-- a table of one's own -/
def Vo.tab (V : Vo) (q0 : Addr) (l : Tab) : Vo := ⟨fun q => V.M q ∨ q = q0, fun S H => V.J S H ∧ S q0 = none ∧ ¬ V.M q0 ∧ H q0 = some (.dT (kvT l)), fun S H q ⟨j1, j2, j3, j4⟩ m => by
    rcases m with m | m
    · exact V.th S H q j1 m
    · subst m; exact ⟨⟨_, j4⟩, j2⟩,
  fun S H S' H' ⟨j1, j2, j3, j4⟩ ss sub h1 h2 => ⟨V.st S H S' H' j1 ss sub (fun q m => h1 q (.inl m)) (fun q m => h2 q (.inl m)), h2 _ (.inr rfl), j3, by rw [h1 _ (.inr rfl)]; exact j4⟩⟩
end RQ

/-! Rqq: tables of one's own asked by cells. -/
namespace RQ
open PySem PySem.Spec PyProof.Rows L2

def tat (l : Tab) (x : Int × Int) : Option Int := (l.find? fun y => decide (y.1 = x)).map (·.2)
theorem tat_pos {p : (Int × Int) × Int} {l : Tab} {x : Int × Int} (e : p.1 = x) : tat (p :: l) x = some p.2 := by simp [tat, List.find?_cons, e]
theorem tat_neg {p : (Int × Int) × Int} {l : Tab} {x : Int × Int} (e : ¬ p.1 = x) : tat (p :: l) x = tat l x := by simp [tat, List.find?_cons, e]
theorem valV_kvT : ∀ (l : Tab) (x : Int × Int), valV (kvT l) (keyT x) = (tat l x).map .int
  | [], x => rfl
  | p :: l, x => by
    have ih := valV_kvT l x
    unfold kvT at ih ⊢
    rw [List.map_cons]
    by_cases e : p.1 = x
    · rw [valV_pos (by rw [e]), tat_pos e]; rfl
    · rw [valV_neg (fun z => e (keyT_inj z)), tat_neg e]; exact ih
theorem putK_kvT {l : Tab} {x : Int × Int} {n : Int} (h : tat l x = none) : putK (kvT l) (keyT x) (.int n) = kvT (l ++ [(x, n)]) := by
  rw [putK_new _ (by rw [valV_kvT, h]; rfl)]
  unfold kvT
  rw [List.map_append]
  rfl
/-- V says that a table stands at q -/
def isTab (V : Vo) (q : Addr) (l : Tab) : Prop := ∀ S H, V.J S H → H q = some (.dT (kvT l))
/-- V says that a cell's tuple stands at b -/
def isKey (V : Vo) (b : Addr) (x : Int × Int) : Prop := ∀ S H, V.J S H → S b = some (.tup ((keyT x).map kV))
/-- what stands for good -/
def Vo.seen (V : Vo) (b : Addr) (u : HO) : Vo := ⟨V.M, fun S H => V.J S H ∧ S b = some u, fun S H q j m => V.th S H q j.1 m, fun S H S' H' j ss sub h1 h2 => ⟨V.st S H S' H' j.1 ss sub h1 h2, ss b u j.2⟩⟩
theorem tab_is {V : Vo} {q : Addr} {l : Tab} : isTab (V.tab q l) q l := fun S H j => j.2.2.2
theorem tab_under {V : Vo} {q b : Addr} {l m : Tab} (h : isTab V b m) : isTab (V.tab q l) b m := fun S H j => h S H j.1
theorem seen_is {V : Vo} {b : Addr} {x : Int × Int} : isKey (V.seen b (.tup ((keyT x).map kV))) b x := fun S H j => j.2
theorem seen_under {V : Vo} {q b : Addr} {u : HO} {m : Tab} (h : isTab V b m) : isTab (V.seen q u) b m := fun S H j => h S H j.1
theorem ints2 {K : PySem.W.Frag} {C : Addr} {S : Hp} {i j : Int} {vs : List L2.V} (r : RL K C S [.int i, .int j] vs) : vs = [.int i, .int j] := RL.of_ints (ns := [i, j]) r
section
variable {X : Cx} {C : Addr} {V : Vo} {env : List En} {o f e r c : Expr} {q b : Addr} {l : Tab} {i j z : Int} {apos tpos cpos : Pos} {k : Nat}
/-- cells.get((r, c), z) -/
theorem je_tget (hu : X.A.units + 1 < cLine) (hq : isTab V q l) (ho : JE X C V env o (· = .raw (.ref q))) (ha : JA X C V env [r, c] (· = [.int i, .int j])) (hf : JE X C V env f (· = .int z)) (m : M2 X o "get" apos (.Tuple [r, c] k tpos) f cpos := by exact ⟨rfl, rfl, rfl, rfl⟩) :
    JE X C V env (.Call (.Attribute o "get" apos) [.Tuple [r, c] k tpos, f] [] cpos) (· = .int ((tat l (i, j)).getD z)) :=
  (pe_dget2 hu ho (pe_tup ha) hf m).weak fun σ H Q ⟨S, ok, kk⟩ => ⟨S, ok, fun d v S1 H1 e1 g1 j1 r1 => by
    subst e1
    rw [R.raw_iff] at r1
    subst r1
    refine ⟨q, rfl, .inr ⟨_, .inl (hq _ _ j1)⟩, S1, ok.gr g1 j1, fun ds vs S2 H2 e2 g2 j2 r2 => ?_⟩
    subst e2
    have ev := ints2 r2
    subst ev
    refine ⟨by exact Nat.le_of_ble_eq_true rfl, fun p hp => ?_⟩
    have g3 : Gr V.M S2 H2 S2 (upd H2 p (.tup [.int i, .int j])) := .mine g2.sub hp
    have j3 := V.gr0 (Gr.mine (o := .tup [.int i, .int j]) g2.sub hp) j2
    refine ⟨S2, (ok.gr (g1.trans g2) j2).gr g3 j3, fun dz vz S4 H4 e4 g4 j4 r4 => ?_⟩
    subst e4
    rw [R.int_iff] at r4
    subst r4
    have hb : H4 p = some (.tup ((keyT (i, j)).map kV)) := g4.h p _ (V.new hp j2) upd_same
    refine ⟨_, DGet.t (k := keyT (i, j)) (hq _ _ j4) hb, ?_⟩
    rw [valV_kvT]
    refine kk (.int ((tat l (i, j)).getD z)) _ S4 H4 rfl (((g1.trans g2).trans g3).trans g4) j4 ?_
    cases tat l (i, j) with
    | none => exact R.int_iff.mpr rfl
    | some n => exact R.int_iff.mpr rfl⟩
/-- cell in cells -/
theorem jt_tin (hu : X.A.units + 1 < cLine) (hq : isTab V q l) (hb : isKey V b (i, j)) (hi : JE X C V env e (· = .raw (.ref b))) (ho : JE X C V env o (· = .raw (.ref q))) (hm : behindInMarks .In o = false := by rfl) : JT X C V env (.Compare e [.In] [o] cpos) (· = (tat l (i, j)).isSome) :=
  (pt_cmp (pc_din hu hi ho) hm).weak fun σ H Q ⟨S, ok, kk⟩ => ⟨S, ok, fun d v S1 H1 e1 g1 j1 r1 => by
    subst e1
    rw [R.raw_iff] at r1
    subst r1
    refine ⟨S1, ok.gr g1 j1, fun d2 v2 S2 H2 e2 g2 j2 r2 => ?_⟩
    subst e2
    rw [R.raw_iff] at r2
    subst r2
    refine ⟨q, _, rfl, DGet.t (k := keyT (i, j)) (hq _ _ j2) (g2.sub _ _ (hb _ _ j2)), (tat l (i, j)).isSome, ?_, kk _ S2 H2 rfl (g1.trans g2) j2⟩
    rw [valV_kvT, Option.isSome_map]⟩
end
end RQ

/-! Rqr: for, lists and tables of one's own, in defs that change and make. -/
namespace RQ
open PySem PySem.Spec PyProof.Rows L2

theorem Zh.over {K : PySem.W.Frag} {C : Addr} {A : Ah} {V V' : Vo} {S H S' H' : Hp} {σ σ' : L2.St} {env env' : List En} (z : Zh K C A V S H σ env) (z4 : Zh K C ⟨V.M, S, H⟩ V' S' H' σ' env') : Zh K C A V' S' H' σ' env' :=
  ⟨z4.ok, z.gr.am z4.gr z.le, fun q m => (z4.le q m).elim (z.le q) fun w => .inr (z.gr.back w)⟩
section
variable {X : Cx} {C : Addr} {T : Tx} {A : Ah} {V : Vo} {env : List En} {tg iter : Expr} {pos : Pos} {N : List En → Vo → Prop} {Rt : D → Vo → Prop} {W : WX} {Et : Err → Vo → Prop} {body : List Stmt} {Φl : List D → Prop} {bind : List En → D → List En → Prop}
theorem g_for (I : List D → Nat → List En → Vo → Prop) (hp : PassesOwn (model X.prog X.w) X.A X.env X.xe) (hc : X.calm = true) (hi : JI X C V env tg iter Φl) (hg : PG X tg (gJ X.K C bind))
    (hbd : ∀ ds i d envI VI, Φl ds → ds[i]? = some d → I ds i envI VI → ∃ envB, bind envI d envB) (h0 : ∀ ds, Φl ds → I ds 0 env V) (hn : ∀ ds envI VI, Φl ds → I ds ds.length envI VI → N envI VI)
    (hb : ∀ q : Ah × List D × Nat × D × List En × Vo × List En, (Φl q.2.1 ∧ q.2.1[q.2.2.1]? = some q.2.2.2.1 ∧ I q.2.1 q.2.2.1 q.2.2.2.2.1 q.2.2.2.2.2.1 ∧ bind q.2.2.2.2.1 q.2.2.2.1 q.2.2.2.2.2.2) → JHg X C T q.1 q.2.2.2.2.2.1 q.2.2.2.2.2.2 body (I q.2.1 (q.2.2.1 + 1)) Rt W Et)
    (hs : ∀ x, foldedSetIterable iter X.env x = pure x := by intro _; rfl) : JHtg X C T A V env (.For tg iter body [] pos) N Rt W Et :=
  (ps_for hp hc hi hg (pss_fam hb) hs).weak fun D σ H ⟨S, o, k1, k2, k3⟩ => ⟨S, o.ok, fun ds J S1 H1 p1 g1 j1 wk => by
    exact ⟨fun i m σ' H' => m = ds.length - i ∧ i ≤ ds.length ∧ ∃ S' envI VI, Same S1 S' ∧ Zh X.K C A VI S' H' σ' envI ∧ I ds i envI VI,
      ⟨ds.length, by omega, by omega, S1, env, V, .refl _, o.step g1 j1 (o.ok.rs.mono g1.s), h0 ds p1⟩, fun i m σ' H' ⟨em, hi, S', envI, VI, ss, z', hI⟩ => by
      by_cases hlt : i < ds.length
      · refine .inr ⟨wk.go i H' (ss.trans z'.ok.sub) hlt, fun σ2 H2 => i + 1 ≤ ds.length ∧ ∃ S2 envI VI, Same S1 S2 ∧ Zh X.K C A VI S2 H2 σ2 envI ∧ I ds (i + 1) envI VI, fun σ2 H2 ⟨hl, q⟩ => ⟨ds.length - (i + 1), by omega, rfl, hl, q⟩, fun x H2 y => ?_⟩
        have hd : ds[i]? = some ds[i] := List.getElem?_eq_getElem hlt
        obtain ⟨S2, g2, r2⟩ := wk.yld i ds[i] S' H' x H2 ss z'.ok.sub hd y
        obtain ⟨envB, hB⟩ := hbd ds i ds[i] envI VI p1 hd hI
        refine ⟨S2, ds[i], envI, envB, g2.sub, z'.ok.rs.mono g2.s, r2, hB, fun σ3 rs3 => ?_⟩
        have z2 := z'.step g2.up0 (VI.gr0 g2 z'.ok.j) rs3
        exact ⟨(⟨VI.M, S2, H2⟩, ds, i, ds[i], envI, VI, envB), ⟨p1, hd, hI, hB⟩, S2, ⟨z2.ok, .refl z2.ok.sub, fun q m => .inl m⟩,
          fun env' V' σ4 S4 H4 n4 z4 => ⟨by omega, S4, env', V', (ss.trans g2.s).trans z4.gr.s, z2.over z4, n4⟩,
          fun d V' v S4 H4 p l g j r => k2 d V' v S4 H4 p (fun q m => (l q m).elim (z2.le q) fun w => .inr (z2.gr.back w)) (z2.gr.am g z2.le) j r,
          fun er V' cls dd σ4 S4 H4 p g j r => k3 er V' cls dd σ4 S4 H4 p (z2.gr.am g z2.le) j r⟩
      · have e : i = ds.length := by omega
        subst e
        exact .inl ⟨wk.stop _ H' (ss.trans z'.ok.sub) (Nat.le_refl _), k1 envI VI σ' S' H' (hn ds envI VI p1 hI) z'⟩⟩⟩
end
section
variable {X : Cx} {C : Addr} {T : Tx} {A : Ah} {V : Vo} {env : List En} {e o ix : Expr} {es : List Expr} {Φ : D → Prop} {Φs : List D → Prop} {pos p1 pos' : Pos} {d : D} {ds : List D} {N : List En → Vo → Prop} {Rt : D → Vo → Prop} {W : WX} {Et : Err → Vo → Prop} {rest : List Stmt} {p q b : Addr} {i : Nat} {n : Str} {l : Tab} {x y z : Int}
/-- x = [..] -/
theorem g_own (hN : X.N.Nodup) (hi : X.N[i]? = some n) (hx : Loc X.env.scope n) (ha : JA X C V env es (· = ds)) (hz : ds.length ≤ 1000000) (hr : ∀ p, JHg X C T A (V.own X.K C p ds) (env.set i (.d (.raw (.ref p)))) rest N Rt W Et) (hs : swapsWith (.List es p1) (some (.Name n pos')) pos.line X.env = pure false := by rfl)
    (hf : X.fn n = true ∨ X.env.scope.names.lookup n = some .local := by first | exact .inl rfl | exact .inr rfl | assumption) : JHg X C T A V env (.Assign [.Name n pos'] (.List es p1) pos :: rest) N Rt W Et :=
  (pss_cons (ps_set hN hi hx (pe_lst ha) hs hf) (pss_fam (P := fun _ : Addr => True) fun p _ => hr p)).weak fun D σ H ⟨S, zh, k1, k2, k3⟩ => ⟨S, zh.ok, fun ds' vs S1 H1 e g j r => by
    subst e
    refine ⟨by rw [r.length]; exact small hz, fun p hp => ?_⟩
    have sp : S1 p = none := by
      cases w : S1 p with
      | none => rfl
      | some u => rw [g.sub p u w] at hp; cases hp
    have nm := V.new hp j
    have z1 := zh.step g j (zh.ok.rs.mono g.s)
    have g2 : Gr V.M S1 H1 S1 (upd H1 p (.lst vs)) := Gr.mine g.sub hp
    exact ⟨p, True.intro, S1, ⟨⟨g2.sub, ⟨V.gr0 (Gr.mine g.sub hp) j, sp, nm, vs, upd_same, r⟩, (zh.ok.rs.mono g.s).setD i (R.raw_iff.mpr rfl)⟩, z1.gr.am g2 z1.le, fun q m => m.elim (zh.le q) fun e => .inr (z1.gr.back (by rw [e]; exact hp))⟩, k1, k2, k3⟩⟩
/-- t[b] = e -/
theorem g_tput (hu : X.A.units + 1 < cLine) (ho : JE X C (V.tab q l) env o (· = .raw (.ref q))) (hk : isKey V b (x, y)) (hi : JE X C (V.tab q l) env ix (· = .raw (.ref b))) (hv : JE X C (V.tab q l) env e (· = .int z)) (few : l.length < 1000000) (hn : tat l (x, y) = none)
    (hr : JHg X C T A (V.tab q (l ++ [((x, y), z)])) env rest N Rt W Et) (hs : swapsWith e (some (.Subscript o ix pos')) pos.line X.env = pure false := by rfl) : JHg X C T A (V.tab q l) env (.Assign [.Subscript o ix pos'] e pos :: rest) N Rt W Et :=
  (pss_cons (ps_dput hu ho hi hv hs) hr).weak fun D σ H ⟨S, zh, k1, k2, k3⟩ => ⟨S, zh.ok, fun d1 u S1 H1 e1 g1 j1 r1 => by
    subst e1
    rw [R.int_iff] at r1
    subst r1
    have z1 := zh.step g1 j1 (zh.ok.rs.mono g1.s)
    refine ⟨S1, z1.ok, fun d2 v2 S2 H2 e2 g2 j2 r2 => ?_⟩
    subst e2
    rw [R.raw_iff] at r2
    subst r2
    have z2 := z1.step g2 j2 (z1.ok.rs.mono g2.s)
    refine ⟨S2, z2.ok, fun d3 v3 S3 H3 e3 g3 j3 r3 => ?_⟩
    subst e3
    rw [R.raw_iff] at r3
    subst r3
    have z3 := z2.step g3 j3 (z2.ok.rs.mono g3.s)
    obtain ⟨q1, q2, q3, q4⟩ := j3
    have hb := hk _ _ q1
    refine ⟨q, _, rfl, DPut.t (k := keyT (x, y)) q4 (g3.sub _ _ hb) (by unfold kvT; rw [List.length_map]; exact Nat.lt_of_lt_of_le few (small (Nat.le_refl _))), ?_⟩
    rw [putK_kvT hn]
    have g : Gr (V.tab q l).M S3 H3 S3 (upd H3 q (.dT (kvT (l ++ [((x, y), z)])))) := .put g3.sub (.inr rfl) q2
    exact ⟨S3, ⟨⟨g.sub, ⟨V.mut q3 q2 g3.sub q1, q2, q3, upd_same⟩, z3.ok.rs⟩, z3.gr.am g z3.le, z3.le⟩, k1, k2, k3⟩⟩
end
end RQ

/-! Rqs: x.append(e), x = dict(t) in defs that change and make; a list and a table of one's own change places. -/
namespace RQ
open PySem PySem.Spec PyProof.Rows L2

section
variable {V : Vo} {K : PySem.W.Frag} {C p q a : Addr} {ds : List D} {l : Tab} {S H : Hp}
theorem own_tab (j : ((V.tab q l).own K C p ds).J S H) : ((V.own K C p ds).tab q l).J S H := by
  obtain ⟨⟨j1, j2, j3, j4⟩, i2, i3, i4⟩ := j
  exact ⟨⟨j1, i2, fun m => i3 (.inl m), i4⟩, j2, fun m => m.elim j3 fun e => i3 (.inr e.symm), j4⟩
theorem own_tabM {r : Addr} (m : ((V.own K C p ds).tab q l).M r) : ((V.tab q l).own K C p ds).M r := by
  rcases m with (m | m) | m
  · exact .inl (.inl m)
  · exact .inr m
  · exact .inl (.inr m)
theorem tab_own (j : ((V.own K C p ds).tab q l).J S H) : ((V.tab q l).own K C p ds).J S H := by
  obtain ⟨⟨j1, i2, i3, i4⟩, j2, j3, j4⟩ := j
  exact ⟨⟨j1, j2, fun m => j3 (.inl m), j4⟩, i2, fun m => m.elim i3 fun e => j3 (.inr e.symm), i4⟩
theorem tab_ownM {r : Addr} (m : ((V.tab q l).own K C p ds).M r) : ((V.own K C p ds).tab q l).M r := by
  rcases m with (m | m) | m
  · exact .inl (.inl m)
  · exact .inr m
  · exact .inl (.inr m)
end
section
variable {X : Cx} {C : Addr} {T : Tx} {A : Ah} {V : Vo} {env : List En} {e : Expr} {pos p1 pos' cpos : Pos} {d : D} {ds : List D} {N : List En → Vo → Prop} {Rt : D → Vo → Prop} {W : WX} {Et : Err → Vo → Prop} {rest : List Stmt} {p q b : Addr} {i : Nat} {n : Str} {l : Tab}
/-- x.append(e); hd: pe_bm .. mt_append (pv i) (pa_cons e pa_nil) -/
theorem g_app {ce : Expr} (he : env[i]? = some (.d (.raw (.ref p)))) (hd : PE X ce (tBM X.K "list" rAppend (tVar i) (tCons (tJ X.K C (V.own X.K C p ds) env (· = d)) tNil))) (hz : ds.length < 1000000) (hr : JHg X C T A (V.own X.K C p (ds ++ [d])) env rest N Rt W Et) (hs : swapsWith ce none pos.line X.env = pure false := by rfl) :
    JHg X C T A (V.own X.K C p ds) env (.Expr ce pos :: rest) N Rt W Et :=
  (pss_cons (ps_expr hd hs) hr).weak fun D σ H ⟨S, z, k1, k2, k3⟩ => by
    obtain ⟨v0, hv0, r0⟩ := z.ok.rs.getD he
    rw [R.raw_iff] at r0
    subst r0
    obtain ⟨j1, j2, j3, vs, j4, j5⟩ := z.ok.j
    refine ⟨.ref p, hv0, .inl ⟨rfl, _, SqL.of j4⟩, S, z.ok, fun d' v S1 H1 q g j r => ?_⟩
    subst q
    obtain ⟨i1, i2, i3, ws, i4, i5⟩ := j
    refine ⟨p, ws, v, rfl, rfl, i4, by rw [i5.length]; exact Nat.lt_of_lt_of_le (show ds.length < 1000000 from hz) (small (Nat.le_refl _)), ?_⟩
    have hg : Gr (V.own X.K C p ds).M S H S1 (upd H1 p (.lst (ws ++ [v]))) := ⟨g.s, fun b u w => by rw [upd_ne (ne_of_none w i2)]; exact g.sub b u w, fun b u nm w => by rw [upd_ne (fun y => nm (.inr y))]; exact g.h b u nm w, fun b u w => by
      by_cases hb : b = p
      · subst hb; exact ⟨_, upd_same⟩
      · rw [upd_ne hb]; exact g.m b u w, g.n⟩
    exact ⟨S1, ⟨⟨hg.sub, ⟨V.mut i3 i2 g.sub i1, i2, i3, _, upd_same, i5.snoc r⟩, z.ok.rs.mono g.s⟩, z.gr.am hg z.le, z.le⟩, k1, k2, k3⟩
/-- x = dict(t) -/
theorem g_dict (hu : X.A.units + 2 < cLine) (hg : Gl X "dict") (hm : X.mg "dict" = none) (hN : X.N.Nodup) (hi : X.N[i]? = some n) (hx : Loc X.env.scope n) (he : JE X C V env e (· = .raw (.ref q))) (hq : isTab V q l) (hin : ∀ x ∈ l, inT x.1) (hnd : (l.map (·.1)).Nodup)
    (hr : ∀ p, JHg X C T A (V.tab p l) (env.set i (.d (.raw (.ref p)))) rest N Rt W Et)
    (hst : starEach [e] X.env = (false, eval e X.env) :: starEach [] X.env := by rfl) (hpl : (backTo cpos (starEach [] X.env)).any (·.1) = false := by rfl)
    (hs : swapsWith (.Call (.Name "dict" p1) [e] [] cpos) (some (.Name n pos')) pos.line X.env = pure false := by rfl)
    (hf : X.fn n = true ∨ X.env.scope.names.lookup n = some .local := by first | exact .inl rfl | exact .inr rfl | assumption) : JHg X C T A V env (.Assign [.Name n pos'] (.Call (.Name "dict" p1) [e] [] cpos) pos :: rest) N Rt W Et :=
  (pss_cons (ps_set hN hi hx (pe_callTy (call_dictT hu hin hnd) hg hm rfl (pa_cons he pa_nil (hs := hst)) (he := hst) (hpl := hpl)) hs hf) (pss_fam (P := fun _ : Addr => True) fun p _ => hr p)).weak fun D σ H ⟨S, zh, k1, k2, k3⟩ => ⟨S, zh.ok, fun d v S1 H1 e1 g j r => by
    subst e1
    rw [R.raw_iff] at r
    subst r
    refine ⟨q, rfl, .inl (hq _ _ j), fun p hp => ?_⟩
    have sp : S1 p = none := by
      cases w : S1 p with
      | none => rfl
      | some u => rw [g.sub p u w] at hp; cases hp
    have nm := V.new hp j
    have z1 := zh.step g j (zh.ok.rs.mono g.s)
    have g2 : Gr V.M S1 H1 S1 (upd H1 p (.dT (kvT l))) := Gr.mine g.sub hp
    exact ⟨p, True.intro, S1, ⟨⟨g2.sub, ⟨V.gr0 (Gr.mine g.sub hp) j, sp, nm, upd_same⟩, (zh.ok.rs.mono g.s).setD i (R.raw_iff.mpr rfl)⟩, z1.gr.am g2 z1.le, fun q m => m.elim (zh.le q) fun e => .inr (z1.gr.back (by rw [e]; exact hp))⟩, k1, k2, k3⟩⟩
/-- own_tab and tab_own as steps -/
theorem g_ot {sts : List Stmt} (h : JHg X C T A ((V.own X.K C p ds).tab q l) env sts N Rt W Et) : JHg X C T A ((V.tab q l).own X.K C p ds) env sts N Rt W Et := g_weak (fun _ _ j => own_tab j) (fun _ m => own_tabM m) h
theorem g_to {sts : List Stmt} (h : JHg X C T A ((V.tab q l).own X.K C p ds) env sts N Rt W Et) : JHg X C T A ((V.own X.K C p ds).tab q l) env sts N Rt W Et := g_weak (fun _ _ j => tab_own j) (fun _ m => tab_ownM m) h
end
end RQ

/-! Rqt: a cell's tuple handed back as a key. -/
namespace RQ
open PySem PySem.Spec PyProof.Rows L2
section
variable {X : Cx} {C : Addr} {T : Tx} {A : Ah} {V : Vo} {env : List En} {e1 e2 : Expr} {pos pos' : Pos} {N : List En → Vo → Prop} {Rt : D → Vo → Prop} {W : WX} {Et : Err → Vo → Prop} {i j : Int} {k : Nat}
/-- return (e1, e2) -/
theorem g_retKey (ha : JA X C V env [e1, e2] (· = [.int i, .int j])) (hR : ∀ b, Rt (.raw (.ref b)) (V.seen b (.tup ((keyT (i, j)).map kV)))) : JHtg X C T A V env (.Return (some (.Tuple [e1, e2] k pos')) pos) N Rt W Et :=
  (ps_ret (pe_tup ha)).weak fun D σ H ⟨S, zh, k1, k2, k3⟩ => ⟨S, zh.ok, fun ds vs S1 H1 e g jj r => by
    subst e
    have ev := ints2 r
    subst ev
    refine ⟨by exact Nat.le_of_ble_eq_true rfl, fun p hp => ?_⟩
    have z1 := zh.step g jj (zh.ok.rs.mono g.s)
    have g2 : Gr V.M S1 H1 (upd S1 p (.tup [.int i, .int j])) (upd H1 p (.tup [.int i, .int j])) := .new g.sub hp
    exact k2 (.raw (.ref p)) _ (.ref p) _ _ (hR p) zh.le (z1.gr.am g2 z1.le) ⟨V.gr0 (Gr.new (o := .tup [.int i, .int j]) g.sub hp) jj, upd_same⟩ (R.raw_iff.mpr rfl)⟩
/-- a, b = e -/
theorem g_unp {is : List Nat} {ds : List D} {e : Expr} {es : List Expr} {k : Nat} {p : Pos} {rest : List Stmt} (hc : X.calm = true) (he : JE X C V env e (· = .tup ds)) (hg : PGs X es (gNs is)) (hl : ds.length = is.length) (hr : JHg X C T A V (setAll env is ds) rest N Rt W Et)
    (hn : (assignEach es X.env).length = is.length := by rfl) (hst : (assignEach es X.env).findIdx? (·.1) = none := by rfl) (hs : swapsWithSole [.Tuple es k p] e pos.line X.env = pure false := by rfl) (hw : swappedStores [.Tuple es k p] e X.env = pure none := by rfl)
    (h1 : (assignEach [.Tuple es k p] X.env).map (·.2) = [assign (.Tuple es k p) X.env] := by rfl) : JHg X C T A V env (.Assign [.Tuple es k p] e pos :: rest) N Rt W Et :=
  g_seq (jst_asgR he (jg_tup hc hg hn hst) (fun d q => ⟨_, ds, q, hl, rfl⟩) hs hw h1) fun env' ⟨d, q, ds', e1, e2, e3⟩ => by
    subst q
    cases e1
    subst e3
    exact hr
end
end RQ

/-! Rqu: lists and tables of one's own let stand, in defs that change and make. -/
namespace RQ
open PySem PySem.Spec PyProof.Rows L2
section
variable {X : Cx} {C : Addr} {T : Tx} {A : Ah} {V : Vo} {env : List En} {ds : List D} {N : List En → Vo → Prop} {Rt : D → Vo → Prop} {W : WX} {Et : Err → Vo → Prop} {sts : List Stmt} {p q : Addr} {i : Nat} {l : Tab}
theorem le_new {K : PySem.W.Frag} {S H : Hp} {σ : L2.St} {V2 : Vo} (z : Zh K C A V2 S H σ env) (m2 : V2.M p) (hM : ∀ q, A.M q → V.M q) (nm : ¬ V.M p) : A.H0 p = none := (z.le p m2).elim (fun m => absurd (hM p m) nm) id
/-- a table is let stand -/
theorem g_relT (hM : ∀ q, A.M q → V.M q) (hr : JHg X C T A (V.seen q (.dT (kvT l))) env sts N Rt W Et) : JHg X C T A (V.tab q l) env sts N Rt W Et := hr.weak fun D σ H ⟨S, z, k1, k2, k3⟩ => by
  obtain ⟨j1, j2, j3, j4⟩ := z.ok.j
  have hn : A.H0 q = none := le_new z (.inr rfl) hM j3
  have ss : Same S (upd S q (.dT (kvT l))) := fun b u w => by rw [upd_ne (ne_of_none w j2)]; exact w
  exact ⟨upd S q (.dT (kvT l)), ⟨⟨fun b u w => by
    by_cases hb : b = q
    · subst hb; rw [upd_same] at w; rw [← w]; exact j4
    · rw [upd_ne hb] at w; exact z.ok.sub b u w, ⟨V.rel j3 j2 j4 z.ok.sub j1, upd_same⟩, z.ok.rs.mono ss⟩, z.gr.rel j2 hn j4, fun b m => z.le b (.inl m)⟩, k1, k2, k3⟩
/-- a list is let stand -/
theorem g_relL (hM : ∀ q, A.M q → V.M q) (he : env[i]? = some (.d (.raw (.ref p)))) (hr : JHg X C T A V (env.set i (.d (.lst ds))) sts N Rt W Et) : JHg X C T A (V.own X.K C p ds) env sts N Rt W Et := hr.weak fun D σ H ⟨S, z, k1, k2, k3⟩ => by
  obtain ⟨v0, hv0, r0⟩ := z.ok.rs.getD he
  rw [R.raw_iff] at r0
  subst r0
  obtain ⟨j1, j2, j3, vs, j4, j5⟩ := z.ok.j
  have hn : A.H0 p = none := le_new z (.inr rfl) hM j3
  have ss : Same S (upd S p (.lst vs)) := fun b u w => by rw [upd_ne (ne_of_none w j2)]; exact w
  have rs2 : RS X.K C (upd S p (.lst vs)) σ (env.set i (.d (.lst ds))) := by
    have := (z.ok.rs.mono ss).setD i (show R X.K C (upd S p (.lst vs)) (.lst ds) (.ref p) from R.mkL upd_same (j5.mono ss))
    have e : σ.set i (some (.ref p)) = σ := by
      apply List.ext_getElem?
      intro k
      rw [List.getElem?_set]
      by_cases hk : i = k
      · subst hk
        obtain ⟨h1, h2⟩ := List.getElem?_eq_some_iff.mp hv0
        rw [if_pos rfl, if_pos h1, hv0]
      · rw [if_neg hk]
    rw [e] at this
    exact this
  exact ⟨upd S p (.lst vs), ⟨⟨fun b u w => by
    by_cases hb : b = p
    · subst hb; rw [upd_same] at w; rw [← w]; exact j4
    · rw [upd_ne hb] at w; exact z.ok.sub b u w, V.rel j3 j2 j4 z.ok.sub j1, rs2⟩, z.gr.rel j2 hn j4, fun q m => z.le q (.inl m)⟩, k1, k2, k3⟩
end
end RQ

/-! Rqv: defs that change and make, their start known; tables that stand asked by cells. -/
namespace RQ
open PySem PySem.Spec PyProof.Rows L2
section
variable {P : Program} {w : World} {K : PySem.W.Frag} {mg : Str → Option Value} {base : Heap} {C : Addr} {T : Tx}
theorem okHgM {x qual : Str} {st : Stmt} {f : Addr} {fd : FuncData} {N ps : List Str} {k : Nat} {Pm : Vo → List D → (Except Err D → Vo → Prop) → Prop} (F : Fun K x qual st f fd) (Sc : FnScope N ps (defScope st)) (hl : ∀ V ds Ψ, Pm V ds Ψ → ds.length = ps.length)
    (hb : ∀ (cdv : Value) (A' : Around) (outer : List Env) (s : Shared) (H : Hp) (E : XK) (A : Ah) (V : Vo) (ds : List D) (Ψ : Except Err D → Vo → Prop), Room k (A'.deeper (envOfC qual (defScope st) s.heap.objs.size f cdv)) → Takes (bodyX P w K mg base N qual st f cdv A' outer s H E) (fun cls d _ H' => E cls d H') → Pm V ds Ψ → (∀ q, A.M q → V.M q) →
      JHg (bodyX P w K mg base N qual st f cdv A' outer s H E) C T A V (envS N ds) (defBody st) (fun _ V' => Ψ (.ok .non) V') (fun d V' => Ψ (.ok d) V') (fun cls d _ H' => E cls d H') (fun er V' => Ψ (.error er) V')) :
    FnOk P w K mg base (L2.CX P w) (k + 1) f fd ps (spHg K C T Pm) := by
  refine F.okX Sc (fun vs H Q E ⟨S, ds, V, Ψ, h1, h2, h3, h4, _⟩ => by rw [h3.length]; exact hl V ds Ψ h4) (fun cdv A' outer s H vs Q E hr ⟨S, ds, V, Ψ, h1, h2, h3, h4, h5, h6⟩ => ?_)
  refine ⟨_, hb cdv A' outer s H E ⟨V.M, S, H⟩ V ds Ψ hr (takes_of rfl rfl rfl rfl) h4 (fun _ m => m), S, ⟨⟨h1, h2, ?_⟩, .refl h1, fun q m => .inl m⟩, fun env' V' σ' S' H' n z => h5 .non V' .non S' H' n z.le z.gr z.ok.j (R.non_iff.mpr rfl), fun d V' v S' H' n l g j r => h5 d V' v S' H' n l g j r, fun er V' cls dd σ' S' H' n g j r => h6 er V' cls dd S' H' n g j r⟩
  have := RS.start (N.length - vs.length) h3
  rw [h3.length] at this
  unfold L2.start
  rw [h3.length]
  exact this
theorem Df.fnHgM {x : Str} {st : Stmt} {N ps : List Str} {k : Nat} {Pm : Vo → List D → (Except Err D → Vo → Prop) → Prop} (d : Df K mg x st ps) (Sc : FnScope N ps (defScope st)) (hl : ∀ V ds Ψ, Pm V ds Ψ → ds.length = ps.length)
    (hb : ∀ (f : Addr) (cdv : Value) (A' : Around) (outer : List Env) (s : Shared) (H : Hp) (E : XK) (A : Ah) (V : Vo) (ds : List D) (Ψ : Except Err D → Vo → Prop), Room k (A'.deeper (envOfC x (defScope st) s.heap.objs.size f cdv)) → Takes (bodyX P w K mg base N x st f cdv A' outer s H E) (fun cls d _ H' => E cls d H') → Pm V ds Ψ → (∀ q, A.M q → V.M q) →
      JHg (bodyX P w K mg base N x st f cdv A' outer s H E) C T A V (envS N ds) (defBody st) (fun _ V' => Ψ (.ok .non) V') (fun d V' => Ψ (.ok d) V') (fun cls d _ H' => E cls d H') (fun er V' => Ψ (.error er) V')) : FnCg P w K mg base C T x (k + 1) ps Pm := by
  obtain ⟨f, fd, h1, F, h2⟩ := d.ex
  exact ⟨f, fd, h1, F.kp, h2, okHgM F Sc hl (hb f)⟩
theorem Dmt.mthgM {Cc : Addr} {m qual : Str} {st : Stmt} {N ps : List Str} {k : Nat} {Pm : Vo → List D → (Except Err D → Vo → Prop) → Prop} (d : Dmt K Cc m qual st ps) (Sc : FnScope N ps (defScope st)) (hl : ∀ V ds Ψ, Pm V ds Ψ → ds.length = ps.length)
    (hb : ∀ (f : Addr) (cdv : Value) (A' : Around) (outer : List Env) (s : Shared) (H : Hp) (E : XK) (A : Ah) (V : Vo) (ds : List D) (Ψ : Except Err D → Vo → Prop), Room k (A'.deeper (envOfC qual (defScope st) s.heap.objs.size f cdv)) → Takes (bodyX P w K mg base N qual st f cdv A' outer s H E) (fun cls d _ H' => E cls d H') → Pm V ds Ψ → (∀ q, A.M q → V.M q) →
      JHg (bodyX P w K mg base N qual st f cdv A' outer s H E) C T A V (envS N ds) (defBody st) (fun _ V' => Ψ (.ok .non) V') (fun d V' => Ψ (.ok d) V') (fun cls d _ H' => E cls d H') (fun er V' => Ψ (.error er) V')) : Mthg P w K mg base C T Cc m (k + 1) ps Pm := by
  obtain ⟨f, fd, h1, F, h2⟩ := d.ex
  exact ⟨f, fd, h1, h2, okHgM F Sc hl (hb f)⟩
end
end RQ

/-! Rqw: tables that stand asked by cells. -/
namespace RQ
open PySem PySem.Spec PyProof.Rows L2
/-- V says that a table stands for good at q -/
def isTabS (V : Vo) (q : Addr) (l : Tab) : Prop := ∀ S H, V.J S H → S q = some (.dT (kvT l))
theorem seen_tab {V : Vo} {q : Addr} {l : Tab} : isTabS (V.seen q (.dT (kvT l))) q l := fun S H j => j.2
theorem tabS_own {V : Vo} {K : PySem.W.Frag} {C p q : Addr} {l : Tab} {ds : List D} (h : isTabS V q l) : isTabS (V.own K C p ds) q l := fun S H j => h S H j.1
theorem tabS_obj {V : Vo} {K : PySem.W.Frag} {C Cc a q : Addr} {l : Tab} {fds : List (Str × D)} (h : isTabS V q l) : isTabS (V.obj K C Cc a fds) q l := fun S H j => h S H j.1
theorem tabS_seen {V : Vo} {b q : Addr} {l : Tab} {u : HO} (h : isTabS V q l) : isTabS (V.seen b u) q l := fun S H j => h S H j.1
section
variable {X : Cx} {C : Addr} {V : Vo} {env : List En} {o f e r c : Expr} {q b : Addr} {l : Tab} {i j z : Int} {apos tpos cpos : Pos} {k : Nat}
/-- cells.get((r, c), z) -/
theorem je_tgetS (hu : X.A.units + 1 < cLine) (hq : isTabS V q l) (ho : JE X C V env o (· = .raw (.ref q))) (ha : JA X C V env [r, c] (· = [.int i, .int j])) (hf : JE X C V env f (· = .int z)) (m : M2 X o "get" apos (.Tuple [r, c] k tpos) f cpos := by exact ⟨rfl, rfl, rfl, rfl⟩) :
    JE X C V env (.Call (.Attribute o "get" apos) [.Tuple [r, c] k tpos, f] [] cpos) (· = .int ((tat l (i, j)).getD z)) :=
  (pe_dget2 hu ho (pe_tup ha) hf m).weak fun σ H Q ⟨S, ok, kk⟩ => ⟨S, ok, fun d v S1 H1 e1 g1 j1 r1 => by
    subst e1
    rw [R.raw_iff] at r1
    subst r1
    refine ⟨q, rfl, .inr ⟨_, .inl (g1.sub _ _ (hq _ _ j1))⟩, S1, ok.gr g1 j1, fun ds vs S2 H2 e2 g2 j2 r2 => ?_⟩
    subst e2
    have ev := ints2 r2
    subst ev
    refine ⟨by exact Nat.le_of_ble_eq_true rfl, fun p hp => ?_⟩
    have g3 : Gr V.M S2 H2 S2 (upd H2 p (.tup [.int i, .int j])) := .mine g2.sub hp
    have j3 := V.gr0 (Gr.mine (o := .tup [.int i, .int j]) g2.sub hp) j2
    refine ⟨S2, (ok.gr (g1.trans g2) j2).gr g3 j3, fun dz vz S4 H4 e4 g4 j4 r4 => ?_⟩
    subst e4
    rw [R.int_iff] at r4
    subst r4
    have hb : H4 p = some (.tup ((keyT (i, j)).map kV)) := g4.h p _ (V.new hp j2) upd_same
    refine ⟨_, DGet.t (k := keyT (i, j)) (g4.sub _ _ (hq _ _ j4)) hb, ?_⟩
    rw [valV_kvT]
    refine kk (.int ((tat l (i, j)).getD z)) _ S4 H4 rfl (((g1.trans g2).trans g3).trans g4) j4 ?_
    cases tat l (i, j) with
    | none => exact R.int_iff.mpr rfl
    | some n => exact R.int_iff.mpr rfl⟩
/-- cell in cells -/
theorem jt_tinS (hu : X.A.units + 1 < cLine) (hq : isTabS V q l) (hb : isKey V b (i, j)) (hi : JE X C V env e (· = .raw (.ref b))) (ho : JE X C V env o (· = .raw (.ref q))) (hm : behindInMarks .In o = false := by rfl) : JT X C V env (.Compare e [.In] [o] cpos) (· = (tat l (i, j)).isSome) :=
  (pt_cmp (pc_din hu hi ho) hm).weak fun σ H Q ⟨S, ok, kk⟩ => ⟨S, ok, fun d v S1 H1 e1 g1 j1 r1 => by
    subst e1
    rw [R.raw_iff] at r1
    subst r1
    refine ⟨S1, ok.gr g1 j1, fun d2 v2 S2 H2 e2 g2 j2 r2 => ?_⟩
    subst e2
    rw [R.raw_iff] at r2
    subst r2
    refine ⟨q, _, rfl, DGet.t (k := keyT (i, j)) (g2.sub _ _ (hq _ _ j2)) (g2.sub _ _ (hb _ _ j2)), (tat l (i, j)).isSome, ?_, kk _ S2 H2 rfl (g1.trans g2) j2⟩
    rw [valV_kvT, Option.isSome_map]⟩
end
end RQ

/-! Rqx: an own list and an object change places. -/
namespace RQ
open PySem PySem.Spec PyProof.Rows L2
section
variable {V : Vo} {K : PySem.W.Frag} {C Cc p q a : Addr} {ds : List D} {fds : List (Str × D)} {S H : Hp}
theorem own_obj (j : ((V.obj K C Cc a fds).own K C p ds).J S H) : ((V.own K C p ds).obj K C Cc a fds).J S H := by
  obtain ⟨⟨j1, j2, j3, j4⟩, i2, i3, i4⟩ := j
  exact ⟨⟨j1, i2, fun m => i3 (.inl m), i4⟩, j2, fun m => m.elim j3 fun e => i3 (.inr e.symm), j4⟩
theorem own_objM {r : Addr} (m : ((V.own K C p ds).obj K C Cc a fds).M r) : ((V.obj K C Cc a fds).own K C p ds).M r := by
  rcases m with (m | m) | m
  · exact .inl (.inl m)
  · exact .inr m
  · exact .inl (.inr m)
theorem obj_own (j : ((V.own K C p ds).obj K C Cc a fds).J S H) : ((V.obj K C Cc a fds).own K C p ds).J S H := by
  obtain ⟨⟨j1, i2, i3, i4⟩, j2, j3, j4⟩ := j
  exact ⟨⟨j1, j2, fun m => j3 (.inl m), j4⟩, i2, fun m => m.elim i3 fun e => j3 (.inr e.symm), i4⟩
theorem obj_ownM {r : Addr} (m : ((V.obj K C Cc a fds).own K C p ds).M r) : ((V.own K C p ds).obj K C Cc a fds).M r := by
  rcases m with (m | m) | m
  · exact .inl (.inl m)
  · exact .inr m
  · exact .inl (.inr m)
end
end RQ

/-! Rqy: e.append(d), the list of one's own a field's. -/
namespace RQ
open PySem PySem.Spec PyProof.Rows L2
section
variable {X : Cx} {C : Addr} {T : Tx} {A : Ah} {V : Vo} {env : List En} {pos : Pos} {d : D} {ds : List D} {N : List En → Vo → Prop} {Rt : D → Vo → Prop} {W : WX} {Et : Err → Vo → Prop} {rest : List Stmt} {p : Addr}
/-- o.append(e); hd: pe_bm .. mt_append ho (pa_cons e pa_nil) -/
theorem g_appO {ce : Expr} (hd : PE X ce (tBM X.K "list" rAppend (tJ X.K C (V.own X.K C p ds) env (· = .raw (.ref p))) (tCons (tJ X.K C (V.own X.K C p ds) env (· = d)) tNil))) (hz : ds.length < 1000000) (hr : JHg X C T A (V.own X.K C p (ds ++ [d])) env rest N Rt W Et) (hs : swapsWith ce none pos.line X.env = pure false := by rfl) :
    JHg X C T A (V.own X.K C p ds) env (.Expr ce pos :: rest) N Rt W Et :=
  (pss_cons (ps_expr hd hs) hr).weak fun D σ H ⟨S0, z0, k1, k2, k3⟩ => ⟨S0, z0.ok, fun d0 v0 S H0 e0 g0 j0 r0 => by
    subst e0
    rw [R.raw_iff] at r0
    subst r0
    have z := z0.step g0 j0 (z0.ok.rs.mono g0.s)
    obtain ⟨j1, j2, j3, vs, j4, j5⟩ := z.ok.j
    refine ⟨.inl ⟨rfl, _, SqL.of j4⟩, S, z.ok, fun d' v S1 H1 q g j r => ?_⟩
    subst q
    obtain ⟨i1, i2, i3, ws, i4, i5⟩ := j
    refine ⟨p, ws, v, rfl, rfl, i4, by rw [i5.length]; exact Nat.lt_of_lt_of_le (show ds.length < 1000000 from hz) (small (Nat.le_refl _)), ?_⟩
    have hg : Gr (V.own X.K C p ds).M S H0 S1 (upd H1 p (.lst (ws ++ [v]))) := ⟨g.s, fun b u w => by rw [upd_ne (ne_of_none w i2)]; exact g.sub b u w, fun b u nm w => by rw [upd_ne (fun y => nm (.inr y))]; exact g.h b u nm w, fun b u w => by
      by_cases hb : b = p
      · subst hb; exact ⟨_, upd_same⟩
      · rw [upd_ne hb]; exact g.m b u w, g.n⟩
    exact ⟨S1, ⟨⟨hg.sub, ⟨V.mut i3 i2 g.sub i1, i2, i3, _, upd_same, i5.snoc r⟩, z.ok.rs.mono g.s⟩, z.gr.am hg z.le, z.le⟩, k1, k2, k3⟩⟩
end
end RQ

/-! Rqz: e.pop(), the list of one's own a field's. -/
namespace RQ
open PySem PySem.Spec PyProof.Rows L2
theorem RL.dropLast {K : PySem.W.Frag} {C : Addr} {S : Hp} {ds : List D} {xs : List L2.V} (h : RL K C S ds xs) : RL K C S ds.dropLast xs.dropLast := by
  rw [List.dropLast_eq_take, List.dropLast_eq_take, h.length]
  exact h.take _
section
variable {X : Cx} {C : Addr} {T : Tx} {A : Ah} {V : Vo} {env : List En} {pos : Pos} {ds : List D} {N : List En → Vo → Prop} {Rt : D → Vo → Prop} {W : WX} {Et : Err → Vo → Prop} {rest : List Stmt} {p : Addr}
/-- o.pop(); hd: pe_bm0 .. mt_pop ho -/
theorem g_popO {ce : Expr} (hd : PE X ce (tBM0 X.K "list" rPop (tJ X.K C (V.own X.K C p ds) env (· = .raw (.ref p))))) (h0 : ds ≠ []) (hr : JHg X C T A (V.own X.K C p ds.dropLast) env rest N Rt W Et) (hs : swapsWith ce none pos.line X.env = pure false := by rfl) :
    JHg X C T A (V.own X.K C p ds) env (.Expr ce pos :: rest) N Rt W Et :=
  (pss_cons (ps_expr hd hs) hr).weak fun D σ H ⟨S0, z0, k1, k2, k3⟩ => ⟨S0, z0.ok, fun d0 v0 S H0 e0 g0 j0 r0 => by
    subst e0
    rw [R.raw_iff] at r0
    subst r0
    have z := z0.step g0 j0 (z0.ok.rs.mono g0.s)
    obtain ⟨j1, j2, j3, ws, j4, j5⟩ := z.ok.j
    have hl : 0 < ws.length := by rw [j5.length]; exact List.length_pos_iff.mpr h0
    refine ⟨.inl ⟨rfl, _, SqL.of j4⟩, p, ws, _, rfl, rfl, j4, List.getElem?_eq_getElem (by omega), ?_⟩
    have hg : Gr (V.own X.K C p ds).M S H0 S (upd H0 p (.lst ws.dropLast)) := .put z.ok.sub (.inr rfl) j2
    exact ⟨S, ⟨⟨hg.sub, ⟨V.mut j3 j2 z.ok.sub j1, j2, j3, _, upd_same, RL.dropLast j5⟩, z.ok.rs⟩, z.gr.am hg z.le, z.le⟩, k1, k2, k3⟩⟩
end
end RQ

/-! RrA: tables as values; lists of one's own read; properties and len of objects of one's own. -/
namespace RQ
open PySem PySem.Spec PyProof.Rows L2
section
variable {X : Cx} {C : Addr} {T : Tx} {A : Ah} {V : Vo} {env : List En} {o f e r c a b : Expr} {q p : Addr} {l : Tab} {i j z : Int} {apos tpos cpos pos p1 p2 pos' : Pos} {k : Nat} {ds : List D} {d : D} {n : Str} {N : List En → Vo → Prop} {Rt : D → Vo → Prop} {W : WX} {Et : Err → Vo → Prop} {rest sts : List Stmt}
/-- {} -/
theorem je_tbl0 : JE X C V env (.Dict [] [] pos) (· = .tbl []) := pe_dnewT.weak fun σ H Q ⟨S, o, k⟩ => fun p hp => by
  have g : Gr M0 S H (upd S p (.dT [])) (upd H p (.dT [])) := .new o.sub hp
  exact k (.tbl []) (.ref p) _ _ rfl g.up0 (V.gr0 g o.j) (R.tbl_iff.mpr ⟨p, rfl, upd_same⟩)
/-- t.get((r, c), z) -/
theorem je_tgetD (hu : X.A.units + 1 < cLine) (ho : JE X C V env o (· = .tbl l)) (ha : JA X C V env [r, c] (· = [.int i, .int j])) (hf : JE X C V env f (· = .int z)) (m : M2 X o "get" apos (.Tuple [r, c] k tpos) f cpos := by exact ⟨rfl, rfl, rfl, rfl⟩) :
    JE X C V env (.Call (.Attribute o "get" apos) [.Tuple [r, c] k tpos, f] [] cpos) (· = .int ((tat l (i, j)).getD z)) :=
  (pe_dget2 hu ho (pe_tup ha) hf m).weak fun σ H Q ⟨S, ok, kk⟩ => ⟨S, ok, fun d v S1 H1 e1 g1 j1 r1 => by
    subst e1
    obtain ⟨q, ev, hq⟩ := R.tbl_iff.mp r1
    subst ev
    refine ⟨q, rfl, .inr ⟨_, .inl (g1.sub _ _ hq)⟩, S1, ok.gr g1 j1, fun ds vs S2 H2 e2 g2 j2 r2 => ?_⟩
    subst e2
    have ev := ints2 r2
    subst ev
    refine ⟨by exact Nat.le_of_ble_eq_true rfl, fun p hp => ?_⟩
    have g3 : Gr V.M S2 H2 S2 (upd H2 p (.tup [.int i, .int j])) := .mine g2.sub hp
    have j3 := V.gr0 (Gr.mine (o := .tup [.int i, .int j]) g2.sub hp) j2
    refine ⟨S2, (ok.gr (g1.trans g2) j2).gr g3 j3, fun dz vz S4 H4 e4 g4 j4 r4 => ?_⟩
    subst e4
    rw [R.int_iff] at r4
    subst r4
    have hb : H4 p = some (.tup ((keyT (i, j)).map kV)) := g4.h p _ (V.new hp j2) upd_same
    refine ⟨_, DGet.t (k := keyT (i, j)) (g4.sub _ _ (g4.s _ _ (g2.s _ _ hq))) hb, ?_⟩
    rw [valV_kvT]
    refine kk (.int ((tat l (i, j)).getD z)) _ S4 H4 rfl (((g1.trans g2).trans g3).trans g4) j4 ?_
    cases tat l (i, j) with
    | none => exact R.int_iff.mpr rfl
    | some n => exact R.int_iff.mpr rfl⟩
/-- V says that a list of one's own stands at p -/
def isOwn (K : PySem.W.Frag) (C : Addr) (V : Vo) (p : Addr) (ds : List D) : Prop := ∀ S H, V.J S H → ∃ xs, H p = some (.lst xs) ∧ RL K C S ds xs
section
variable {K : PySem.W.Frag} {Cc a b : Addr} {fds : List (Str × D)} {es : List D} {u : HO}
theorem own_is : isOwn K C (V.own K C p ds) p ds := fun S H j => j.2.2.2
theorem isOwn.obj (h : isOwn K C V p ds) : isOwn K C (V.obj K C Cc a fds) p ds := fun S H j => h S H j.1
theorem isOwn.own (h : isOwn K C V p ds) : isOwn K C (V.own K C q es) p ds := fun S H j => h S H j.1
theorem isOwn.tab (h : isOwn K C V p ds) : isOwn K C (V.tab q l) p ds := fun S H j => h S H j.1
theorem isOwn.seen (h : isOwn K C V p ds) : isOwn K C (V.seen q u) p ds := fun S H j => h S H j.1
end
def atD (ds : List D) (i : Int) : Option D := atI ds i
theorem RL.atI {K : PySem.W.Frag} {S : Hp} {xs : List L2.V} {z : D} (h : RL K C S ds xs) (e : atD ds i = some z) : ∃ v, L2.atI xs i = some v ∧ R K C S z v := by
  unfold atD L2.atI at e
  obtain ⟨k, hk, e⟩ := Option.bind_eq_some_iff.mp e
  obtain ⟨v, h1, h2⟩ := h.get e
  exact ⟨v, by unfold L2.atI; rw [h.length, hk]; exact h1, h2⟩
/-- e[i], a list of one's own -/
theorem je_ixO {z : D} (hp : isOwn X.K C V p ds) (ha : JE X C V env a (· = .raw (.ref p))) (hb : JE X C V env b (· = .int i)) (h : atD ds i = some z) (hs : PlainIx b := by exact fun _ _ => rfl) : JE X C V env (.Subscript a b pos) (· = z) :=
  (pe_ix ix_list ha hb hs).weak fun σ H Q ⟨S, o, k⟩ => ⟨S, o, fun d v S1 H1 e1 g1 j1 r1 => ⟨S1, o.gr g1 j1, fun d2 v2 S2 H2 e2 g2 j2 r2 => by
    subst e1 e2
    rw [R.raw_iff] at r1
    rw [R.int_iff] at r2
    subst r1 r2
    obtain ⟨xs, h1, h2⟩ := hp S2 H2 j2
    obtain ⟨w, h3, h4⟩ := h2.atI h
    exact ⟨p, xs, i, w, rfl, rfl, SqL.of h1, h3, k z w S2 H2 rfl (g1.trans g2) j2 h4⟩⟩⟩
/-- e[k:] -/
theorem je_slO (hp : isOwn X.K C V p ds) (ha : JE X C V env a (· = .raw (.ref p))) (hb : JE X C V env b (· = .int (k : Int))) (hk : k ≤ ds.length) : JE X C V env (.Subscript a (.Slice (some b) none none p2) pos) (· = .lst (ds.drop k)) :=
  (pe_slice sl_list ha (po_some hb) po_none).weak fun σ H Q ⟨S, o, q⟩ => ⟨S, o, fun d v S1 H1 p1 g1 j1 r1 => by
    subst p1
    rw [R.raw_iff] at r1
    subst r1
    refine ⟨S1, o.gr g1 j1, fun d2 v2 S2 H2 p2 g2 j2 r2 => ?_⟩
    subst p2
    rw [R.int_iff] at r2
    subst r2
    obtain ⟨xs, h1, h2⟩ := hp S2 H2 j2
    refine ⟨(k : Int), rfl, p, xs, rfl, SqL.of h1, fun p hp => ?_⟩
    have g3 : Gr M0 S2 H2 (upd S2 p (.lst (cutV xs (some (k : Int)) none))) (upd H2 p (.lst (cutV xs (some (k : Int)) none))) := .new g2.sub hp
    refine q _ _ _ _ rfl ((g1.trans g2).trans g3.up0) (V.gr0 g3 j2) (R.mkL upd_same ?_)
    have h5 := (h2.mono g3.s).drop k
    rw [← cutV_from (k := k) (by rw [h2.length]; exact hk)] at h5
    exact h5⟩
/-- len(e) -/
theorem je_lenO (zb : Zb X.mg) (hp : isOwn X.K C V p ds) (ha : JE X C V env a (· = .raw (.ref p))) (hg : Gl X "len" := by rfl) (he : starEach [a] X.env = (false, eval a X.env) :: starEach [] X.env := by rfl) (hpl : (backTo pos (starEach [] X.env)).any (·.1) = false := by rfl) :
    JE X C V env (.Call (.Name "len" p1) [a] [] pos) (· = .int ds.length) :=
  (pe_callB call_len_seq hg zb.len PySem.boot_len (ja_cons ha ja_nil he) (by decide) (by decide) he hpl).weak fun σ H Q ⟨S, o, k⟩ => ⟨S, o, fun ds' vs S1 H1 e1 g1 j1 r1 => by
    subst e1
    obtain ⟨v, rfl, r2⟩ := RL.one r1
    rw [R.raw_iff] at r2
    subst r2
    obtain ⟨xs, h1, h2⟩ := hp S1 H1 j1
    exact ⟨p, xs, rfl, .inl (SqL.of h1), k _ _ S1 H1 rfl g1 j1 (R.int_iff.mpr (by rw [h2.length]))⟩⟩
/-- a new list -/
def tNew (K : PySem.W.Frag) (C : Addr) (V : Vo) (env : List En) (ds : List D) : TE := fun σ H Q => ∃ S, Ok K C V S H σ env ∧ ∀ p vs S' H', Gr V.M S H S' H' → V.J S' H' → RL K C S' ds vs → H' p = none → Q (.ref p) (upd H' p (.lst vs))
theorem pe_newD {es : List Expr} (ha : JA X C V env es (· = ds)) (hz : ds.length ≤ 1000000) : PE X (.List es pos) (tNew X.K C V env ds) := (pe_lst ha).weak fun σ H Q ⟨S, o, k⟩ => ⟨S, o, fun ds' vs S1 H1 e g j r => by
  subst e
  exact ⟨by rw [r.length]; exact small hz, fun p hp => k p vs S1 H1 g j r hp⟩⟩
/-- list(e) -/
theorem pe_newO (zb : Zb X.mg) (hp : isOwn X.K C V p ds) (ha : JE X C V env a (· = .raw (.ref p))) (hg : Gl X "list" := by rfl) (he : starEach [a] X.env = (false, eval a X.env) :: starEach [] X.env := by rfl) (hpl : (backTo pos (starEach [] X.env)).any (·.1) = false := by rfl) :
    PE X (.Call (.Name "list" p1) [a] [] pos) (tNew X.K C V env ds) := (pe_callTy call_list_of hg zb.list (by decide +kernel) (ja_cons ha ja_nil he) (by decide) (by decide) he hpl).weak fun σ H Q ⟨S, o, k⟩ => ⟨S, o, fun ds' vs S1 H1 e g j r => by
  subst e
  obtain ⟨v, rfl, r2⟩ := RL.one r
  rw [R.raw_iff] at r2
  subst r2
  obtain ⟨xs, h1, h2⟩ := hp S1 H1 j
  exact ⟨p, xs, rfl, .inl (SqL.of h1), fun l hl => k l xs S1 H1 g j h2 hl⟩⟩
/-- o.f = e, e a new list that is one's own -/
theorem g_fldNew {Cc x : Addr} {fds : List (Str × D)} {f : Str} {ov e : Expr} (cc : Cls X.K Cc) (n : NoAttr X.K Cc f) (ho : ∀ p, JE X C ((V.own X.K C p ds).obj X.K C Cc x fds) env ov (· = .raw (.ref x))) (hv : PE X e (tNew X.K C (V.obj X.K C Cc x fds) env ds)) (few : fds.length < 1000)
    (hr : ∀ p, JHg X C T A ((V.own X.K C p ds).obj X.K C Cc x (putD f (.raw (.ref p)) fds)) env rest N Rt W Et) (hs : swapsWith e (some (.Attribute ov f pos')) pos.line X.env = pure false := by rfl) : JHg X C T A (V.obj X.K C Cc x fds) env (.Assign [.Attribute ov f pos'] e pos :: rest) N Rt W Et :=
  (pss_cons (ps_fld (pe_fam (P := fun _ : Addr => True) (t := fun p => tJ X.K C ((V.own X.K C p ds).obj X.K C Cc x fds) env (· = .raw (.ref x))) fun p _ => ho p) hv hs) (pss_fam (P := fun _ : Addr => True) fun p _ => hr p)).weak fun D σ H ⟨S, zh, k1, k2, k3⟩ => ⟨S, zh.ok, fun p vs S1 H1 g j r hp => by
    have sp : S1 p = none := by
      cases w : S1 p with
      | none => rfl
      | some u => rw [g.sub p u w] at hp; cases hp
    have nm := (V.obj X.K C Cc x fds).new hp j
    have z1 := zh.step g j (zh.ok.rs.mono g.s)
    have g2 : Gr (V.obj X.K C Cc x fds).M S1 H1 S1 (upd H1 p (.lst vs)) := Gr.mine g.sub hp
    have z2 : Zh X.K C A ((V.own X.K C p ds).obj X.K C Cc x fds) S1 (upd H1 p (.lst vs)) σ env := ⟨⟨g2.sub, own_obj ⟨(V.obj X.K C Cc x fds).gr0 (Gr.mine g.sub hp) j, sp, nm, vs, upd_same, r⟩, z1.ok.rs⟩, z1.gr.am g2 z1.le, fun q m => by
      rcases own_objM m with m | m
      · exact zh.le q m
      · exact .inr (z1.gr.back (by rw [m]; exact hp))⟩
    refine ⟨p, True.intro, S1, z2.ok, fun d2 v2 S3 H3 e2 g3 jj r2 => ?_⟩
    subst e2
    rw [R.raw_iff] at r2
    subst r2
    have z3 := z2.step g3 jj (z2.ok.rs.mono g3.s)
    obtain ⟨q1, q2, q3, dx, fs, q4, q5⟩ := jj
    exact ⟨x, Cc, dx, fs, rfl, q4, cc, n, by rw [q5.len]; exact few, p, True.intro, S3, obj_put z3 q4 q5 (R.raw_iff.mpr rfl), k1, k2, k3⟩⟩
/-- a list of one's own is forgotten -/
theorem own_drop {K : PySem.W.Frag} {es : List D} {S H : Hp} (j : ((V.own K C q es).own K C p ds).J S H) : (V.own K C p ds).J S H := ⟨j.1.1, j.2.1, fun m => j.2.2.1 (.inl m), j.2.2.2⟩
/-- x = dict(t) -/
theorem g_dictD {i : Nat} (hu : X.A.units + 2 < cLine) (hg : Gl X "dict") (hm : X.mg "dict" = none) (hN : X.N.Nodup) (hi : X.N[i]? = some n) (hx : Loc X.env.scope n) (he : JE X C V env e (· = .tbl l)) (hin : ∀ x ∈ l, inT x.1) (hnd : (l.map (·.1)).Nodup)
    (hr : ∀ p, JHg X C T A (V.tab p l) (env.set i (.d (.raw (.ref p)))) rest N Rt W Et)
    (hst : starEach [e] X.env = (false, eval e X.env) :: starEach [] X.env := by rfl) (hpl : (backTo cpos (starEach [] X.env)).any (·.1) = false := by rfl)
    (hs : swapsWith (.Call (.Name "dict" p1) [e] [] cpos) (some (.Name n pos')) pos.line X.env = pure false := by rfl)
    (hf : X.fn n = true ∨ X.env.scope.names.lookup n = some .local := by first | exact .inl rfl | exact .inr rfl | assumption) : JHg X C T A V env (.Assign [.Name n pos'] (.Call (.Name "dict" p1) [e] [] cpos) pos :: rest) N Rt W Et :=
  (pss_cons (ps_set hN hi hx (pe_callTy (call_dictT hu hin hnd) hg hm rfl (pa_cons he pa_nil (hs := hst)) (he := hst) (hpl := hpl)) hs hf) (pss_fam (P := fun _ : Addr => True) fun p _ => hr p)).weak fun D σ H ⟨S, zh, k1, k2, k3⟩ => ⟨S, zh.ok, fun d v S1 H1 e1 g j r => by
    subst e1
    obtain ⟨q, ev, hq⟩ := R.tbl_iff.mp r
    subst ev
    refine ⟨q, rfl, .inl (g.sub _ _ hq), fun p hp => ?_⟩
    have sp : S1 p = none := by
      cases w : S1 p with
      | none => rfl
      | some u => rw [g.sub p u w] at hp; cases hp
    have nm := V.new hp j
    have z1 := zh.step g j (zh.ok.rs.mono g.s)
    have g2 : Gr V.M S1 H1 S1 (upd H1 p (.dT (kvT l))) := Gr.mine g.sub hp
    exact ⟨p, True.intro, S1, ⟨⟨g2.sub, ⟨V.gr0 (Gr.mine g.sub hp) j, sp, nm, upd_same⟩, (zh.ok.rs.mono g.s).setD i (R.raw_iff.mpr rfl)⟩, z1.gr.am g2 z1.le, fun q m => m.elim (zh.le q) fun e => .inr (z1.gr.back (by rw [e]; exact hp))⟩, k1, k2, k3⟩⟩
theorem set_self {σ : L2.St} {i : Nat} {v : L2.V} (h : σ[i]? = some (some v)) : σ.set i (some v) = σ := by
  apply List.ext_getElem?
  intro k
  rw [List.getElem?_set]
  by_cases hk : i = k
  · subst hk
    obtain ⟨h1, h2⟩ := List.getElem?_eq_some_iff.mp h
    rw [if_pos rfl, if_pos h1, h]
  · rw [if_neg hk]
/-- a table is let stand -/
theorem g_relTD {i : Nat} (hM : ∀ q, A.M q → V.M q) (he : env[i]? = some (.d (.raw (.ref q)))) (hr : JHg X C T A V (env.set i (.d (.tbl l))) sts N Rt W Et) : JHg X C T A (V.tab q l) env sts N Rt W Et := hr.weak fun D σ H ⟨S, z, k1, k2, k3⟩ => by
  obtain ⟨v0, hv0, r0⟩ := z.ok.rs.getD he
  rw [R.raw_iff] at r0
  subst r0
  obtain ⟨j1, j2, j3, j4⟩ := z.ok.j
  have hn : A.H0 q = none := le_new z (.inr rfl) hM j3
  have ss : Same S (upd S q (.dT (kvT l))) := fun b u w => by rw [upd_ne (ne_of_none w j2)]; exact w
  have rs2 : RS X.K C (upd S q (.dT (kvT l))) σ (env.set i (.d (.tbl l))) := by
    have := (z.ok.rs.mono ss).setD i (show R X.K C (upd S q (.dT (kvT l))) (.tbl l) (.ref q) from R.tbl_iff.mpr ⟨q, rfl, upd_same⟩)
    rw [set_self hv0] at this
    exact this
  exact ⟨upd S q (.dT (kvT l)), ⟨⟨fun b u w => by
    by_cases hb : b = q
    · subst hb; rw [upd_same] at w; rw [← w]; exact j4
    · rw [upd_ne hb] at w; exact z.ok.sub b u w, V.rel j3 j2 j4 z.ok.sub j1, rs2⟩, z.gr.rel j2 hn j4, fun b m => z.le b (.inl m)⟩, k1, k2, k3⟩
end
end RQ

/-! RrB: properties and len of objects of one's own; objects made that bring a list of their own. -/
namespace RQ
open PySem PySem.Spec PyProof.Rows L2

/-- a getter of the class Cc -/
structure Prg (P : Program) (w : World) (K : PySem.W.Frag) (mg : Str → Option Value) (base : Heap) (C : Addr) (T : Tx) (Cc : Addr) (f : Str) (k : Nat) (Pm : Vo → List D → (Except Err D → Prop) → Prop) : Prop where
  ex : ∃ (p g : Addr) (fd : FuncData), PropOf K Cc f p g ∧ L2.Binds K fd ["self"] [] ∧ FnOk P w K mg base (L2.CX P w) k g fd ["self"] (spG K C T Pm)
/-- .. as the text writes it -/
structure Dpo (K : PySem.W.Frag) (Cc : Addr) (x qual : Str) (st : Stmt) : Prop where
  ex : ∃ (p g : Addr) (fd : FuncData), PropOf K Cc x p g ∧ L2.Binds K fd ["self"] [] ∧ Fun K x qual st g fd
/-- an own __len__ -/
structure Lng (P : Program) (w : World) (K : PySem.W.Frag) (mg : Str → Option Value) (base : Heap) (C : Addr) (T : Tx) (Cc : Addr) (k : Nat) (Pm : Vo → List D → (Except Err D → Prop) → Prop) : Prop where
  ex : ∃ (g : Addr) (fd : FuncData), PySem.W.findIn K (.ref Cc) "__len__" = some (some (.ref g)) ∧ PySem.W.isFn K (.ref g) = true ∧ L2.Binds K fd ["self"] [] ∧ FnOk P w K mg base (L2.CX P w) k g fd ["self"] (spG K C T Pm)
structure Dln (K : PySem.W.Frag) (Cc : Addr) (qual : Str) (st : Stmt) : Prop where
  ex : ∃ (g : Addr) (fd : FuncData), PySem.W.findIn K (.ref Cc) "__len__" = some (some (.ref g)) ∧ PySem.W.isFn K (.ref g) = true ∧ L2.Binds K fd ["self"] [] ∧ Fun K "__len__" qual st g fd
section
variable {P : Program} {w : World} {K : PySem.W.Frag} {mg : Str → Option Value} {base : Heap} {C : Addr} {T : Tx}
theorem Dpo.prg {Cc : Addr} {x qual : Str} {st : Stmt} {N : List Str} {k : Nat} {Pm : Vo → List D → (Except Err D → Prop) → Prop} (d : Dpo K Cc x qual st) (Sc : FnScope N ["self"] (defScope st)) (hl : ∀ V ds Ψ, Pm V ds Ψ → ds.length = 1)
    (hb : ∀ (f : Addr) (cdv : Value) (A : Around) (outer : List Env) (s : Shared) (H : Hp) (E : XK) (V : Vo) (ds : List D) (Ψ : Except Err D → Prop), Room k (A.deeper (envOfC qual (defScope st) s.heap.objs.size f cdv)) → Takes (bodyX P w K mg base N qual st f cdv A outer s H E) (fun cls d _ H' => E cls d H') → Pm V ds Ψ →
      JS (bodyX P w K mg base N qual st f cdv A outer s H E) C T V (envS N ds) (defBody st) (fun _ => Ψ (.ok .non)) (fun d => Ψ (.ok d)) (fun cls d _ H' => E cls d H') (fun er => Ψ (.error er))) : Prg P w K mg base C T Cc x (k + 1) Pm := by
  obtain ⟨p, g, fd, h1, h2, F⟩ := d.ex
  exact ⟨p, g, fd, h1, h2, def_ok F Sc hl (hb g)⟩
theorem Dln.lng {Cc : Addr} {qual : Str} {st : Stmt} {N : List Str} {k : Nat} {Pm : Vo → List D → (Except Err D → Prop) → Prop} (d : Dln K Cc qual st) (Sc : FnScope N ["self"] (defScope st)) (hl : ∀ V ds Ψ, Pm V ds Ψ → ds.length = 1)
    (hb : ∀ (f : Addr) (cdv : Value) (A : Around) (outer : List Env) (s : Shared) (H : Hp) (E : XK) (V : Vo) (ds : List D) (Ψ : Except Err D → Prop), Room k (A.deeper (envOfC qual (defScope st) s.heap.objs.size f cdv)) → Takes (bodyX P w K mg base N qual st f cdv A outer s H E) (fun cls d _ H' => E cls d H') → Pm V ds Ψ →
      JS (bodyX P w K mg base N qual st f cdv A outer s H E) C T V (envS N ds) (defBody st) (fun _ => Ψ (.ok .non)) (fun d => Ψ (.ok d)) (fun cls d _ H' => E cls d H') (fun er => Ψ (.error er))) : Lng P w K mg base C T Cc (k + 1) Pm := by
  obtain ⟨g, fd, h1, h2, h3, F⟩ := d.ex
  exact ⟨g, fd, h1, h2, h3, def_ok F Sc hl (hb g)⟩
end
/-- V says that an object of the class Cc stands at a -/
def isObj (V : Vo) (Cc a : Addr) : Prop := ∀ S H, V.J S H → ∃ dx fs, H a = some (.ins Cc dx fs)
section
variable {X : Cx} {C Cc a : Addr} {T : Tx} {V : Vo} {env : List En} {o : Expr} {f : Str} {k j : Nat} {Pm : Vo → List D → (Except Err D → Prop) → Prop} {Ψ : Except Err D → Prop} {Φ : D → Prop} {pos p1 : Pos}
theorem obj_is {K : PySem.W.Frag} {fds : List (Str × D)} : isObj (V.obj K C Cc a fds) Cc a := fun S H ⟨_, _, _, dx, fs, h4, _⟩ => ⟨dx, fs, h4⟩
/-- o.f -/
theorem je_propO (F : Prg X.prog X.w X.K X.mg X.base C T Cc f k Pm) (hr : Room j X.A) (hj : k + 1 ≤ j) (c : Cls X.K Cc) (ho : JE X C V env o (· = .raw (.ref a))) (hat : isObj V Cc a) (hP : Pm V [.raw (.ref a)] Ψ) (hE : ∀ er, ¬ Ψ (.error er)) (hO : ∀ d, Ψ (.ok d) → Φ d)
    (hb : attributeBase o f X.env (eval o X.env) = eval o X.env := by rfl) : JE X C V env (.Attribute o f pos) Φ := by
  obtain ⟨p, g, fd, h1, h2, h3⟩ := F.ex
  exact (pe_prop (E := E0) (dvs := []) ho c h1 h3 (hr.mono hj) h2 .nil passL hb).weak fun σ H Q ⟨S, o, q⟩ => ⟨S, o, fun d v S1 H1 e g j r => by
    subst e
    rw [R.raw_iff] at r
    subst r
    obtain ⟨dx, fs, h4⟩ := hat S1 H1 j
    exact ⟨a, dx, fs, rfl, h4, S1, [.raw (.ref a)], V, Ψ, g.sub, j, RL.cons (R.raw_iff.mpr rfl) RL.nil, hP, fun d v S2 H2 e2 g2 j2 r2 => q d v S2 H2 (hO d e2) (g.trans g2) j2 r2, fun er cls dd S2 H2 e2 => (hE er e2).elim⟩⟩
/-- len(o), an own __len__ -/
def rLenOwn (Cc : Addr) (sp : Sp) (E : XK) : List L2.V → Hp → VK → Prop := fun xs H Q => ∃ a dx fs, xs = [L2.V.ref a] ∧ H a = some (.ins Cc dx fs) ∧ sp [.ref a] H (fun z H' => ∃ i : Int, z = .int i ∧ (0 ≤ i ∧ i < 2 ^ 63) ∧ Q z H') E
theorem call_lenOwn {g : Addr} {n : Nat} {sp : Sp} {E : XK} (hs : PySem.W.findIn X.K (.ref Cc) "__len__" = some (some (.ref g))) (hf : PySem.W.isFn X.K (.ref g) = true) (F : FnR X.prog X.w X.K X.mg X.base (L2.CX X.prog X.w) n g sp) (hr : Room (n + 1) X.A) (hx : Passes (L2.CX X.prog X.w) X E) : CallR X (.builtin "len") (rLenOwn Cc sp E) := by
  intro pins s σ H xs us Q I r h
  obtain ⟨a, dx, fs, rfl, ha, q⟩ := h
  obtain ⟨u, rfl, ru⟩ := r.one
  cases (show u = Value.ref a from ru)
  obtain ⟨mA, O, _, _, _, _⟩ := ins_get I.hok ha
  obtain ⟨od, J, _⟩ := O.look
  obtain ⟨m, hF⟩ := I.fr
  refine PySem.W.len_K hF I.ok.mod.kin J hs hf (wpAny_mono (wpAny_call (SlX.run_at (us := [.ref a]) (ws := [.ref a]) F hr.in1 I.env0.in1 hx I (.cons rfl .nil) q)) (fun w s' z => ?_) fun _ _ x => x)
  obtain ⟨z', H', I', rz, i, ei, hi, qz⟩ := z
  subst ei
  obtain ⟨t, et⟩ := (show ∃ t, w = Value.int i t from rz)
  subst et
  exact ⟨hi, .int i, H', I'.tok (s'.toks + 1), ⟨_, rfl⟩, qz⟩
theorem je_lenP (zb : Zb X.mg) (F : Lng X.prog X.w X.K X.mg X.base C T Cc k Pm) (hr : Room j X.A) (hj : k + 1 ≤ j) (ho : JE X C V env o (· = .raw (.ref a))) (hat : isObj V Cc a) (hP : Pm V [.raw (.ref a)] Ψ) (hE : ∀ er, ¬ Ψ (.error er)) (hO : ∀ d, Ψ (.ok d) → Φ d) (hi : ∀ d, Ψ (.ok d) → ∃ i : Int, d = .int i ∧ 0 ≤ i ∧ i < 2 ^ 63)
    (hg : Gl X "len" := by rfl) (he : starEach [o] X.env = (false, eval o X.env) :: starEach [] X.env := by rfl) (hpl : (backTo pos (starEach [] X.env)).any (·.1) = false := by rfl) : JE X C V env (.Call (.Name "len" p1) [o] [] pos) Φ := by
  obtain ⟨g, fd, h1, h2, h3, h4⟩ := F.ex
  exact (pe_callB (call_lenOwn (E := E0) h1 h2 (h4.raw h3 .nil) (hr.mono hj) passL) hg zb.len PySem.boot_len (ja_cons ho ja_nil he) (by decide) (by decide) he hpl).weak fun σ H Q ⟨S, ok, q⟩ => ⟨S, ok, fun ds vs S1 H1 e g j r => by
    subst e
    obtain ⟨v, rfl, r2⟩ := RL.one r
    rw [R.raw_iff] at r2
    subst r2
    obtain ⟨dx, fs, h4⟩ := hat S1 H1 j
    refine ⟨a, dx, fs, rfl, h4, S1, [.raw (.ref a)], V, Ψ, g.sub, j, RL.cons (R.raw_iff.mpr rfl) RL.nil, hP, fun d v S2 H2 e2 g2 j2 r2 => ?_, fun er cls dd S2 H2 e2 => (hE er e2).elim⟩
    obtain ⟨i, ed, h⟩ := hi d e2
    subst ed
    exact ⟨i, R.int_iff.mp r2, h, q _ v S2 H2 (hO _ e2) (g.trans g2) j2 r2⟩⟩
end
/-- a class whose __init__ may make more, and may raise -/
structure Mkg (P : Program) (w : World) (K : PySem.W.Frag) (mg : Str → Option Value) (base : Heap) (C : Addr) (T : Tx) (Cc : Addr) (n : Str) (k : Nat) (ps : List Str) (Pm : List D → (Addr → Vo → Except Err D → Vo → Prop) → Prop) : Prop where
  g : mg n = some (.ref Cc)
  ex : ∃ (f : Addr) (fd : FuncData), Mk K Cc f ∧ L2.Binds K fd ps [] ∧ FnOk P w K mg base (L2.CX P w) k f fd ps (spHg K C T fun V ds Ψ => ∃ V0 a xs Θ, V = Vo.obj V0 K C Cc a [] ∧ ds = .raw (.ref a) :: xs ∧ Pm xs Θ ∧ Ψ = Θ a V0)
section
variable {X : Cx} {C Cc : Addr} {T : Tx} {V : Vo} {env : List En} {e : Expr} {es : List Expr} {n : Str} {j k : Nat} {ps : List Str} {Pm : List D → (Addr → Vo → Except Err D → Vo → Prop) → Prop} {Θ : Addr → Vo → Except Err D → Vo → Prop} {xs : List D} {p pos : Pos} {W : WX}
/-- n(..): what comes back is the object, what is raised is raised -/
theorem px_mkg (M : Mkg X.prog X.w X.K X.mg X.base C T Cc n k ps Pm) (hr : Room j X.A) (hk : k + 1 ≤ j) (tk : Takes X W) (ha : JA X C V env (e :: es) (· = xs)) (hP : Pm xs Θ) (hM : ∀ a r V', Θ a V r V' → ∀ er, r = .error er → V'.M = (V.obj X.K C Cc a []).M ∧ ∀ S H, V'.J S H → V.J S H) (hn : ∀ a d V', Θ a V (.ok d) V' → d = .non) (hg : Gl X n := by rfl)
    (hdb : (n == ("__debug__" : Str)) = false := by decide) (he : starEach (e :: es) X.env = (false, eval e X.env) :: starEach es X.env := by rfl) (hpl : (backTo pos (starEach es X.env)).any (·.1) = false := by rfl) :
    PE X (.Call (.Name n p) (e :: es) [] pos) (tXg X.K C T V env W fun r V' => ∃ a, (r = .ok (.raw (.ref a)) ∧ Θ a V (.ok .non) V') ∨ ∃ er V2, r = .error er ∧ Θ a V (.error er) V2 ∧ V' = V) := by
  obtain ⟨f, fd, m, hb, F⟩ := M.ex
  exact (pe_makeS (E := WE W) m F (hr.mono hk) hg M.g hb (fun σ => passAt tk σ) ha hdb he hpl).weak fun σ H Q ⟨S, o, k1, k2⟩ => ⟨S, o, fun ds vs S1 H1 e1 g1 j1 r1 => fun x dx hx hd hne => by
    subst e1
    have sx : S1 x = none := by
      cases z : S1 x with
      | none => rfl
      | some u => rw [g1.sub x u z] at hx; cases hx
    have gA : Gr M0 S1 H1 S1 (upd H1 dx (.own x)) := .mine g1.sub hd
    have hx2 : (upd H1 dx (.own x)) x = none := by rw [upd_ne (Ne.symm hne)]; exact hx
    have gB : Gr M0 S1 (upd H1 dx (.own x)) S1 (upd (upd H1 dx (.own x)) x (.ins Cc dx [])) := .mine gA.sub hx2
    have hx0 : H x = none := g1.back hx
    have old : ∀ {q u}, H1 q = some u → q ≠ x ∧ q ≠ dx := fun {q u} z => ⟨ne_of_none z hx, ne_of_none z hd⟩
    have up : ∀ {q u}, H1 q = some u → (upd (upd H1 dx (.own x)) x (.ins Cc dx [])) q = some u := fun {q u} z => by rw [upd_ne (old z).1, upd_ne (old z).2]; exact z
    have low : ∀ {S' H'}, Gr (V.obj X.K C Cc x []).M S1 (upd (upd H1 dx (.own x)) x (.ins Cc dx [])) S' H' → Gr V.M S1 H1 S' H' := fun {S' H'} g => ⟨g.s, g.sub, fun p u m z => g.h p u (fun y => y.elim m (old z).1) (up z), fun p u z => g.m p u (up z), fun p u z y => g.n p u (up z) y⟩
    refine ⟨S1, _, V.obj X.K C Cc x [], _, gB.sub, ⟨V.gr0 gB (V.gr0 gA j1), sx, V.new hx j1, dx, [], upd_same, rfl⟩, RL.cons (R.raw_iff.mpr rfl) r1, ⟨V, x, _, Θ, rfl, rfl, hP, rfl⟩, fun d V' v S' H' hq l g jj rr => ?_, fun er V' cls dd S' H' hq g jj rx => ?_⟩
    · have ed := hn x d V' hq
      subst ed
      refine ⟨R.non_iff.mp rr, k1 (.raw (.ref x)) V' (.ref x) S' H' ⟨x, .inl ⟨rfl, hq⟩⟩ (fun q m => ?_) (g1.trans (low g)) jj (R.raw_iff.mpr rfl)⟩
      rcases l q m with h | h
      · rcases h with h | h
        · exact .inl h
        · exact .inr (by rw [h]; exact hx0)
      · refine .inr ?_
        cases w : H q with
        | none => rfl
        | some u =>
          obtain ⟨u', w'⟩ := g1.m q u w
          rw [up w'] at h; cases h
    · obtain ⟨_, e2⟩ := hM x _ V' hq er rfl
      exact k2 er V cls dd S' H' ⟨x, .inr ⟨er, V', rfl, hq, rfl⟩⟩ (g1.trans (low g)) (e2 S' H' jj) rx⟩
end
end RQ

/-! RrC: fields of an object beneath other things of one's own; try around a call that changes. -/
namespace RQ
open PySem PySem.Spec PyProof.Rows L2
/-- V says that an object with such fields stands at a -/
def isFO (K : PySem.W.Frag) (C : Addr) (V : Vo) (Cc a : Addr) (fds : List (Str × D)) : Prop := ∀ S H, V.J S H → ∃ dx fs, H a = some (.ins Cc dx fs) ∧ FR K C S fds fs
section
variable {X : Cx} {K : PySem.W.Frag} {C Cc Cd a b q p : Addr} {V : Vo} {env : List En} {o : Expr} {fds gds : List (Str × D)} {f : Str} {z : D} {pos : Pos} {ds : List D} {l : Tab} {u : HO}
theorem fo_obj : isFO K C (V.obj K C Cc a fds) Cc a fds := fun S H j => j.2.2.2
theorem isFO.own (h : isFO K C V Cc a fds) : isFO K C (V.own K C q ds) Cc a fds := fun S H j => h S H j.1
theorem isFO.tab (h : isFO K C V Cc a fds) : isFO K C (V.tab q l) Cc a fds := fun S H j => h S H j.1
theorem isFO.seen (h : isFO K C V Cc a fds) : isFO K C (V.seen q u) Cc a fds := fun S H j => h S H j.1
theorem isFO.obj (h : isFO K C V Cc a fds) : isFO K C (V.obj K C Cd b gds) Cc a fds := fun S H j => h S H j.1
theorem isFO.is (h : isFO K C V Cc a fds) : isObj V Cc a := fun S H j => by
  obtain ⟨dx, fs, h4, _⟩ := h S H j
  exact ⟨dx, fs, h4⟩
theorem isFO.at (h : isFO K C V Cc a fds) {m : Str} (e : fds.lookup m = none) : isAt V Cc a m := fun S H j => by
  obtain ⟨dx, fs, h4, h5⟩ := h S H j
  exact ⟨dx, fs, h4, h5.none e⟩
theorem isTab_own (h : isTab V q l) : isTab (V.own K C p ds) q l := fun S H j => h S H j.1
/-- o.f -/
theorem je_fldA (h : isFO X.K C V Cc a fds) (c : Cls X.K Cc) (n : NoAttr X.K Cc f) (he : JE X C V env o (· = .raw (.ref a))) (hz : fds.lookup f = some z) (hb : attributeBase o f X.env (eval o X.env) = eval o X.env := by rfl) : JE X C V env (.Attribute o f pos) (· = z) := (pe_fld he hb).weak fun σ H Q ⟨S, o, k⟩ => ⟨S, o, fun d v S' H' e1 g jj r => by
  subst e1
  rw [R.raw_iff] at r
  subst r
  obtain ⟨dx, fs, j4, j5⟩ := h S' H' jj
  obtain ⟨v, h1, h2⟩ := j5.look hz
  exact ⟨a, Cc, dx, fs, v, rfl, j4, c, n, h1, k z v S' H' rfl g jj h2⟩⟩
end
/-! ### places change -/
section
variable {V : Vo} {K : PySem.W.Frag} {C p q b a Cc : Addr} {ds es : List D} {l : Tab} {u : HO} {S H : Hp} {fds : List (Str × D)}
theorem seen_drop (j : (V.seen b u).J S H) : V.J S H := j.1
theorem own_seen_tab (j : (((V.tab q l).own K C p ds).seen b u).J S H) : (((V.own K C p ds).seen b u).tab q l).J S H := by
  obtain ⟨j, sb⟩ := j
  have h := own_tab j
  exact ⟨⟨h.1, sb⟩, h.2.1, h.2.2.1, h.2.2.2⟩
theorem tab_seen_own (j : (((V.own K C p ds).seen b u).tab q l).J S H) : ((V.tab q l).own K C p ds).J S H := tab_own ⟨j.1.1, j.2.1, j.2.2.1, j.2.2.2⟩
theorem own_drop_obj (j : (((V.own K C q es).own K C p ds).obj K C Cc a fds).J S H) : ((V.own K C p ds).obj K C Cc a fds).J S H := ⟨own_drop j.1, j.2.1, (fun m => j.2.2.1 (m.imp .inl id)), j.2.2.2⟩
theorem own_drop_objM {r : Addr} (m : ((V.own K C p ds).obj K C Cc a fds).M r) : (((V.own K C q es).own K C p ds).obj K C Cc a fds).M r := m.imp (fun m => m.imp .inl id) id
end
/-! ### try around a call that changes -/
section
variable {X : Cx} {C : Addr} {T : Tx} {A : Ah} {V : Vo} {env : List En} {e : Expr} {n : Str} {i : Nat} {h₀ : ExceptHandler} {hds : List ExceptHandler} {pos pos' tpos : Pos} {N : List En → Vo → Prop} {Rt : D → Vo → Prop} {W : WX} {Et : Err → Vo → Prop} {EtB : Err → Prop} {Ψ : Except Err D → Vo → Prop} {cs : List Cl}
/-- try: x = e; clauses cs; an error leaves all as it was, and one of the clauses takes it -/
theorem g_tryX (hs : X.stack = X.env :: X.outer) (hf : X.env.frame = some X.env.locals) (tk : Takes X W) (hN : X.N.Nodup) (hi : X.N[i]? = some n) (hx : Loc X.env.scope n)
    (hb : ∀ (W : WX) (pn : List (Addr × Obj)) (xe : Value → Shared → Prop), Takes (X.tr pn xe) W → PE (X.tr pn xe) e (tXg X.K C T V env W Ψ)) (ho : ∀ d V', Ψ (.ok d) V' → N (env.set i (.d d)) V') (hE : ∀ er V', Ψ (.error er) V' → V' = V ∧ EtB er)
    (hh : HdsG X (h₀ :: hds) (cs.map (Cl.hd T))) (ht : ∀ er, EtB er → ∃ pre c post, cs = pre ++ c :: post ∧ (∀ c' ∈ pre, Exm X.K T er.k c'.k false) ∧ Exm X.K T er.k c.k true ∧ Sui X.K C T V env (fun e => N e V) (fun _ => False) er c)
    (hsw : ∀ pn xe, swapsWith e (some (.Name n pos')) pos.line (X.tr pn xe).env = pure false := by intro _ _; rfl)
    (hfn : X.fn n = true ∨ X.env.scope.names.lookup n = some .local := by first | exact .inl rfl | exact .inr rfl | assumption) : JHtg X C T A V env (.Try [.Assign [.Name n pos'] e pos] (h₀ :: hds) [] [] tpos) N Rt W Et :=
  (ps_try_gen (tb := fun W => fun D σ H => ∃ S, Ok X.K C V S H σ env ∧ (∀ d V' v S' H', Ψ (.ok d) V' → (∀ q, V'.M q → V.M q ∨ H q = none) → Gr V.M S H S' H' → V'.J S' H' → R X.K C S' d v → D.nx (σ.set i (some v)) H') ∧ (∀ er V' cls dd S' H', Ψ (.error er) V' → Gr V.M S H S' H' → V'.J S' H' → RX X.K C T S' H' er cls dd → W cls dd σ H')) hs hf tk
    (fun W pn xe tk' _ => (pss_one (ps_set (X := X.tr pn xe) hN hi hx (hb W pn xe tk') (hsw pn xe) hfn)).weak fun D σ H ⟨S, o, k1, k2⟩ => ⟨S, o, k1, k2⟩) hh).weak fun D σ H ⟨S, z, k1, k2, k3⟩ => ⟨S, z.ok, fun d V' v S' H' p l g j r => k1 _ V' _ S' H' (ho d V' p) (z.callg g j l ((z.ok.rs.mono g.s).setD i r)), fun er V' cls dd S' H' hE' g j rx => by
    obtain ⟨eV, hE2⟩ := hE er V' hE'
    subst eV
    obtain ⟨pre, c, post, e, h1, h2, h3⟩ := ht er hE2
    rw [e]
    exact wG_of rx.1 h1 h2 fun a ha => h3 D σ S' H' cls dd a (z.ok.gr g j) rx ha (fun env' σ' S2 H2 n2 g2 j2 r2 => k1 env' _ σ' S2 H2 n2 ((z.step g j (z.ok.rs.mono g.s)).step g2 j2 r2)) fun d v S2 H2 p2 => p2.elim⟩
/-- what only raises, and leaves all as it was -/
theorem px_onlyE {er : Err} (h : PE X e (tXg X.K C T V env W Ψ)) (hΨ : ∀ r V', Ψ r V' → r = .error er ∧ V' = V) : PE X e (tJX X.K C T V env W (.error er)) := h.weak fun σ H Q ⟨S, o, k1, k2⟩ => by
  refine ⟨S, o, fun d V' v S' H' p => ?_, fun er' V' cls dd S' H' p g j rx => ?_⟩
  · obtain ⟨h1, _⟩ := hΨ _ _ p
    cases h1
  · obtain ⟨h1, h2⟩ := hΨ _ _ p
    subst h2
    cases h1
    exact k2 _ cls dd S' H' rfl g j rx
end
end RQ

/-! RrD: rows and a list of one's own side by side. -/
namespace RQ
open PySem PySem.Spec PyProof.Rows L2
section
variable {X : Cx} {C : Addr} {T : Tx} {A : Am} {V V2 : Vo} {env : List En} {N : List En → Vo → Prop} {Rt : D → Prop} {W : WX} {Et : Err → Prop} {sts : List Stmt}
theorem z_weak (hJ : ∀ S H, V.J S H → V2.J S H) (hM : ∀ q, V2.M q → V.M q) (hU : ∀ S H, V2.J S H → A.U.J S H) (h : JZ X C T A V2 env sts N Rt W Et) : JZ X C T A V env sts N Rt W Et := h.weak fun D σ H ⟨S, z, k⟩ => ⟨S, ⟨⟨z.ok.sub, hJ _ _ z.ok.j, z.ok.rs⟩, z.gr, fun q m => z.le q (hM q m), hU⟩, k⟩
end
section
variable {V : Vo} {K : PySem.W.Frag} {C p q : Addr} {ds : List D} {S H : Hp} {qs : List Addr} {rs : List (List Int)} {r : List Int} {k : Nat}
theorem own_rows (j : ((V.rows qs rs).own K C p ds).J S H) : ((V.own K C p ds).rows qs rs).J S H := by
  obtain ⟨⟨j1, j2, j3, j4⟩, i2, i3, i4⟩ := j
  exact ⟨⟨j1, i2, (fun m => i3 (.inl m)), i4⟩, j2, fun q hq => ⟨(j3 q hq).1, fun m => m.elim (j3 q hq).2 fun e => i3 (.inr (by rw [← e]; exact hq))⟩, j4⟩
theorem own_rowsM {x : Addr} (m : ((V.own K C p ds).rows qs rs).M x) : ((V.rows qs rs).own K C p ds).M x := by
  rcases m with (m | m) | m
  · exact .inl (.inl m)
  · exact .inr m
  · exact .inl (.inr m)
theorem rows_own (j : ((V.own K C p ds).rows qs rs).J S H) : ((V.rows qs rs).own K C p ds).J S H := by
  obtain ⟨⟨j1, i2, i3, i4⟩, j2, j3, j4⟩ := j
  exact ⟨⟨j1, j2, (fun q hq => ⟨(j3 q hq).1, fun m => (j3 q hq).2 (.inl m)⟩), j4⟩, i2, (fun m => m.elim i3 fun hq => (j3 p hq).2 (.inr rfl)), i4⟩
theorem rows_ownM {x : Addr} (m : ((V.rows qs rs).own K C p ds).M x) : ((V.own K C p ds).rows qs rs).M x := by
  rcases m with (m | m) | m
  · exact .inl (.inl m)
  · exact .inr m
  · exact .inl (.inr m)
theorem rows_is (hq : qs[k]? = some q) (hr : rs[k]? = some r) : isOwn K C (V.rows qs rs) q (r.map .int) := fun S H ⟨_, _, _, _, h⟩ => ⟨_, h k q r hq hr, RL.ints r⟩
end
end RQ

/-! RrE: the law's body with objects that change. -/
namespace RQ
open PySem PySem.Spec PyProof.Rows L2
theorem takesF {X : Cx} : Takes X (fun _ _ _ _ => False) := fun u s' h => by
  obtain ⟨_, _, _, _, _, _, _, _, _, _, _, _, _, _, _, _, w⟩ := h
  exact w.elim
/-- an expression that may change what is one's own, and raises nothing -/
def tXL (K : PySem.W.Frag) (C : Addr) (V : Vo) (env : List En) (Ψ : D → Vo → Prop) : TE := fun σ H Q => ∃ S, Ok K C V S H σ env ∧ ∀ d V' v S' H', Ψ d V' → Ok K C V' S' H' σ env → R K C S' d v → Q v H'
def tTL (K : PySem.W.Frag) (C : Addr) (V : Vo) (env : List En) (Θ : Bool → Vo → Prop) : TT := fun σ H Q => ∃ S, Ok K C V S H σ env ∧ ∀ b V' S' H', Θ b V' → Ok K C V' S' H' σ env → Q b H'
theorem pw_fam {X : Cx} {e : Expr} {α : Type} {P : α → Prop} {t : α → TT} (h : ∀ a, P a → PW X e (t a)) : PW X e (fun σ H Q => ∃ a, P a ∧ t a σ H Q) := ⟨fun wh pins s σ H Q I ⟨a, p, q⟩ => (h a p).run wh pins s σ H Q I q⟩
section
variable {X : Cx} {C : Addr} {T : Tx} {V V2 : Vo} {env : List En} {e a b c : Expr} {Φ : D → Prop} {Ψ : D → Vo → Prop} {Ψe : Except Err D → Vo → Prop} {Θ Θa : Bool → Vo → Prop} {pos pos' : Pos} {x y z : D} {N : List En → Vo → Prop} {Rt : D → Prop} {rest sts As : List Stmt} {i : Nat} {n : Str} {q : Bool} {es : List Expr}
theorem xl_of (h : PE X e (tXg X.K C T V env (fun _ _ _ _ => False) Ψe)) (ho : ∀ d V', Ψe (.ok d) V' → Ψ d V') (hE : ∀ er V', ¬ Ψe (.error er) V') : PE X e (tXL X.K C V env Ψ) := h.weak fun σ H Q ⟨S, o, k⟩ => ⟨S, o, fun d V' v S' H' p _ g j r => k d V' v S' H' (ho d V' p) ⟨g.sub, j, o.rs.mono g.s⟩ r, fun er V' cls dd S' H' p g j rx => hE er V' p⟩
/-- what changes and raises nothing after all -/
theorem je_ofX (h : PE X e (tXg X.K C T V env (fun _ _ _ _ => False) Ψe)) (ho : ∀ d V', Ψe (.ok d) V' → Φ d ∧ V' = V) (hE : ∀ er V', ¬ Ψe (.error er) V') : JE X C V env e Φ := h.weak fun σ H Q ⟨S, o, k⟩ => ⟨S, o, fun d V' v S' H' p _ g j r => by
  obtain ⟨h1, h2⟩ := ho d V' p
  subst h2
  exact k d v S' H' h1 g j r, fun er V' cls dd S' H' p g j rx => hE er V' p⟩
theorem l_letXL (hN : X.N.Nodup) (hi : X.N[i]? = some n) (hx : Loc X.env.scope n) (he : PE X e (tXL X.K C V env Ψ)) (ho : ∀ d V', Ψ d V' → JL X C V' (env.set i (.d d)) rest N Rt) (hs : swapsWith e (some (.Name n pos')) pos.line X.env = pure false := by rfl)
    (hf : X.fn n = true ∨ X.env.scope.names.lookup n = some .local := by first | exact .inl rfl | exact .inr rfl | assumption) : JL X C V env (.Assign [.Name n pos'] e pos :: rest) N Rt :=
  (pss_cons (ps_set hN hi hx he hs hf) (pss_fam (P := fun q : D × Vo => Ψ q.1 q.2) fun q h => ho q.1 q.2 h)).weak fun D σ H ⟨S, o, k1, k2⟩ => ⟨S, o, fun d V' v S' H' p o' r => ⟨(d, V'), p, S', ⟨o'.sub, o'.j, o'.rs.setD i r⟩, k1, k2⟩⟩
theorem l_weak (hJ : ∀ S H, V.J S H → V2.J S H) (h : JL X C V2 env sts N Rt) : JL X C V env sts N Rt := h.weak fun D σ H ⟨S, o, k⟩ => ⟨S, ⟨o.sub, hJ _ _ o.j, o.rs⟩, k⟩
/-- if c: return False; c never so -/
theorem l_notX (hc : PT X c (tTL X.K C V env Θ)) (h : ∀ b V', Θ b V' → b = false) (hr : ∀ V', Θ false V' → JL X C V' env rest N Rt) : JL X C V env (.If c As [] pos :: rest) N Rt := by
  refine l_cons (N1 := fun e v => e = env ∧ Θ false v) ?_ fun env' V' ⟨e1, e2⟩ => by subst e1; exact hr V' e2
  refine ⟨fun pins s σ H D I hh => ?_⟩
  obtain ⟨S, o, k1, k2⟩ := hh
  refine wpAny_If (thn (hc.run pins s σ H (fun c H1 => c = false ∧ D.nx σ H1) I ⟨S, o, fun c V' S' H' q o' => by
    have e := h c V' q
    subst e
    exact ⟨rfl, k1 env V' σ S' H' ⟨rfl, q⟩ o'⟩⟩) fun d s1 ⟨H1, I1, q1⟩ => ?_)
  obtain ⟨q0, q1⟩ := q1
  subst q0
  exact pss_nil.run pins s1 σ H1 D I1 q1
theorem tl_jt (h : JT X C V env c (· = q)) : PT X c (tTL X.K C V env fun b V' => b = q ∧ V' = V) := h.weak fun σ H Q ⟨S, o, k⟩ => ⟨S, o, fun b S' H' p g j => k b V S' H' ⟨p, rfl⟩ (o.gr g j)⟩
theorem tl_ne (hu : X.A.units + 64 < cLine) (ha : PE X a (tXL X.K C V env Ψ)) (hb : ∀ d V', Ψ d V' → JE X C V' env b (· = y)) (hx : ∀ d V', Ψ d V' → okD d = true) (hy : okD y = true) (hm : behindInMarks .NotEq b = false := by rfl) : PT X (.Compare a [.NotEq] [b] pos) (tTL X.K C V env fun c V' => ∃ d, Ψ d V' ∧ c = !eqD d y) :=
  (pt_cmpR (op_neD hu) ha (pe_fam (P := fun q : D × Vo => Ψ q.1 q.2) fun q h => hb q.1 q.2 h) hm).weak fun σ H Q ⟨S, o, k⟩ => ⟨S, o, fun d V' v S1 H1 p o1 r1 => ⟨(d, V'), p, S1, o1, fun d2 v2 S2 H2 e2 g2 j2 r2 => by
    subst e2
    refine o2_ne (K := X.K) (C := C) (hx d V' p) hy S2 H2 v v2 g2.sub (r1.mono g2.s) r2 _ fun w S3 H3 g3 r3 => ?_
    exact ⟨_, R.bl_iff.mp r3, k _ V' S3 H3 ⟨d, p, rfl⟩ ((o1.gr g2 j2).gr0 g3)⟩⟩⟩
theorem tl_or {rest : List Expr} (ha : PT X a (tTL X.K C V env Θa)) (h0 : ∀ b V', Θa b V' → b = false) (hb : ∀ V', Θa false V' → JW X C V' env (.BoolOp .Or (b :: rest) pos) (· = q)) : PT X (.BoolOp .Or (a :: b :: rest) pos) (tTL X.K C V env fun c V' => Θa false V' ∧ c = q) :=
  (pw_or ha (pw_fam (P := fun V' => Θa false V') hb)).pt.weak fun σ H Q ⟨S, o, k⟩ => ⟨S, o, fun c V' S1 H1 p o1 => by
    have e := h0 c V' p
    subst e
    exact iteF ⟨V', p, S1, o1, fun c' S2 H2 e2 g2 j2 => k c' V' S2 H2 ⟨p, e2⟩ (o1.gr g2 j2)⟩⟩
/-- beside an object of one's own -/
theorem je_liftO {Cc x : Addr} {fds : List (Str × D)} (h : JE X C V env e Φ) : JE X C (V.obj X.K C Cc x fds) env e Φ := h.weak fun σ H Q ⟨S, o, k⟩ => by
  obtain ⟨j1, j2, j3, dx, fs, j4, j5⟩ := o.j
  exact ⟨S, ⟨o.sub, j1, o.rs⟩, fun d v S' H' q g j r => k d v S' H' q (g.up fun _ m => .inl m) ⟨j, g.n x _ j4 j2, j3, dx, fs, g.h x _ j3 j4, j5.mono g.s⟩ r⟩
/-- a[i] of a list -/
theorem je_ixN {ds : List D} {i : Int} (ha : JE X C V env a (· = .lst ds)) (hb : JE X C V env b (· = .int i)) (h : atD ds i = some z) (hs : PlainIx b := by exact fun _ _ => rfl) : JE X C V env (.Subscript a b pos) (· = z) :=
  je_ix ix_list ha hb hs fun x' y' e1 e2 => ⟨z, rfl, by
    subst e1 e2
    refine o2_of fun S H u v e r1 r2 => ?_
    obtain ⟨p, xs, e1, h1, h2⟩ := R.lstL r1
    rw [R.int_iff] at r2
    subst e1 r2
    obtain ⟨w, h3, h4⟩ := h2.atI h
    exact ⟨w, h4, fun Q q => ⟨p, xs, _, w, rfl, rfl, e.seq h1, h3, q⟩⟩⟩
end
section
variable {V : Vo} {K : PySem.W.Frag} {C a a2 q q2 Cc Cd : Addr} {ds ds2 : List D} {f f2 : List (Str × D)} {S H : Hp}
/-- two objects, each with a list: they change places, one is forgotten -/
theorem swap4 (j : ((((V.own K C q ds).obj K C Cc a f).own K C q2 ds2).obj K C Cd a2 f2).J S H) : ((((V.own K C q2 ds2).obj K C Cd a2 f2).own K C q ds).obj K C Cc a f).J S H := by
  obtain ⟨⟨⟨⟨jb, sq, nq, lq⟩, sa, na, la⟩, sq2, nq2, lq2⟩, sa2, na2, la2⟩ := j
  refine ⟨⟨⟨⟨jb, sq2, fun m => nq2 (.inl (.inl m)), lq2⟩, sa2, (fun m => m.elim (fun m => na2 (.inl (.inl (.inl m)))) fun e => na2 (.inr e)), la2⟩, sq, ?_, lq⟩, sa, ?_, la⟩
  · rintro ((m | m) | m)
    · exact nq m
    · exact nq2 (.inl (.inr m.symm))
    · exact na2 (.inl (.inl (.inr m.symm)))
  · rintro (((m | m) | m) | m)
    · exact na (.inl m)
    · exact nq2 (.inr m.symm)
    · exact na2 (.inl (.inr m.symm))
    · exact na (.inr m)
theorem drop4 (j : ((((V.own K C q ds).obj K C Cc a f).own K C q2 ds2).obj K C Cd a2 f2).J S H) : ((V.own K C q2 ds2).obj K C Cd a2 f2).J S H := by
  obtain ⟨⟨⟨⟨jb, sq, nq, lq⟩, sa, na, la⟩, sq2, nq2, lq2⟩, sa2, na2, la2⟩ := j
  exact ⟨⟨jb, sq2, (fun m => nq2 (.inl (.inl m))), lq2⟩, sa2, (fun m => m.elim (fun m => na2 (.inl (.inl (.inl m)))) fun e => na2 (.inr e)), la2⟩
end
end RQ

namespace LW
open PySem PySem.Spec PyProof.Rows L2 RQ
local macro_rules
  | `(tactic| walk_at "p") => `(tactic| repeat' (first | exact rfl | assumption | omega | apply Exists.intro | apply And.intro))
def topS (i : Nat) : Stmt := PySem.Challenge.pw_ringsquares_k10_whole_painters.main.body.getD i (.Pass ⟨0, 0, 0, 0⟩)
abbrev s_InvalidPart_init : Stmt := inClass (topS 2) 0
abbrev n_InvalidPart_init : List Str := ["self", "part"]
theorem sc_InvalidPart_init : FnScope n_InvalidPart_init ["self", "part"] (defScope s_InvalidPart_init) := ⟨rfl, rfl, rfl, by decide +kernel, rfl, by decide +kernel, by decide +kernel⟩
abbrev s_is_integer : Stmt := topS 9
abbrev n_is_integer : List Str := ["value", "least", "most"]
theorem sc_is_integer : FnScope n_is_integer ["value", "least", "most"] (defScope s_is_integer) := ⟨rfl, rfl, rfl, by decide +kernel, rfl, by decide +kernel, by decide +kernel⟩
abbrev s_is_start : Stmt := topS 10
abbrev n_is_start : List Str := ["value", "word"]
theorem sc_is_start : FnScope n_is_start ["value"] (defScope s_is_start) := ⟨rfl, rfl, rfl, by decide +kernel, rfl, by decide +kernel, by decide +kernel⟩
abbrev s_is_turn : Stmt := topS 11
abbrev n_is_turn : List Str := ["value", "own"]
theorem sc_is_turn : FnScope n_is_turn ["value"] (defScope s_is_turn) := ⟨rfl, rfl, rfl, by decide +kernel, rfl, by decide +kernel, by decide +kernel⟩
abbrev s_is_step : Stmt := topS 12
abbrev n_is_step : List Str := ["value"]
theorem sc_is_step : FnScope n_is_step ["value"] (defScope s_is_step) := ⟨rfl, rfl, rfl, by decide +kernel, rfl, by decide +kernel, by decide +kernel⟩
abbrev s_Fill_init : Stmt := inClass (topS 13) 1
abbrev n_Fill_init : List Str := ["self", "start", "step", "turn"]
theorem sc_Fill_init : FnScope n_Fill_init ["self", "start", "step", "turn"] (defScope s_Fill_init) := ⟨rfl, rfl, rfl, by decide +kernel, rfl, by decide +kernel, by decide +kernel⟩
abbrev s_Fill_start : Stmt := inClass (topS 13) 2
abbrev n_Fill_start : List Str := ["self"]
theorem sc_Fill_start : FnScope n_Fill_start ["self"] (defScope s_Fill_start) := ⟨rfl, rfl, rfl, by decide +kernel, rfl, by decide +kernel, by decide +kernel⟩
abbrev s_Fill_step : Stmt := inClass (topS 13) 3
abbrev n_Fill_step : List Str := ["self"]
theorem sc_Fill_step : FnScope n_Fill_step ["self"] (defScope s_Fill_step) := ⟨rfl, rfl, rfl, by decide +kernel, rfl, by decide +kernel, by decide +kernel⟩
abbrev s_Fill_turn : Stmt := inClass (topS 13) 4
abbrev n_Fill_turn : List Str := ["self"]
theorem sc_Fill_turn : FnScope n_Fill_turn ["self"] (defScope s_Fill_turn) := ⟨rfl, rfl, rfl, by decide +kernel, rfl, by decide +kernel, by decide +kernel⟩
abbrev s_Fill_eq : Stmt := inClass (topS 13) 5
abbrev n_Fill_eq : List Str := ["self", "other"]
theorem sc_Fill_eq : FnScope n_Fill_eq ["self", "other"] (defScope s_Fill_eq) := ⟨rfl, rfl, rfl, by decide +kernel, rfl, by decide +kernel, by decide +kernel⟩
abbrev s_parts_of : Stmt := topS 14
abbrev n_parts_of : List Str := ["fill"]
theorem sc_parts_of : FnScope n_parts_of ["fill"] (defScope s_parts_of) := ⟨rfl, rfl, rfl, by decide +kernel, rfl, by decide +kernel, by decide +kernel⟩
abbrev s_spot_of : Stmt := topS 15
abbrev n_spot_of : List Str := ["word", "n"]
theorem sc_spot_of : FnScope n_spot_of ["word", "n"] (defScope s_spot_of) := ⟨rfl, rfl, rfl, by decide +kernel, rfl, by decide +kernel, by decide +kernel⟩
abbrev s_begin_of : Stmt := topS 16
abbrev n_begin_of : List Str := ["fill", "n"]
theorem sc_begin_of : FnScope n_begin_of ["fill", "n"] (defScope s_begin_of) := ⟨rfl, rfl, rfl, by decide +kernel, rfl, by decide +kernel, by decide +kernel⟩
abbrev s_shift_of : Stmt := topS 17
abbrev n_shift_of : List Str := ["fill"]
theorem sc_shift_of : FnScope n_shift_of ["fill"] (defScope s_shift_of) := ⟨rfl, rfl, rfl, by decide +kernel, rfl, by decide +kernel, by decide +kernel⟩
abbrev s_look_at_size : Stmt := topS 20
abbrev n_look_at_size : List Str := ["n", "most"]
theorem sc_look_at_size : FnScope n_look_at_size ["n", "most"] (defScope s_look_at_size) := ⟨rfl, rfl, rfl, by decide +kernel, rfl, by decide +kernel, by decide +kernel⟩
abbrev s_own_cell : Stmt := topS 21
abbrev n_own_cell : List Str := ["fill", "n", "number", "row", "column", "turns", "steps", "more", "down", "right"]
theorem sc_own_cell : FnScope n_own_cell ["fill", "n", "number"] (defScope s_own_cell) := ⟨rfl, rfl, rfl, by decide +kernel, rfl, by decide +kernel, by decide +kernel⟩
abbrev s_Painter_init : Stmt := inClass (topS 23) 0
abbrev n_Painter_init : List Str := ["self", "fill", "n"]
theorem sc_Painter_init : FnScope n_Painter_init ["self", "fill", "n"] (defScope s_Painter_init) := ⟨rfl, rfl, rfl, by decide +kernel, rfl, by decide +kernel, by decide +kernel⟩
abbrev s_Painter_rows : Stmt := inClass (topS 23) 1
abbrev n_Painter_rows : List Str := ["self"]
theorem sc_Painter_rows : FnScope n_Painter_rows ["self"] (defScope s_Painter_rows) := ⟨rfl, rfl, rfl, by decide +kernel, rfl, by decide +kernel, by decide +kernel⟩
abbrev s_Painter_last : Stmt := inClass (topS 23) 2
abbrev n_Painter_last : List Str := ["self", "many"]
theorem sc_Painter_last : FnScope n_Painter_last ["self"] (defScope s_Painter_last) := ⟨rfl, rfl, rfl, by decide +kernel, rfl, by decide +kernel, by decide +kernel⟩
abbrev s_Painter_clashes : Stmt := inClass (topS 23) 3
abbrev n_Painter_clashes : List Str := ["self"]
theorem sc_Painter_clashes : FnScope n_Painter_clashes ["self"] (defScope s_Painter_clashes) := ⟨rfl, rfl, rfl, by decide +kernel, rfl, by decide +kernel, by decide +kernel⟩
abbrev s_Painter_len : Stmt := inClass (topS 23) 4
abbrev n_Painter_len : List Str := ["self"]
theorem sc_Painter_len : FnScope n_Painter_len ["self"] (defScope s_Painter_len) := ⟨rfl, rfl, rfl, by decide +kernel, rfl, by decide +kernel, by decide +kernel⟩
abbrev s_Painter_go : Stmt := inClass (topS 23) 5
abbrev n_Painter_go : List Str := ["self", "many", "before", "cells", "clashes", "found", "number", "cell"]
theorem sc_Painter_go : FnScope n_Painter_go ["self", "many"] (defScope s_Painter_go) := ⟨rfl, rfl, rfl, by decide +kernel, rfl, by decide +kernel, by decide +kernel⟩
abbrev s_Painter_undo : Stmt := inClass (topS 23) 6
abbrev n_Painter_undo : List Str := ["self"]
theorem sc_Painter_undo : FnScope n_Painter_undo ["self"] (defScope s_Painter_undo) := ⟨rfl, rfl, rfl, by decide +kernel, rfl, by decide +kernel, by decide +kernel⟩
abbrev s_Painter_copy : Stmt := inClass (topS 23) 7
abbrev n_Painter_copy : List Str := ["self", "found"]
theorem sc_Painter_copy : FnScope n_Painter_copy ["self"] (defScope s_Painter_copy) := ⟨rfl, rfl, rfl, by decide +kernel, rfl, by decide +kernel, by decide +kernel⟩
abbrev s_rows_in : Stmt := topS 24
abbrev n_rows_in : List Str := ["painter", "cells", "n", "column", "row"]
theorem sc_rows_in : FnScope n_rows_in ["painter"] (defScope s_rows_in) := ⟨rfl, rfl, rfl, by decide +kernel, rfl, by decide +kernel, by decide +kernel⟩
abbrev s__law_mix : Stmt := topS 26
abbrev n__law_mix : List Str := ["_law_script", "_law_seed", "_law_state", "_law_cell"]
theorem sc__law_mix : FnScope n__law_mix ["_law_script", "_law_seed"] (defScope s__law_mix) := ⟨rfl, rfl, rfl, by decide +kernel, rfl, by decide +kernel, by decide +kernel⟩
abbrev s__law_next : Stmt := topS 27
abbrev n__law_next : List Str := ["_law_h", "_law_bound", "_law_cell"]
theorem sc__law_next : FnScope n__law_next ["_law_h", "_law_bound"] (defScope s__law_next) := ⟨rfl, rfl, rfl, by decide +kernel, rfl, by decide +kernel, by decide +kernel⟩
abbrev s__law_start : Stmt := topS 28
abbrev n__law_start : List Str := ["_law_h", "_law_words"]
theorem sc__law_start : FnScope n__law_start ["_law_h"] (defScope s__law_start) := ⟨rfl, rfl, rfl, by decide +kernel, rfl, by decide +kernel, by decide +kernel⟩
abbrev s__law_pair : Stmt := topS 29
abbrev n__law_pair : List Str := ["_law_h"]
theorem sc__law_pair : FnScope n__law_pair ["_law_h"] (defScope s__law_pair) := ⟨rfl, rfl, rfl, by decide +kernel, rfl, by decide +kernel, by decide +kernel⟩
abbrev s__law_fill : Stmt := topS 30
abbrev n__law_fill : List Str := ["_law_h", "_law_some", "_law_step"]
theorem sc__law_fill : FnScope n__law_fill ["_law_h"] (defScope s__law_fill) := ⟨rfl, rfl, rfl, by decide +kernel, rfl, by decide +kernel, by decide +kernel⟩
abbrev s__law_built : Stmt := topS 31
abbrev n__law_built : List Str := ["_law_t"]
theorem sc__law_built : FnScope n__law_built ["_law_t"] (defScope s__law_built) := ⟨rfl, rfl, rfl, by decide +kernel, rfl, by decide +kernel, by decide +kernel⟩
abbrev s__law_spot : Stmt := topS 32
abbrev n__law_spot : List Str := ["_law_word", "_law_n"]
theorem sc__law_spot : FnScope n__law_spot ["_law_word", "_law_n"] (defScope s__law_spot) := ⟨rfl, rfl, rfl, by decide +kernel, rfl, by decide +kernel, by decide +kernel⟩
abbrev s__law_round : Stmt := topS 33
abbrev n__law_round : List Str := ["_law_number", "_law_n"]
theorem sc__law_round : FnScope n__law_round ["_law_number", "_law_n"] (defScope s__law_round) := ⟨rfl, rfl, rfl, by decide +kernel, rfl, by decide +kernel, by decide +kernel⟩
abbrev s__law_walk : Stmt := topS 34
abbrev n__law_walk : List Str := ["_law_t", "_law_n", "_law_row", "_law_column", "_law_found", "_law_number", "_law_more"]
theorem sc__law_walk : FnScope n__law_walk ["_law_t", "_law_n"] (defScope s__law_walk) := ⟨rfl, rfl, rfl, by decide +kernel, rfl, by decide +kernel, by decide +kernel⟩
abbrev s__law_square : Stmt := topS 35
abbrev n__law_square : List Str := ["_law_t", "_law_n", "_law_row", "_law_found", "_law_k"]
theorem sc__law_square : FnScope n__law_square ["_law_t", "_law_n"] (defScope s__law_square) := ⟨rfl, rfl, rfl, by decide +kernel, rfl, by decide +kernel, by decide +kernel⟩
abbrev s__law_stand : Stmt := topS 36
abbrev n__law_stand : List Str := ["_law_row", "_law_n", "_law_many", "_law_rows", "_law_k", "_law_clashes", "_law_number", "_law_cell", "_law_one"]
theorem sc__law_stand : FnScope n__law_stand ["_law_row", "_law_n", "_law_many"] (defScope s__law_stand) := ⟨rfl, rfl, rfl, by decide +kernel, rfl, by decide +kernel, by decide +kernel⟩
abbrev s__law_done : Stmt := topS 37
abbrev n__law_done : List Str := ["_law_painter", "_law_many", "_law_told"]
theorem sc__law_done : FnScope n__law_done ["_law_painter", "_law_many"] (defScope s__law_done) := ⟨rfl, rfl, rfl, by decide +kernel, rfl, by decide +kernel, by decide +kernel⟩
abbrev s__law_opened : Stmt := topS 38
abbrev n__law_opened : List Str := ["_law_fill_here", "_law_n", "_law_told"]
theorem sc__law_opened : FnScope n__law_opened ["_law_fill_here", "_law_n"] (defScope s__law_opened) := ⟨rfl, rfl, rfl, by decide +kernel, rfl, by decide +kernel, by decide +kernel⟩
abbrev s_law : Stmt := topS 39
abbrev n_law : List Str := ["_law_script", "_law_h", "_law_t", "_law_n", "_law_row", "_law_painter", "_law_past", "_law_turn", "_law_other", "_law_many", "_law_now", "_law_due", "_law_odd"]
theorem sc_law : FnScope n_law ["_law_script"] (defScope s_law) := ⟨rfl, rfl, rfl, by decide +kernel, rfl, by decide +kernel, by decide +kernel⟩
section
variable {P : Program} {w : World} {K : PySem.W.Frag} {mg : Str → Option Value} {base : Heap} {C : Addr} {T : Tx}

def isIntD (x : D) (lo hi : Int) : Bool := match x with
  | .int i => decide (lo ≤ i) && decide (i ≤ hi)
  | _ => false
theorem int_of {x : D} (h : isIntT x = true) (h2 : (!isBoolT x) = true) : ∃ i, x = .int i := by
  cases x <;> simp [isIntT, isBoolT] at h h2 ⊢
theorem fn_is_integer (d : Df K mg "is_integer" s_is_integer ["value", "least", "most"]) (z : Zb mg) : Fn P w K mg base C T "is_integer" 1 ["value", "least", "most"] (pok fun ds r => ∃ x lo hi, ds = [x, .int lo, .int hi] ∧ plain x = true ∧ r = .bl (isIntD x lo hi)) := by
  refine d.pok sc_is_integer (fun ds r ⟨_, _, _, e, _⟩ => by rw [e]; rfl) (fun f cdv A outer s H E ds r hr ⟨x, lo, hi, e1, hp, e2⟩ => ?_)
  subst e1 e2
  refine js_one (jst_retE (JE.to (je_and (q := !isBoolT x && isIntD x lo hi) (je_isInt z (je_var rfl (pv 0)) hp) (fun h => je_and (q := isIntD x lo hi) (je_not (je_isBool z (je_var rfl (pv 0)) hp)) (fun h2 => ?_))) ?_) rfl)
  · obtain ⟨i, rfl⟩ := int_of h h2
    exact je_one (jw_chainLe (je_var rfl (pv 1)) (je_var rfl (pv 0)) (je_var rfl (pv 2)))
  · cases x <;> simp [isIntT, isBoolT, isIntD]

def STARTSD : List D := [.str "first", .str "last", .str "middle"]
def isWordD (x : D) : Bool := isStrT x && inD x STARTSD
def isStartD (x : D) : Bool := match x with
  | .tup xs => decide (xs.length = 2) && xs.all isWordD
  | _ => false
theorem tup_of {x : D} (h : isTupT x = true) : ∃ i, x = .tup i := by
  cases x <;> simp [isTupT] at h ⊢
theorem str_of {x : D} (h : isStrT x = true) : ∃ i, x = .str i := by
  cases x <;> simp [isStrT] at h ⊢
theorem flat_of_str {x : D} (h : isStrT x = true) : flat x = true := by
  obtain ⟨i, rfl⟩ := str_of h
  rfl
theorem plains_mem : ∀ {xs : List D} {x : D}, plains xs = true → x ∈ xs → plain x = true
  | [], _, _, h => by simp at h
  | y :: ys, x, p, h => by
    have p' : plain y = true ∧ plains ys = true := by simpa [plains] using p
    rcases List.mem_cons.mp h with e | e
    · rw [e]; exact p'.1
    · exact plains_mem p'.2 e
theorem all_map_id {α : Type} (xs : List α) (t : α → Bool) : (xs.map t).all (fun b => b) = xs.all t := by
  induction xs with
  | nil => rfl
  | cons x xs ih => rw [List.map_cons, List.all_cons, List.all_cons, ih]
/-- not isinstance(value, tuple) or len(value) != 2 -/
theorem jt_notTup2 {X : Cx} {V : Vo} {env : List En} {x : D} {a a2 : Expr} {p1 p2 p3 p4 p5 p6 p7 p8 : Pos} {jj} {n : Int} (z : Zb X.mg) (hu : X.A.units + 64 < cLine) (hp : plain x = true) (b : Bool) (ha : JE X C V env a (· = x)) (ha2 : JE X C V env a2 (· = x)) (hb : b = (!isTupT x || match x with | .tup xs => !decide ((xs.length : Int) = n) | _ => true))
    (g1 : Gl X "isinstance" := by rfl) (g2 : Gl X "tuple" := by rfl) (g3 : Gl X "len" := by rfl) (h1 : ∀ n : Str, (backTo p4 (starEach [.Name n p3] X.env)).any (·.1) = false := by intro _; rfl) (h2 : ∀ n : Str, starEach [.Name n p3] X.env = (false, eval (.Name n p3) X.env) :: starEach [] X.env := by intro _; rfl)
    (h3 : ∀ n : Str, starEach [a, .Name n p3] X.env = (false, eval a X.env) :: starEach [.Name n p3] X.env := by intro _; rfl) (h4 : starEach [a2] X.env = (false, eval a2 X.env) :: starEach [] X.env := by rfl) (h5 : (backTo p6 (starEach [] X.env)).any (·.1) = false := by rfl)
    (h6 : ∀ whole, isTrue (.Call (.Name "isinstance" p2) [a, .Name "tuple" p3] [] p4) X.env whole = (do let v ← whole; standAt (Expr.pos (.Call (.Name "isinstance" p2) [a, .Name "tuple" p3] [] p4)); holding [v] (truthy v)) := by intro _; rfl) :
    JT X C V env (.BoolOp .Or [.UnaryOp .Not (.Call (.Name "isinstance" p2) [a, .Name "tuple" p3] [] p4) p1, .Compare (.Call (.Name "len" p5) [a2] [] p6) [.NotEq] [.Constant (.int n) jj p7] p8] pos) (· = b) := by
  refine jt_w ?_
  subst hb
  refine jw_or (jt_not (jt_valE (je_isTup z ha hp g1 h1 h2 h3 g2) h6)) (fun h => ?_)
  obtain ⟨xs, rfl⟩ := tup_of (by simpa using h)
  exact jw_or1 (jt_neI hu (je_lenT z ha2 g3 h4 h5) je_int)
theorem fn_is_start (d : Df K mg "is_start" s_is_start ["value"]) (z : Zb mg) (gS : GD K C mg "STARTS" (.tup STARTSD)) : Fn P w K mg base C T "is_start" 1 ["value"] (pok fun ds r => ∃ x, ds = [x] ∧ plain x = true ∧ r = .bl (isStartD x)) := by
  refine d.pok sc_is_start (fun ds r ⟨_, e, _⟩ => by rw [e]; rfl) (fun f cdv A outer s H E ds r hr ⟨x, e1, hp, e2⟩ => ?_)
  subst e1 e2
  have hu := hr.units
  refine js_when (p := !(match x with | .tup xs => decide ((xs.length : Int) = 2) | _ => false)) (jt_notTup2 z hu hp _ (je_var rfl (pv 0)) (je_var rfl (pv 0)) (by cases x <;> simp [isTupT])) (fun h => js_one (jst_retE je_bl ?_)) (fun h => ?_)
  · cases x <;> simp_all [isStartD]
    intro h2
    omega
  · obtain ⟨xs, rfl⟩ : ∃ xs, x = .tup xs := by cases x <;> simp_all
    have hps : plains xs = true := by simpa [RQ.plain] using hp
    have hl : xs.length = 2 := by simp at h; omega
    refine js_one (jst_retE (JE.to (je_all (bs := xs.map isWordD) rfl z (JE.to (je_lcN (own := [("word", 1)]) (j := 1) (fun _ => true) (fun d => .bl (isWordD d)) rfl sc_is_start.nd (ji_tup (je_var rfl (pv 0))) (blkOk_by (N := n_is_start) (sc := defScope s_is_start) (by decide +kernel))
      (fun _ _ _ _ _ => jgb_name sc_is_start.nd rfl (.inl rfl) (by decide)) (fun _ _ _ _ _ _ _ => jts_nil) (fun s H Cc cl fp d hd _ => ?_) (by omega)) ?_)) ?_) rfl)
    · refine je_and (je_isStr z (je_var rfl (pv 1)) (plains_mem hps hd)) (fun h => je_one (je_inT (je_var rfl (pv 1)) (je_gl gS) (flat_of_str h) rfl))
    · rw [filter_yes, List.map_map]; rfl
    · rw [all_map_id]; simp [isStartD, hl]

def isTurnD (x : D) : Bool := match x with
  | .tup xs => decide (xs.length = 2) && xs.all fun d => isIntD d (-2) 2
  | _ => false
theorem fn_is_turn (d : Df K mg "is_turn" s_is_turn ["value"]) (z : Zb mg) (gM : GD K C mg "MOST_STEP" (.int 2)) (Fi : Fn P w K mg base C T "is_integer" 1 ["value", "least", "most"] (pok fun ds r => ∃ x lo hi, ds = [x, .int lo, .int hi] ∧ RQ.plain x = true ∧ r = .bl (isIntD x lo hi))) :
    Fn P w K mg base C T "is_turn" 2 ["value"] (pok fun ds r => ∃ x, ds = [x] ∧ RQ.plain x = true ∧ r = .bl (isTurnD x)) := by
  refine d.pok sc_is_turn (fun ds r ⟨_, e, _⟩ => by rw [e]; rfl) (fun f cdv A outer s H E ds r hr ⟨x, e1, hp, e2⟩ => ?_)
  subst e1 e2
  have hu := hr.units
  refine js_when (p := !(match x with | .tup xs => decide ((xs.length : Int) = 2) | _ => false)) (jt_notTup2 z hu hp _ (je_var rfl (pv 0)) (je_var rfl (pv 0)) (by cases x <;> simp [isTupT])) (fun h => js_one (jst_retE je_bl ?_)) (fun h => ?_)
  · cases x <;> simp_all [isTurnD]
    intro h2
    omega
  · obtain ⟨xs, rfl⟩ : ∃ xs, x = .tup xs := by cases x <;> simp_all
    have hps : plains xs = true := by simpa [RQ.plain] using hp
    have hl : xs.length = 2 := by simp at h; omega
    refine js_one (jst_retE (JE.to (je_all (bs := xs.map fun d => isIntD d (-2) 2) rfl z (JE.to (je_lcN (own := [("own", 1)]) (j := 1) (fun _ => true) (fun d => .bl (isIntD d (-2) 2)) rfl sc_is_turn.nd (ji_tup (je_var rfl (pv 0))) (blkOk_by (N := n_is_turn) (sc := defScope s_is_turn) (by decide +kernel))
      (fun _ _ _ _ _ => jgb_name sc_is_turn.nd rfl (.inl rfl) (by decide)) (fun _ _ _ _ _ _ _ => jts_nil) (fun s H Cc cl fp d hd _ => ?_) (by omega)) ?_)) ?_) rfl)
    · exact je_cal Fi hr (by decide) (ja_cons (je_var rfl (pv 1)) (ja_cons (je_neg (je_gl gM)) (ja_cons (je_gl gM) ja_nil))) ⟨d, -2, 2, rfl, plains_mem hps hd, rfl⟩
    · rw [filter_yes, List.map_map]; rfl
    · rw [all_map_id]; simp [isTurnD, hl]

def isStepD (x : D) : Bool := isTurnD x && !eqD x (.tup [.int 0, .int 0])
theorem turn_of {x : D} (h : isTurnD x = true) : ∃ a b, x = .tup [.int a, .int b] ∧ -2 ≤ a ∧ a ≤ 2 ∧ -2 ≤ b ∧ b ≤ 2 := by
  match x with
  | .tup [a, b] =>
    have h' : isIntD a (-2) 2 = true ∧ isIntD b (-2) 2 = true := by simpa [isTurnD] using h
    match a, b, h' with
    | .int a, .int b, h' =>
      have h2 : ((-2 ≤ a ∧ a ≤ 2) ∧ (-2 ≤ b ∧ b ≤ 2)) := by simpa [isIntD] using h'
      exact ⟨a, b, rfl, h2.1.1, h2.1.2, h2.2.1, h2.2.2⟩
    | .int a, .non, h' => simp [isIntD] at h'
    | .int a, .bl _, h' => simp [isIntD] at h'
    | .int a, .str _, h' => simp [isIntD] at h'
    | .int a, .tup _, h' => simp [isIntD] at h'
    | .int a, .lst _, h' => simp [isIntD] at h'
    | .int a, .fil _ _ _, h' => simp [isIntD] at h'
    | .int a, .raw _, h' => simp [isIntD] at h'
    | .non, _, h' => simp [isIntD] at h'
    | .bl _, _, h' => simp [isIntD] at h'
    | .str _, _, h' => simp [isIntD] at h'
    | .tup _, _, h' => simp [isIntD] at h'
    | .lst _, _, h' => simp [isIntD] at h'
    | .fil _ _ _, _, h' => simp [isIntD] at h'
    | .raw _, _, h' => simp [isIntD] at h'
  | .tup [] => simp [isTurnD] at h
  | .tup [_] => simp [isTurnD] at h
  | .tup (_ :: _ :: _ :: _) => simp [isTurnD] at h
  | .non => simp [isTurnD] at h
  | .bl _ => simp [isTurnD] at h
  | .int _ => simp [isTurnD] at h
  | .str _ => simp [isTurnD] at h
  | .lst _ => simp [isTurnD] at h
  | .fil _ _ _ => simp [isTurnD] at h
  | .raw _ => simp [isTurnD] at h
theorem fn_is_step (d : Df K mg "is_step" s_is_step ["value"]) (Ft : Fn P w K mg base C T "is_turn" 2 ["value"] (pok fun ds r => ∃ x, ds = [x] ∧ RQ.plain x = true ∧ r = .bl (isTurnD x))) :
    Fn P w K mg base C T "is_step" 3 ["value"] (pok fun ds r => ∃ x, ds = [x] ∧ RQ.plain x = true ∧ r = .bl (isStepD x)) := by
  refine d.pok sc_is_step (fun ds r ⟨_, e, _⟩ => by rw [e]; rfl) (fun f cdv A outer s H E ds r hr ⟨x, e1, hp, e2⟩ => ?_)
  subst e1 e2
  refine js_one (jst_retE (je_and (je_cal Ft hr (by decide) (ja_cons (je_var rfl (pv 0)) ja_nil) ⟨x, rfl, hp, rfl⟩) (fun h => je_one ?_)) rfl)
  obtain ⟨a, b, rfl, _⟩ := turn_of h
  exact je_ne hr.units (je_var rfl (pv 0)) (je_tup (ja_cons je_int (ja_cons je_int ja_nil))) rfl rfl

def fillErr (a b c : D) : Option Err := if isStartD a = false then some ⟨1, [.str "start"]⟩ else if isStepD b = false then some ⟨1, [.str "step"]⟩ else if isTurnD c = false then some ⟨1, [.str "turn"]⟩ else none
theorem slh_eq {H : Hp} {x Cc dx : Addr} {vs ws : List (Option V)} (ne : dx ≠ x) : SlX.slH (SlX.slH H x Cc dx vs) x Cc dx ws = SlX.slH H x Cc dx ws := SlX.slH_twice ne
theorem fm_Fill {f : Addr} {fd : FuncData} (F : Fun K "__init__" "Fill.__init__" s_Fill_init f fd) (M : Mk K C f) (hb : L2.Binds K fd ["self", "start", "step", "turn"] []) (L : Flc K mg C) (hfn : T.fn 1 = [("part" : Str)]) (Ep : Ef P w K mg base T 1 "InvalidPart" ["self", "part"] (spE1 (T.cl 1) "part"))
    (Fs : Fn P w K mg base C T "is_start" 1 ["value"] (pok fun ds r => ∃ x, ds = [x] ∧ RQ.plain x = true ∧ r = .bl (isStartD x))) (Fp : Fn P w K mg base C T "is_step" 3 ["value"] (pok fun ds r => ∃ x, ds = [x] ∧ RQ.plain x = true ∧ r = .bl (isStepD x)))
    (Ft : Fn P w K mg base C T "is_turn" 2 ["value"] (pok fun ds r => ∃ x, ds = [x] ∧ RQ.plain x = true ∧ r = .bl (isTurnD x))) : Fm P w K mg base C T 4 fillErr := by
  refine ⟨L.g, f, fd, M, hb, F.okX sc_Fill_init (fun vs H Q E h => ?_) (fun cdv A outer s H vs Q E hr h => ?_)⟩
  · obtain ⟨S, x, dx, va, vb, vc, a, b, c, e, _⟩ := h
    rw [e]; rfl
  · obtain ⟨S, x, dx, va, vb, vc, a, b, c, e, sub, sx, sdx, ne, hx, hdx, ra, rb, rc, ⟨pa, pb, pc⟩, kOk, kErr⟩ := h
    subst e
    have tk : Takes (bodyX P w K mg base n_Fill_init "Fill.__init__" s_Fill_init f cdv A outer s H E) (fun cls d _ H' => E cls d H') := takes_of rfl rfl rfl rfl
    let V1 : Vo := ⟨Mx x dx, fun S H => S x = none ∧ S dx = none ∧ H x = some (.ins C dx []) ∧ H dx = some (.own x), fun S H p j m => by
      rcases m with e | e
      · subst e; exact ⟨⟨_, j.2.2.1⟩, j.1⟩
      · subst e; exact ⟨⟨_, j.2.2.2⟩, j.2.1⟩, fun S H S' H' j _ _ h1 h2 => ⟨h2 x (.inl rfl), h2 dx (.inr rfl), by rw [h1 x (.inl rfl)]; exact j.2.2.1, by rw [h1 dx (.inr rfl)]; exact j.2.2.2⟩⟩
    let env : List En := [.d (.raw (.ref x)), .d a, .d b, .d c]
    have o0 : Ok K C V1 S H [some (.ref x), some va, some vb, some vc] env := ⟨sub, ⟨sx, sdx, hx, hdx⟩, ⟨_, _, rfl, ⟨_, rfl, R.raw_iff.mpr rfl⟩, _, _, rfl, ⟨_, rfl, ra⟩, _, _, rfl, ⟨_, rfl, rb⟩, _, _, rfl, ⟨_, rfl, rc⟩, rfl⟩⟩
    have J1 : JSt (bodyX P w K mg base n_Fill_init "Fill.__init__" s_Fill_init f cdv A outer s H E) C T V1 env ((defBody s_Fill_init)[0]'(by decide)) (fun e => e = env ∧ isStartD a = true) (fun _ => False) (fun cls d _ H' => E cls d H') (fun er => fillErr a b c = some er) :=
      jst_ifE (p := !isStartD a) (jt_not (jt_valE (je_cal Fs hr (by decide) (ja_cons (je_var rfl (pv 1)) ja_nil) ⟨a, rfl, pa, rfl⟩))) (fun h => js_one (jst_raise1 rfl tk hr (by decide) Ep hfn je_str (by simp at h; simp [fillErr, h]))) (fun h => js_nil.imp (fun _ q => ⟨q, by simpa using h⟩) (fun _ q => q) fun _ q => q)
    have J2 : isStartD a = true → JSt (bodyX P w K mg base n_Fill_init "Fill.__init__" s_Fill_init f cdv A outer s H E) C T V1 env ((defBody s_Fill_init)[1]'(by decide)) (fun e => e = env ∧ isStepD b = true) (fun _ => False) (fun cls d _ H' => E cls d H') (fun er => fillErr a b c = some er) := fun ha =>
      jst_ifE (p := !isStepD b) (jt_not (jt_valE (je_cal Fp hr (by decide) (ja_cons (je_var rfl (pv 2)) ja_nil) ⟨b, rfl, pb, rfl⟩))) (fun h => js_one (jst_raise1 rfl tk hr (by decide) Ep hfn je_str (by simp at h; simp [fillErr, h, ha]))) (fun h => js_nil.imp (fun _ q => ⟨q, by simpa using h⟩) (fun _ q => q) fun _ q => q)
    have J3 : isStartD a = true → isStepD b = true → JSt (bodyX P w K mg base n_Fill_init "Fill.__init__" s_Fill_init f cdv A outer s H E) C T V1 env ((defBody s_Fill_init)[2]'(by decide)) (fun e => e = env ∧ isTurnD c = true) (fun _ => False) (fun cls d _ H' => E cls d H') (fun er => fillErr a b c = some er) := fun ha hb =>
      jst_ifE (p := !isTurnD c) (jt_not (jt_valE (je_cal Ft hr (by decide) (ja_cons (je_var rfl (pv 3)) ja_nil) ⟨c, rfl, pc, rfl⟩))) (fun h => js_one (jst_raise1 rfl tk hr (by decide) Ep hfn je_str (by simp at h; simp [fillErr, h, ha, hb]))) (fun h => js_nil.imp (fun _ q => ⟨q, by simpa using h⟩) (fun _ q => q) fun _ q => q)
    refine ⟨_, pss_cons J1 (pss_fam (P := fun _ : Unit => isStartD a = true) fun _ ha => pss_cons (J2 ha) (pss_fam (P := fun _ : Unit => isStepD b = true) fun _ hb => pss_cons (J3 ha hb)
      (pss_cons (SlX.ps_sl (pv 0) (pv 1)) (pss_cons (SlX.ps_sl (pv 0) (pv 2)) (pss_one (SlX.ps_sl (pv 0) (pv 3))))))), ?_⟩
    refine ⟨S, o0, fun env1 σ1 S1 H1 ⟨e1, ha⟩ g1 j1 r1 => ?_, fun d v S' H' z => z.elim, fun er cls dd σ' S' H' he g j rx => kErr er he cls dd S' H' g rx⟩
    subst e1
    refine ⟨(), ha, S1, ⟨g1.sub, j1, r1⟩, fun env2 σ2 S2 H2 ⟨e2, hb⟩ g2 j2 r2 => ?_, fun d v S' H' z => z.elim, fun er cls dd σ' S' H' he g j rx => kErr er he cls dd S' H' (g1.trans g) rx⟩
    subst e2
    refine ⟨(), hb, S2, ⟨g2.sub, j2, r2⟩, fun env3 σ3 S3 H3 ⟨e3, hc⟩ g3 j3 r3 => ?_, fun d v S' H' z => z.elim, fun er cls dd σ' S' H' he g j rx => kErr er he cls dd S' H' ((g1.trans g2).trans g) rx⟩
    subst e3
    have gA := (g1.trans g2).trans g3
    obtain ⟨p0, q0⟩ := L.s0
    obtain ⟨p1, q1⟩ := L.s1
    obtain ⟨p2, q2⟩ := L.s2
    have hfill : fillErr a b c = none := by simp [fillErr, ha, hb, hc]
    obtain ⟨u0, v0, w0⟩ := r3.getD (i := 0) (x := .raw (.ref x)) rfl
    obtain ⟨u1, v1, w1⟩ := r3.getD (i := 1) (x := a) rfl
    obtain ⟨u2, v2, w2⟩ := r3.getD (i := 2) (x := b) rfl
    obtain ⟨u3, v3, w3⟩ := r3.getD (i := 3) (x := c) rfl
    rw [R.raw_iff] at w0
    subst w0
    obtain ⟨k1, k2, k3, k4⟩ := j3
    refine ⟨u1, v1, .ref x, v0, x, C, dx, p0, [], 0, rfl, .inl ⟨k3, rfl⟩, L.cl, q0, ?_⟩
    refine ⟨u2, v2, .ref x, v0, x, C, dx, p1, _, 2, rfl, SlX.slH_slt ne, L.cl, q1, ?_⟩
    refine ⟨u3, v3, .ref x, v0, x, C, dx, p2, _, 1, rfl, SlX.slH_slt ne, L.cl, q2, ?_⟩
    rw [SlX.slH_twice ne, SlX.slH_twice ne]
    have gB : Gr (Mx x dx) S H S3 (SlX.slH H3 x C dx (SlX.putS 1 u3 (SlX.putS 2 u2 (SlX.putS 0 u1 [])))) := by
      refine ⟨gA.s, fun b u z => ?_, fun b u n z => ?_, fun b u z => ?_, gA.n⟩
      · rw [SlX.slH_ne (ne_of_none z k1) (ne_of_none z k2)]; exact gA.sub b u z
      · rw [SlX.slH_ne (fun e => n (.inl e)) (fun e => n (.inr e))]; exact gA.h b u n z
      · by_cases hb : b = x
        · subst hb; exact ⟨_, upd_same⟩
        · by_cases hd : b = dx
          · subst hd; exact ⟨_, by unfold SlX.slH; rw [upd_ne hb, upd_same]⟩
          · rw [SlX.slH_ne hb hd]; exact gA.m b u z
    exact kOk hfill S3 _ u1 u2 u3 gB k1 k2 w1 w2 w3 (by unfold SlX.slH; rw [upd_same]; rfl) (by unfold SlX.slH; rw [upd_ne ne, upd_same])

/-- the law's source of draws: the list at ph, the cells' list at pc -/
def Hs (ph pc : Addr) (H : Hp) : Prop := ph ≠ pc ∧ ∃ (s i : Int) (cells : List Int), 0 ≤ s ∧ s < 2147483647 ∧ 0 ≤ i ∧ cells.length ≤ 63 ∧ H ph = some (.lst [.int s, .ref pc, .int i, .int 14]) ∧ H pc = some (.lst (cells.map V.int))
def Vh (ph pc : Addr) : Vo := ⟨fun p => p = ph ∨ p = pc, fun S H => S ph = none ∧ S pc = none ∧ Hs ph pc H, fun S H p j m => by
    obtain ⟨j1, j2, _, s, i, cells, _, _, _, _, h1, h2⟩ := j
    rcases m with e | e
    · subst e; exact ⟨⟨_, h1⟩, j1⟩
    · subst e; exact ⟨⟨_, h2⟩, j2⟩, fun S H S' H' j _ _ h1 h2 => by
    obtain ⟨j1, j2, ne, s, i, cells, a1, a2, a3, a4, a5, a6⟩ := j
    exact ⟨h2 ph (.inl rfl), h2 pc (.inr rfl), ne, s, i, cells, a1, a2, a3, a4, by rw [h1 ph (.inl rfl)]; exact a5, by rw [h1 pc (.inr rfl)]; exact a6⟩⟩
/-- a number below a bound -/
def rnd (b : Int) : Except Err D → Prop := fun r => ∃ i, r = .ok (.int i) ∧ 0 ≤ i ∧ i < b
abbrev S__law_next (P : Program) (w : World) (K : PySem.W.Frag) (mg : Str → Option Value) (base : Heap) (C : Addr) (T : Tx) : Prop := Fn P w K mg base C T "_law_next" 1 ["_law_h", "_law_bound"] fun V ds Ψ => ∃ ph pc b, V = Vh ph pc ∧ ds = [.raw (.ref ph), .int b] ∧ 0 < b ∧ b < 2 ^ 250 ∧ Ψ = rnd b
theorem map_atI {cells : List Int} {k : Int} (h0 : 0 ≤ k) (h1 : k < cells.length) : ∃ c, atI (cells.map V.int) k = some (.int c) ∧ cells[k.toNat]? = some c := by
  have hl : k.toNat < cells.length := by omega
  refine ⟨cells[k.toNat], ?_, List.getElem?_eq_getElem hl⟩
  have e : k = (k.toNat : Int) := by omega
  have h : atI (cells.map V.int) (k.toNat : Int) = some (V.int cells[k.toNat]) := atI_nat (by rw [List.getElem?_map]; simp [hl])
  rw [← e] at h
  exact h
theorem fn__law_next (d : Df K mg "_law_next" s__law_next ["_law_h", "_law_bound"]) (z : Zb mg) : S__law_next P w K mg base C T := by
  refine d.fn sc__law_next (fun V ds Ψ ⟨_, _, _, _, e, _⟩ => by rw [e]; rfl) (fun f cdv A outer s H E V ds Ψ hr tk ⟨ph, pc, b, eV, e1, hb, hb2, e2⟩ => ?_)
  subst eV e1 e2
  have hcd : ∀ c, CDivW c b := fun c => wide_div (b := 250) hb (by omega) (by decide) (by decide)
  have nd := sc__law_next.nd
  refine PSs.weak (pss_cons (ps_set (i := 2) nd rfl (.inl rfl) (pe_ix ix_list (pe_op op_cat (pe_ix ix_list (pv 0) pe_int (fun _ _ => rfl)) (pe_lst (pa_cons pe_int pa_nil)))
        (pe_op op_mod (pe_callTy call_int1 rfl z.int (by decide +kernel) (pa_cons (pe_ix ix_list (pv 0) pe_int (fun _ _ => rfl)) pa_nil)) (pe_callB (call_max2 rfl) rfl z.max (by decide +kernel) (pa_cons pe_int (pa_cons (pe_callB call_len_seq rfl z.len PySem.boot_len (pa_cons (pe_ix ix_list (pv 0) pe_int (fun _ _ => rfl)) pa_nil)) pa_nil)))) (fun _ _ => rfl)))
    (pss_cons (ps_if (pt_cmpR op_ge (pv 2) (pe_op op_pow pe_int pe_int) (nomark _))
      (pss_cons (ps_asg (pe_op op_fdivW (pv 2) (pv 1)) (pg_sub (pe_ix ix_list (pv 0) pe_int (fun _ _ => rfl)) (pe_op op_mod (pe_callTy call_int1 rfl z.int (by decide +kernel) (pa_cons (pe_ix ix_list (pv 0) pe_int (fun _ _ => rfl)) pa_nil)) (pe_callB call_len_seq rfl z.len PySem.boot_len (pa_cons (pe_ix ix_list (pv 0) pe_int (fun _ _ => rfl)) pa_nil))) set_list))
        (pss_one (ps_ret (pe_op op_mod (pe_callTy call_int1 rfl z.int (by decide +kernel) (pa_cons (pv 2) pa_nil)) (pv 1))))) pss_nil)
    (pss_cons (ps_asg (pe_op op_mod (pe_callTy call_int1 rfl z.int (by decide +kernel) (pa_cons (pe_op op_add (pe_op op_add (pe_op op_mul (pe_ix ix_list (pv 0) pe_int (fun _ _ => rfl)) pe_int) (pe_op op_mul (pv 2) pe_int)) pe_int) pa_nil)) pe_int) (pg_sub (pv 0) pe_int set_list))
    (pss_cons (ps_asg (pe_op op_add (pe_ix ix_list (pv 0) pe_int (fun _ _ => rfl)) pe_int) (pg_sub (pv 0) pe_int set_list))
    (pss_one (ps_ret (pe_op op_mod (pe_callTy call_int1 rfl z.int (by decide +kernel) (pa_cons (pe_op op_fdivW (pe_ix ix_list (pv 0) pe_int (fun _ _ => rfl)) pe_int) pa_nil)) (pv 1)))))))) fun D σ H ⟨S, o, k1, k2, k3⟩ => ?_
  obtain ⟨sub, ⟨sp, sc, ne, st, i, cells, hs0, hs1, hi0, hlen, hph, hpc⟩, rs⟩ := o
  obtain ⟨v0, hv0, r0⟩ := rs.getD (i := 0) (x := .raw (.ref ph)) rfl
  obtain ⟨v1, hv1, r1⟩ := rs.getD (i := 1) (x := .int b) rfl
  rw [R.raw_iff] at r0
  rw [R.int_iff] at r1
  subst r0 r1
  have hσ : σ.length = 3 := rs.length.symm
  have hset0 : ∀ v : Option V, (σ.set 2 v)[0]? = some (some (.ref ph)) := fun v => by rw [List.getElem?_set_ne (by decide)]; exact hv0
  have hset1 : ∀ v : Option V, (σ.set 2 v)[1]? = some (some (.int b)) := fun v => by rw [List.getElem?_set_ne (by decide)]; exact hv1
  have hset2 : ∀ v : Option V, (σ.set 2 v)[2]? = some v := fun v => List.getElem?_set_self (by omega)
  -- (h[1] + [0])[int(h[2]) % max(1, len(h[1]))]
  refine ⟨_, hv0, ph, _, 1, .ref pc, rfl, rfl, SqL.of hph, rfl, by show 1 ≤ sizeLine; exact small (by decide), fun l hl => ?_⟩
  have npl : pc ≠ l := ne_of_none hpc hl
  have nhl : ph ≠ l := ne_of_none hph hl
  refine ⟨pc, l, _, _, rfl, rfl, by rw [upd_ne npl]; exact hpc, upd_same, by rw [List.length_map]; exact small (by simp only [List.length_cons, List.length_nil]; omega), fun q hq => ?_⟩
  have e1 : (upd (upd H l (.lst [.int 0])) q (.lst (cells.map V.int ++ [.int 0]))) ph = some (.lst [.int st, .ref pc, .int i, .int 14]) := by
    have h2 : (upd H l (.lst [.int 0])) ph = some (.lst [.int st, .ref pc, .int i, .int 14]) := by rw [upd_ne nhl]; exact hph
    rw [upd_ne (ne_of_none h2 hq)]; exact h2
  have e2 : (upd (upd H l (.lst [.int 0])) q (.lst (cells.map V.int ++ [.int 0]))) pc = some (.lst (cells.map V.int)) := by
    have h2 : (upd H l (.lst [.int 0])) pc = some (.lst (cells.map V.int)) := by rw [upd_ne npl]; exact hpc
    rw [upd_ne (ne_of_none h2 hq)]; exact h2
  have hn0 : H q = none := by
    cases zz : H q with
    | none => rfl
    | some u =>
      by_cases hql : q = l
      · rw [hql, hl] at zz; cases zz
      · rw [upd_ne hql, zz] at hq; cases hq
  have g1 : Gr M0 S H S (upd (upd H l (.lst [.int 0])) q (.lst (cells.map V.int ++ [.int 0]))) := (Gr.mine sub hl).trans (Gr.mine (Gr.mine (M := M0) (o := .lst [.int 0]) sub hl).sub hq)
  generalize hH1 : upd (upd H l (.lst [.int 0])) q (.lst (cells.map V.int ++ [.int 0])) = H1 at e1 e2 g1
  have hq1 : H1 q = some (.lst (cells.map V.int ++ [.int 0])) := by rw [← hH1, upd_same]
  refine ⟨_, hv0, ph, _, 2, .int i, rfl, rfl, SqL.of e1, rfl, .inl ⟨i, rfl, ?_⟩⟩
  refine ⟨_, hv0, ph, _, 1, .ref pc, rfl, rfl, SqL.of e1, rfl, pc, _, rfl, .inl (SqL.of e2), 1, _, rfl, ?_⟩
  rw [List.length_map]
  have hm : (0 : Int) < (if (cells.length : Int) > 1 then (cells.length : Int) else 1) := by split <;> omega
  refine ⟨i, _, rfl, rfl, hm, ?_⟩
  have hk0 := Int.emod_nonneg i (show (if (cells.length : Int) > 1 then (cells.length : Int) else 1) ≠ 0 by omega)
  have hk1 := Int.emod_lt_of_pos i hm
  generalize hk : i % (if (cells.length : Int) > 1 then (cells.length : Int) else 1) = k at hk0 hk1
  have hkl : k < ((cells ++ [0]).length : Int) := by
    rw [List.length_append]
    simp only [List.length_cons, List.length_nil]
    split at hk1 <;> omega
  obtain ⟨c, hc1, hc2⟩ := map_atI (cells := cells ++ [0]) hk0 hkl
  rw [List.map_append] at hc1
  refine ⟨q, _, k, .int c, rfl, congrArg V.int hk, SqL.of hq1, hc1, ?_⟩
  -- if cell >= 10 ** 18
  refine ⟨_, hset2 _, 10, 18, rfl, rfl, ⟨by decide, by decide, by decide⟩, c, (10 : Int) ^ (18 : Int).toNat, rfl, rfl, _, rfl, ite2 (fun ht => ?_) (fun ht => ?_)⟩
  · have hc : (10 : Int) ^ (18 : Int).toNat ≤ c := of_decide_eq_true ht
    have hcn : k < (cells.length : Int) := by
      by_cases hh : k < (cells.length : Int)
      · exact hh
      · exfalso
        have e : k.toNat = cells.length := by
          rw [List.length_append] at hkl
          simp only [List.length_cons, List.length_nil] at hkl
          omega
        rw [e, List.getElem?_append_right (Nat.le_refl _)] at hc2
        simp at hc2
        subst hc2
        exact absurd hc (by decide)
    have hkm : i % (cells.length : Int) = k := by
      rw [← hk]
      split
      · rfl
      · have : (cells.length : Int) = 1 := by omega
        rw [this]
    refine ⟨_, hset2 _, _, hset1 _, c, b, rfl, rfl, hcd c, ?_⟩
    refine ⟨_, hset0 _, ph, _, 1, .ref pc, rfl, rfl, SqL.of e1, rfl, ?_⟩
    refine ⟨_, hset0 _, ph, _, 2, .int i, rfl, rfl, SqL.of e1, rfl, .inl ⟨i, rfl, ?_⟩⟩
    refine ⟨_, hset0 _, ph, _, 1, .ref pc, rfl, rfl, SqL.of e1, rfl, pc, _, rfl, .inl (SqL.of e2), ?_⟩
    rw [List.length_map]
    refine ⟨i, _, rfl, rfl, by omega, ?_⟩
    refine ⟨pc, _, k, k.toNat, rfl, congrArg V.int hkm, e2, ?_, ?_⟩
    · unfold ixN
      rw [if_pos hk0, List.length_map, if_pos hcn]
    refine ⟨_, hset2 _, .inl ⟨c, rfl, _, hset1 _, c, b, rfl, rfl, hb, ?_⟩⟩
    have hj : (Vh ph pc).J S (upd H1 pc (.lst ((cells.map V.int).set k.toNat (.int (c / b))))) := ⟨sp, sc, ne, st, i, cells.set k.toNat (c / b), hs0, hs1, hi0, by rw [List.length_set]; exact hlen, by rw [upd_ne ne]; exact e1, by rw [upd_same, List.map_set]⟩
    have g2 : Gr (Vh ph pc).M S H S (upd H1 pc (.lst ((cells.map V.int).set k.toNat (.int (c / b))))) := by
      refine ⟨.refl S, fun p u e => by rw [upd_ne (ne_of_none e sc)]; exact g1.sub p u e, fun p u n e => by rw [upd_ne (fun z => n (.inr z))]; exact g1.h p u (fun z => z) e, fun p u e => ?_, g1.n⟩
      by_cases hp : p = pc
      · subst hp; exact ⟨_, upd_same⟩
      · rw [upd_ne hp]; exact g1.m p u e
    exact k2 (.int (c % b)) _ S _ ⟨_, rfl, Int.emod_nonneg _ (by omega), Int.emod_lt_of_pos _ hb⟩ g2 hj (R.int_iff.mpr rfl)
  · -- h[0] = ..
    refine ⟨_, hset0 _, ph, _, 0, .int st, rfl, rfl, SqL.of e1, rfl, st, 48271, rfl, rfl, .inr (by decide), ?_⟩
    refine ⟨_, hset2 _, c, 69621, rfl, rfl, .inr (by decide), _, _, rfl, rfl, _, _, rfl, rfl, .inl ⟨_, rfl, _, _, rfl, rfl, (by show (0 : Int) < 2147483647; decide), ?_⟩⟩
    have hsA : 0 ≤ ((st * 48271 + c * 69621 + 11) % 2147483647) :=  Int.emod_nonneg _ (by decide)
    have hsB : ((st * 48271 + c * 69621 + 11) % 2147483647) < 2147483647 :=  Int.emod_lt_of_pos _ (by decide)
    refine ⟨_, hset0 _, ph, _, 0, 0, rfl, rfl, e1, rfl, ?_⟩
    -- h[2] = h[2] + 1
    refine ⟨_, hset0 _, ph, _, 2, .int i, rfl, rfl, SqL.of upd_same, rfl, i, 1, rfl, rfl, ?_⟩
    refine ⟨_, hset0 _, ph, _, 2, 2, rfl, rfl, upd_same, rfl, ?_⟩
    refine ⟨_, hset0 _, ph, _, 0, .int ((st * 48271 + c * 69621 + 11) % 2147483647), rfl, rfl, SqL.of upd_same, rfl, ((st * 48271 + c * 69621 + 11) % 2147483647), 7, rfl, rfl, wide_div (b := 3) (by decide) (by decide) (by decide) (by decide), .inl ⟨_, rfl, _, hset1 _, _, b, rfl, rfl, hb, ?_⟩⟩
    have hj : (Vh ph pc).J S (upd (upd H1 ph (.lst [.int ((st * 48271 + c * 69621 + 11) % 2147483647), .ref pc, .int i, .int 14])) ph (.lst [.int ((st * 48271 + c * 69621 + 11) % 2147483647), .ref pc, .int (i + 1), .int 14])) := ⟨sp, sc, ne, ((st * 48271 + c * 69621 + 11) % 2147483647), i + 1, cells, hsA, hsB, by omega, hlen, upd_same, by rw [upd_ne (Ne.symm ne), upd_ne (Ne.symm ne)]; exact e2⟩
    have g2 : Gr (Vh ph pc).M S H S (upd (upd H1 ph (.lst [.int ((st * 48271 + c * 69621 + 11) % 2147483647), .ref pc, .int i, .int 14])) ph (.lst [.int ((st * 48271 + c * 69621 + 11) % 2147483647), .ref pc, .int (i + 1), .int 14])) := by
      rw [upd_upd]
      refine ⟨.refl S, fun p u e => by rw [upd_ne (ne_of_none e sp)]; exact g1.sub p u e, fun p u n e => by rw [upd_ne (fun z => n (.inl z))]; exact g1.h p u (fun z => z) e, fun p u e => ?_, g1.n⟩
      by_cases hp : p = ph
      · subst hp; exact ⟨_, upd_same⟩
      · rw [upd_ne hp]; exact g1.m p u e
    exact k2 (.int (((st * 48271 + c * 69621 + 11) % 2147483647) / 7 % b)) _ S _ ⟨_, rfl, Int.emod_nonneg _ (by omega), Int.emod_lt_of_pos _ hb⟩ g2 hj (R.int_iff.mpr rfl)

def spMix (K : PySem.W.Frag) : Sp := fun vs H Q _ => ∃ (a : Addr) (ns : List Int) (s0 : Int), vs = [.ref a, .int s0] ∧ SqL K H a (ns.map V.int) ∧ ns.length ≤ 63 ∧ 0 ≤ s0 ∧ s0 < 2147483647 ∧
  ∀ ph pc H', Same H H' → H ph = none → H pc = none → Hs ph pc H' → Q (.ref ph) H'
structure S__law_mix (P : Program) (w : World) (K : PySem.W.Frag) (mg : Str → Option Value) (base : Heap) : Prop where
  ex : ∃ (f : Addr) (fd : FuncData), mg "_law_mix" = some (.ref f) ∧ PySem.W.keepIn K (.ref f) = true ∧ L2.Binds K fd ["_law_script", "_law_seed"] [] ∧ FnOk P w K mg base (L2.CX P w) 1 f fd ["_law_script", "_law_seed"] (spMix K)
theorem fn__law_mix (d : Df K mg "_law_mix" s__law_mix ["_law_script", "_law_seed"]) (z : Zb mg) : S__law_mix P w K mg base := by
  obtain ⟨f, fd, h1, F, h2⟩ := d.ex
  refine ⟨f, fd, h1, F.kp, h2, F.okX sc__law_mix (fun vs H Q E h => ?_) (fun cdv A outer s H vs Q E hr h => ?_)⟩
  · obtain ⟨a, ns, s0, e, _⟩ := h
    rw [e]; rfl
  · obtain ⟨a, ns, s0, e, hS, hlen, h0, hb, q⟩ := h
    subst e
    have nd := sc__law_mix.nd
    refine ⟨_, pss_cons (ps_set (i := 2) nd rfl (.inl rfl) (pv 1)) (pss_cons (ps_for (passes_of rfl) rfl (pi_list (pv 0)) (pg_name (i := 3) nd rfl (.inl rfl))
        (pss_one (ps_set (i := 2) nd rfl (.inl rfl) (pe_op op_mod (pe_callTy call_int1 rfl z.int (by decide +kernel) (pa_cons (pe_op op_add (pe_op op_add (pe_op op_mul (pv 2) pe_int) (pe_op op_mod (pe_callTy call_int1 rfl z.int (by decide +kernel) (pa_cons (pv 3) pa_nil)) pe_int)) pe_int) pa_nil)) pe_int))))
      (pss_one (ps_ret (pe_lst (pa_cons (pv 2) (pa_cons (pe_callTy call_list_of rfl z.list (by decide +kernel) (pa_cons (pv 0) pa_nil)) (pa_cons pe_int (pa_cons pe_int pa_nil)))))))), ?_⟩
    refine ⟨_, rfl, _, rfl, a, rfl, ⟨_, hS⟩, for_list (K := K) (a := a) (xs := ns.map V.int) (fun i σ H' => H' = H ∧ ∃ (st : Int) (v : Option V), σ = [some (.ref a), some (.int s0), some (.int st), v] ∧ 0 ≤ st ∧ st < 2147483647)
      ⟨rfl, s0, none, rfl, h0, hb⟩ (fun i σ H' _ ⟨e, _⟩ => by rw [e]; exact hS) ?_ ?_⟩
    · rintro i x σ H' hi ⟨rfl, st, v, rfl, b0, b1⟩
      obtain ⟨u, rfl⟩ : ∃ u, x = V.int u := by
        rw [List.getElem?_map] at hi
        cases e : ns[i]? with
        | none => rw [e] at hi; cases hi
        | some u => rw [e] at hi; exact ⟨u, (Option.some.inj hi).symm⟩
      refine ⟨_, rfl, _, _, rfl, rfl, .inr (by decide), _, rfl, .inl ⟨u, rfl, u, 2147483629, rfl, rfl, (by show (0 : Int) < 2147483629; decide), _, _, rfl, rfl, _, _, rfl, rfl, .inl ⟨_, rfl, _, _, rfl, rfl, (by show (0 : Int) < 2147483647; decide), ?_⟩⟩⟩
      exact ⟨rfl, _, _, rfl, Int.emod_nonneg _ (by decide), Int.emod_lt_of_pos _ (by decide)⟩
    · rintro σ H' ⟨rfl, st, v, rfl, b0, b1⟩
      refine ⟨_, rfl, _, rfl, a, _, rfl, .inl hS, fun pc hpc => ?_⟩
      refine ⟨by show 4 ≤ sizeLine; exact small (by decide), fun ph hph => ?_⟩
      have ne : ph ≠ pc := fun e => by rw [e, upd_same] at hph; cases hph
      have hph0 : H' ph = none := by rw [upd_ne ne] at hph; exact hph
      refine q ph pc _ (fun b u e => ?_) hph0 hpc ⟨ne, st, 0, ns, b0, b1, Int.le_refl _, hlen, upd_same, by rw [upd_ne (Ne.symm ne), upd_same]⟩
      rw [upd_ne (ne_of_none e hph0), upd_ne (ne_of_none e hpc)]
      exact e
section
variable {X : Cx} {C : Addr} {T : Tx} {V : Vo} {env : List En} {a b : Expr} {n : Int} {pos p : Pos} {j : Nat} {ph pc : Addr}
/-- a draw -/
theorem je_next (F : S__law_next X.prog X.w X.K X.mg X.base C T) (hr : Room j X.A) (hj : 1 ≤ j) (ha : JE X C (Vh ph pc) env a (· = .raw (.ref ph))) (hb : JE X C (Vh ph pc) env b (· = .int n)) (h0 : 0 < n) (h1 : n < 2 ^ 250) (hg : Gl X "_law_next" := by rfl)
    (he : starEach [a, b] X.env = (false, eval a X.env) :: starEach [b] X.env := by rfl) (he2 : starEach [b] X.env = (false, eval b X.env) :: starEach [] X.env := by rfl) (hpl : (backTo pos (starEach [b] X.env)).any (·.1) = false := by rfl) :
    JE X C (Vh ph pc) env (.Call (.Name "_law_next" p) [a, b] [] pos) (fun d => ∃ i : Int, d = .int i ∧ 0 ≤ i ∧ i < n) :=
  je_calG F hr hj (ja_cons ha (ja_cons hb ja_nil he2) he) (fun ds e => .inl ⟨rnd n, ⟨ph, pc, n, rfl, e, h0, h1, rfl⟩, (fun er ⟨i, h, _⟩ => by cases h), (fun d ⟨i, h, h2⟩ => ⟨i, by cases h; rfl, h2⟩)⟩) hg (by decide) he hpl
/-- a draw's difference to a number, its sum with one -/
theorem je_subR {k : Int} {Θ : Int → Prop} (ha : JE X C V env a (fun d => ∃ i : Int, d = .int i ∧ Θ i)) (hb : JE X C V env b (· = .int k)) : JE X C V env (.BinOp a .Sub b pos) (fun d => ∃ i : Int, d = .int (i - k) ∧ Θ i) :=
  je_op op_sub ha hb fun x y ⟨i, e1, h1⟩ e2 => ⟨.int (i - k), ⟨i, rfl, h1⟩, by subst e1 e2; exact o2_I0 fun S => R.int_iff.mpr rfl⟩
theorem je_addR {k : Int} {Θ : Int → Prop} (ha : JE X C V env a (· = .int k)) (hb : JE X C V env b (fun d => ∃ i : Int, d = .int i ∧ Θ i)) : JE X C V env (.BinOp a .Add b pos) (fun d => ∃ i : Int, d = .int (k + i) ∧ Θ i) :=
  je_op op_add ha hb fun x y e2 ⟨i, e1, h1⟩ => ⟨.int (k + i), ⟨i, rfl, h1⟩, by subst e1 e2; exact o2_I0 fun S => R.int_iff.mpr rfl⟩
end
/-- a word of a start -/
def isW (s : Str) : Prop := s = "first" ∨ s = "middle" ∨ s = "last"
def drawnStart : Except Err D → Prop := fun r => ∃ a b, r = .ok (.tup [.str a, .str b]) ∧ isW a ∧ isW b
abbrev S__law_start (P : Program) (w : World) (K : PySem.W.Frag) (mg : Str → Option Value) (base : Heap) (C : Addr) (T : Tx) : Prop := Fn P w K mg base C T "_law_start" 2 ["_law_h"] fun V ds Ψ => ∃ ph pc, V = Vh ph pc ∧ ds = [.raw (.ref ph)] ∧ Ψ = drawnStart
theorem fn__law_start (d : Df K mg "_law_start" s__law_start ["_law_h"]) (Fx : S__law_next P w K mg base C T) : S__law_start P w K mg base C T := by
  refine d.fn sc__law_start (fun V ds Ψ ⟨_, _, _, e, _⟩ => by rw [e]; rfl) (fun f cdv A outer s H E V ds Ψ hr tk ⟨ph, pc, eV, e1, e2⟩ => ?_)
  subst eV e1 e2
  have hw : ∀ x, x ∈ ([.str "first", .str "middle", .str "last"] : List D) → ∃ s, x = .str s ∧ isW s := fun x h => by
    simp only [List.mem_cons, List.not_mem_nil, or_false] at h
    rcases h with h | h | h
    · exact ⟨_, h, .inl rfl⟩
    · exact ⟨_, h, .inr (.inl rfl)⟩
    · exact ⟨_, h, .inr (.inr rfl)⟩
  refine js_let (i := 1) sc__law_start.nd rfl (.inl rfl) (je_lst (ja_cons je_str (ja_cons je_str (ja_cons je_str ja_nil)))) (js_one (jst_ret (je_tupR
    (ja_consR (je_ixLR (n := 3) (je_var rfl (pv 1)) (je_next Fx hr (by decide) (je_var rfl (pv 0)) je_int (by decide) (by decide)) (by decide) hw)
      (ja_consR (je_ixLR (n := 3) (je_var rfl (pv 1)) (je_next Fx hr (by decide) (je_var rfl (pv 0)) je_int (by decide) (by decide)) (by decide) hw) ja_nil)) ?_)))
  rintro ds ⟨x, r, rfl, ⟨a, rfl, ha⟩, y, r2, rfl, ⟨b, rfl, hb⟩, rfl⟩
  exact ⟨Nat.le_of_ble_eq_true rfl, a, b, rfl, ha, hb⟩

abbrev in5 (a : Int) : Prop := -2 ≤ a ∧ a ≤ 2
def drawnPair : Except Err D → Prop := fun r => ∃ a b, r = .ok (.tup [.int a, .int b]) ∧ in5 a ∧ in5 b
abbrev S__law_pair (P : Program) (w : World) (K : PySem.W.Frag) (mg : Str → Option Value) (base : Heap) (C : Addr) (T : Tx) : Prop := Fn P w K mg base C T "_law_pair" 2 ["_law_h"] fun V ds Ψ => ∃ ph pc, V = Vh ph pc ∧ ds = [.raw (.ref ph)] ∧ Ψ = drawnPair
theorem fn__law_pair (d : Df K mg "_law_pair" s__law_pair ["_law_h"]) (Fx : S__law_next P w K mg base C T) : S__law_pair P w K mg base C T := by
  refine d.fn sc__law_pair (fun V ds Ψ ⟨_, _, _, e, _⟩ => by rw [e]; rfl) (fun f cdv A outer s H E V ds Ψ hr tk ⟨ph, pc, eV, e1, e2⟩ => ?_)
  subst eV e1 e2
  refine js_one (jst_ret (je_tupR (ja_consR (je_subR (je_next Fx hr (by decide) (je_var rfl (pv 0)) je_int (by decide) (by decide)) je_int) (ja_consR (je_subR (je_next Fx hr (by decide) (je_var rfl (pv 0)) je_int (by decide) (by decide)) je_int) ja_nil)) ?_))
  rintro ds ⟨x, r, rfl, ⟨a, rfl, ha⟩, y, r2, rfl, ⟨b, rfl, hb⟩, rfl⟩
  exact ⟨Nat.le_of_ble_eq_true rfl, a - 2, b - 2, rfl, ⟨by omega, by omega⟩, ⟨by omega, by omega⟩⟩

/-- a drawn filling -/
structure Fl where
  a : Str
  b : Str
  d : Int
  e : Int
  f : Int
  g : Int
structure Fl.ok (t : Fl) : Prop where
  a : isW t.a
  b : isW t.b
  d : in5 t.d
  e : in5 t.e
  f : in5 t.f
  g : in5 t.g
  st : ¬ (t.d = 0 ∧ t.e = 0)
def Fl.s (t : Fl) : D := .tup [.str t.a, .str t.b]
def Fl.p (t : Fl) : D := .tup [.int t.d, .int t.e]
def Fl.q (t : Fl) : D := .tup [.int t.f, .int t.g]
def Fl.l (t : Fl) : D := .lst [t.s, t.p, t.q]
def Fl.fil (t : Fl) : D := .fil t.s t.p t.q
def drawnFill : Except Err D → Prop := fun r => ∃ t : Fl, r = .ok t.l ∧ t.ok
abbrev S__law_fill (P : Program) (w : World) (K : PySem.W.Frag) (mg : Str → Option Value) (base : Heap) (C : Addr) (T : Tx) : Prop := Fn P w K mg base C T "_law_fill" 3 ["_law_h"] fun V ds Ψ => ∃ ph pc, V = Vh ph pc ∧ ds = [.raw (.ref ph)] ∧ Ψ = drawnFill
section
variable {X : Cx} {C : Addr} {T : Tx} {V : Vo} {env : List En} {a : Expr} {pos p : Pos} {j : Nat} {ph pc : Addr}
theorem je_pair (F : S__law_pair X.prog X.w X.K X.mg X.base C T) (hr : Room j X.A) (hj : 2 ≤ j) (ha : JE X C (Vh ph pc) env a (· = .raw (.ref ph))) (hg : Gl X "_law_pair" := by rfl)
    (he : starEach [a] X.env = (false, eval a X.env) :: starEach [] X.env := by rfl) (hpl : (backTo pos (starEach [] X.env)).any (·.1) = false := by rfl) :
    JE X C (Vh ph pc) env (.Call (.Name "_law_pair" p) [a] [] pos) (fun d => ∃ x y, d = .tup [.int x, .int y] ∧ in5 x ∧ in5 y) :=
  je_calG F hr hj (ja_cons ha ja_nil he) (fun ds e => .inl ⟨drawnPair, ⟨ph, pc, rfl, e, rfl⟩, (fun er ⟨i, _, h, _⟩ => by cases h), (fun d ⟨i, k, h, h2⟩ => ⟨i, k, by cases h; rfl, h2⟩)⟩) hg (by decide) he hpl
theorem je_start (F : S__law_start X.prog X.w X.K X.mg X.base C T) (hr : Room j X.A) (hj : 2 ≤ j) (ha : JE X C (Vh ph pc) env a (· = .raw (.ref ph))) (hg : Gl X "_law_start" := by rfl)
    (he : starEach [a] X.env = (false, eval a X.env) :: starEach [] X.env := by rfl) (hpl : (backTo pos (starEach [] X.env)).any (·.1) = false := by rfl) :
    JE X C (Vh ph pc) env (.Call (.Name "_law_start" p) [a] [] pos) (fun d => ∃ x y, d = .tup [.str x, .str y] ∧ isW x ∧ isW y) :=
  je_calG F hr hj (ja_cons ha ja_nil he) (fun ds e => .inl ⟨drawnStart, ⟨ph, pc, rfl, e, rfl⟩, (fun er ⟨i, _, h, _⟩ => by cases h), (fun d ⟨i, k, h, h2⟩ => ⟨i, k, by cases h; rfl, h2⟩)⟩) hg (by decide) he hpl
/-- list(a list) -/
theorem oc_listL {K : PySem.W.Frag} {xs : List D} (hz : xs.length ≤ 1000000) : OC K C (fun vs H Q => ∃ p ys, vs = [.ref p] ∧ (SqL K H p ys ∨ SqT K H p ys) ∧ ∀ l, H l = none → Q (.ref l) (upd H l (.lst ys))) [.lst xs] (.lst xs) := fun S H vs e rr Q q => by
  obtain ⟨v, e1, h1⟩ := RL.one rr
  obtain ⟨p, ys, e2, h2, h3⟩ := R.lstL h1
  subst e2 e1
  refine ⟨p, ys, rfl, .inl (e.seq h2), fun l hl => ?_⟩
  have g : Gr M0 S H (upd S l (.lst ys)) (upd H l (.lst ys)) := .new e hl
  exact q _ _ _ g (R.mkL upd_same (h3.mono g.s))
end
theorem fl_some : ∀ x, x ∈ ([Fl.l ⟨"first", "middle", -1, 1, 1, 0⟩, Fl.l ⟨"middle", "last", 1, 1, 2, 1⟩, Fl.l ⟨"first", "first", 1, 2, 2, 1⟩] : List D) → ∃ t : Fl, x = t.l ∧ t.ok := fun x h => by
  simp only [List.mem_cons, List.not_mem_nil, or_false] at h
  rcases h with h | h | h
  · exact ⟨_, h, .inl rfl, .inr (.inl rfl), by decide, by decide, by decide, by decide, by decide⟩
  · exact ⟨_, h, .inr (.inl rfl), .inr (.inr rfl), by decide, by decide, by decide, by decide, by decide⟩
  · exact ⟨_, h, .inl rfl, .inl rfl, by decide, by decide, by decide, by decide, by decide⟩
theorem fn__law_fill (d : Df K mg "_law_fill" s__law_fill ["_law_h"]) (z : Zb mg) (Fx : S__law_next P w K mg base C T) (Fs : S__law_start P w K mg base C T) (Fp : S__law_pair P w K mg base C T) : S__law_fill P w K mg base C T := by
  refine d.fn sc__law_fill (fun V ds Ψ ⟨_, _, _, e, _⟩ => by rw [e]; rfl) (fun f cdv A outer s H E V ds Ψ hr tk ⟨ph, pc, eV, e1, e2⟩ => ?_)
  subst eV e1 e2
  have nd := sc__law_fill.nd
  refine z_start fun A eA => ?_
  have hU : ∀ S H, (Vh ph pc).J S H → A.U.J S H := fun S H h => by rw [eA]; exact h
  have hM : ∀ q, A.U.M q → (Vh ph pc).M q := fun q h => by rw [eA] at h; exact h
  refine z_own (i := 1) (ds := [Fl.l ⟨"first", "middle", -1, 1, 1, 0⟩, Fl.l ⟨"middle", "last", 1, 1, 2, 1⟩]) nd rfl (.inl rfl)
    (ja_cons (je_lst (ja_cons (je_tup (ja_cons je_str (ja_cons je_str ja_nil))) (ja_cons (je_tup (ja_cons je_nint (ja_cons je_int ja_nil))) (ja_cons (je_tup (ja_cons je_int (ja_cons je_int ja_nil))) ja_nil))))
      (ja_cons (je_lst (ja_cons (je_tup (ja_cons je_str (ja_cons je_str ja_nil))) (ja_cons (je_tup (ja_cons je_int (ja_cons je_int ja_nil))) (ja_cons (je_tup (ja_cons je_int (ja_cons je_int ja_nil))) ja_nil)))) ja_nil)) (by decide) (fun p => ?_)
  refine z_app (i := 1) (d := Fl.l ⟨"first", "first", 1, 2, 2, 1⟩) hU rfl (pe_bm PySem.F.plainAttrs_list PySem.F.slot_list_append PySem.F.type_list_append mt_append (pv 1) (pa_cons
    (je_lst (ja_cons (je_tup (ja_cons je_str (ja_cons je_str ja_nil))) (ja_cons (je_tup (ja_cons je_int (ja_cons je_int ja_nil))) (ja_cons (je_tup (ja_cons je_int (ja_cons je_int ja_nil))) ja_nil)))) pa_nil)) (by decide) ?_
  refine z_rel (i := 1) hU hM rfl ?_
  refine z_jsF (js_whenR (jt_cmp op_eq (je_next Fx hr (by decide) (je_var rfl (pv 0)) je_int (by decide) (by decide)) je_int (Θ := fun _ => True) (fun x y ⟨i, e1, _⟩ e2 => ⟨decide (i = 0), trivial, ?_⟩) (nomark _)) (fun _ => ?_) (fun _ => ?_))
  · subst e1 e2
    refine o2_of fun S H u v e r1 r2 => ?_
    rw [R.int_iff] at r1 r2
    subst r1 r2
    exact ⟨_, R.bl_iff.mpr rfl, fun Q q => ⟨rfl, by rw [dec_int, Bool.beq_eq_decide_eq]; exact q⟩⟩
  · refine js_one (jst_ret (je_Ty call_list_of rfl z.list (by decide +kernel) (ja_consR (je_ixLR (n := 3) (je_var rfl (pv 1)) (je_next Fx hr (by decide) (je_var rfl (pv 0)) je_int (by decide) (by decide)) (by decide) fl_some) ja_nil) ?_))
    rintro ds ⟨x, r, rfl, ⟨t, rfl, ht⟩, rfl⟩
    exact ⟨t.l, ⟨t, rfl, ht⟩, oc_listL (by show 3 ≤ 1000000; decide)⟩
  · refine js_letR (i := 2) nd rfl (.inl rfl) (je_pair Fp hr (by decide) (je_var rfl (pv 0))) (fun st ⟨x, y, e, hx, hy⟩ => ?_)
    subst e
    refine js_one (jst_ret (je_lstR (ja_consR (je_start Fs hr (by decide) (je_var rfl (pv 0))) (ja_consR (je_ifE (jt_ne hr.units (je_var rfl (pv 2)) (je_tup (ja_cons je_int (ja_cons je_int ja_nil))) rfl rfl) (fun _ => je_var rfl (pv 2)) (fun _ => je_tup (ja_cons je_int (ja_cons je_int ja_nil)))) (ja_consR (je_pair Fp hr (by decide) (je_var rfl (pv 0))) ja_nil))) ?_))
    rintro ds ⟨u, r, rfl, ⟨a, b, rfl, ha, hb⟩, v, r2, rfl, rfl, w', r3, rfl, ⟨f1, g1, rfl, hf, hg⟩, rfl⟩
    refine ⟨Nat.le_of_ble_eq_true rfl, ?_⟩
    by_cases h0 : x = 0 ∧ y = 0
    · obtain ⟨rfl, rfl⟩ := h0
      exact ⟨⟨a, b, 1, 0, f1, g1⟩, rfl, ha, hb, (by show in5 1; decide), (by show in5 0; decide), hf, hg, (by show ¬((1 : Int) = 0 ∧ (0 : Int) = 0); decide)⟩
    · refine ⟨⟨a, b, x, y, f1, g1⟩, ?_, ha, hb, hx, hy, hf, hg, h0⟩
      have : (!eqD (.tup [.int x, .int y]) (.tup [.int 0, .int 0])) = true := by
        show (!(x == 0 && (y == 0 && true))) = true
        by_cases hx0 : x = 0
        · by_cases hy0 : y = 0
          · exact absurd ⟨hx0, hy0⟩ h0
          · simp [hy0]
        · simp [hx0]
      rw [this]
      rfl

theorem okW {s : Str} (h : isW s) : okD (.str s) = true := by
  rcases h with h | h | h <;> (subst h; decide +kernel)
def spotI (w : Str) (n : Int) : Int := if w = "first" then 0 else if w = "last" then n - 1 else (n - 1) / 2
abbrev S_spot_of (P : Program) (w : World) (K : PySem.W.Frag) (mg : Str → Option Value) (base : Heap) (C : Addr) (T : Tx) : Prop := Fn P w K mg base C T "spot_of" 1 ["word", "n"] (pok fun ds r => ∃ w n, ds = [.str w, .int n] ∧ isW w ∧ r = .int (spotI w n))
theorem cdiv2 {i : Int} : CDivW i 2 := wide_div (b := 2) (by decide) (by decide) (by decide) (by decide)
theorem fn_spot_of (d : Df K mg "spot_of" s_spot_of ["word", "n"]) : S_spot_of P w K mg base C T := by
  refine d.pok sc_spot_of (fun ds r ⟨_, _, e, _⟩ => by rw [e]; rfl) (fun f cdv A outer s H E ds r hr ⟨v, n, e1, hw, e2⟩ => ?_)
  subst e1 e2
  have hu := hr.units
  refine js_when (p := decide (v = "first")) (jt_eqS hu (je_var rfl (pv 0)) je_str (okW hw)) (fun h => js_one (jst_retE je_int ?_)) (fun h => js_one (jst_retE (je_ifE (p := decide (v = "last")) (jt_eqS hu (je_var rfl (pv 0)) je_str (okW hw)) (fun _ => je_sub (je_var rfl (pv 1)) je_int) (fun _ => je_div (je_sub (je_var rfl (pv 1)) je_int) je_int cdiv2)) ?_))
  · simp at h; simp [spotI, h]
  · simp at h
    by_cases h2 : v = "last"
    · rw [spotI, if_neg h, if_pos h2, decide_eq_true h2]; rfl
    · rw [spotI, if_neg h, if_neg h2, decide_eq_false h2]; rfl
abbrev begD (t : Fl) (n : Int) : D := .tup [.int (spotI t.a n), .int (spotI t.b n)]
abbrev S_begin_of (P : Program) (w : World) (K : PySem.W.Frag) (mg : Str → Option Value) (base : Heap) (C : Addr) (T : Tx) : Prop := Fn P w K mg base C T "begin_of" 2 ["fill", "n"] (pok fun ds r => ∃ (t : Fl) (n : Int), ds = [t.fil, .int n] ∧ t.ok ∧ r = begD t n)
theorem fn_begin_of (d : Df K mg "begin_of" s_begin_of ["fill", "n"]) (L : Flc K mg C) (Fs : S_spot_of P w K mg base C T) : S_begin_of P w K mg base C T := by
  refine d.pok sc_begin_of (fun ds r ⟨_, _, e, _⟩ => by rw [e]; rfl) (fun f cdv A outer s H E ds r hr ⟨t, n, e1, ht, e2⟩ => ?_)
  subst e1 e2
  exact js_one (jst_retE (je_tup (ja_cons (je_cal Fs hr (by decide) (ja_cons (je_ixT (k := 0) (je_begin L (je_var rfl (pv 0))) je_int rfl) (ja_cons (je_var rfl (pv 1)) ja_nil)) ⟨t.a, n, rfl, ht.a, rfl⟩)
    (ja_cons (je_cal Fs hr (by decide) (ja_cons (je_ixT (k := 1) (je_begin L (je_var rfl (pv 0))) je_int rfl) (ja_cons (je_var rfl (pv 1)) ja_nil)) ⟨t.b, n, rfl, ht.b, rfl⟩) ja_nil))) rfl)
theorem cmul5 {i j : Int} (h : -64 ≤ j ∧ j ≤ 64) : CMul i j := .inr ⟨by omega, by omega⟩
theorem cmul5L {i j : Int} (h : -64 ≤ i ∧ i ≤ 64) : CMul i j := .inl ⟨by omega, by omega⟩

abbrev S_shift_of (P : Program) (w : World) (K : PySem.W.Frag) (mg : Str → Option Value) (base : Heap) (C : Addr) (T : Tx) : Prop := Fn P w K mg base C T "shift_of" 1 ["fill"] (pok fun ds r => ∃ (t : Fl), ds = [t.fil] ∧ r = .tup [.int (t.f - t.d), .int (t.g - t.e)])
theorem fn_shift_of (d : Df K mg "shift_of" s_shift_of ["fill"]) (L : Flc K mg C) : S_shift_of P w K mg base C T := by
  refine d.pok sc_shift_of (fun ds r ⟨_, e, _⟩ => by rw [e]; rfl) (fun f cdv A outer s H E ds r hr ⟨t, e1, e2⟩ => ?_)
  subst e1 e2
  exact js_one (jst_retE (je_tup (ja_cons (je_sub (je_ixT (k := 0) (je_other L (je_var rfl (pv 0))) je_int rfl) (je_ixT (k := 0) (je_plain L (je_var rfl (pv 0))) je_int rfl))
    (ja_cons (je_sub (je_ixT (k := 1) (je_other L (je_var rfl (pv 0))) je_int rfl) (je_ixT (k := 1) (je_plain L (je_var rfl (pv 0))) je_int rfl)) ja_nil))) rfl)

def Fl.wh (t : Fl) : Int := t.d * t.g - t.e * t.f
theorem wh_abs {t : Fl} (h : t.ok) : t.wh.natAbs ≤ 8 := by
  have k : ∀ a b : Int, in5 a → in5 b → (a * b).natAbs ≤ 4 := fun a b h1 h2 => by
    rw [Int.natAbs_mul]
    exact Nat.le_trans (Nat.mul_le_mul (show a.natAbs ≤ 2 by omega) (show b.natAbs ≤ 2 by omega)) (by decide)
  have k1 := k _ _ h.d h.g
  have k2 := k _ _ h.e h.f
  unfold Fl.wh
  omega

def BIG : Int := 1000000000000000000000000000000
theorem big_nat {n : Int} (h0 : 0 ≤ n) (h : n ≤ BIG) : n.natAbs < 2 ^ 100 := by
  have : n.natAbs ≤ 1000000000000000000000000000000 := by unfold BIG at h; omega
  exact Nat.lt_of_le_of_lt this (by decide)
theorem big_natA {n : Int} (h0 : -BIG ≤ n) (h : n ≤ BIG) : n.natAbs < 2 ^ 100 := by
  have : n.natAbs ≤ 1000000000000000000000000000000 := by unfold BIG at h h0; omega
  exact Nat.lt_of_le_of_lt this (by decide)
theorem big_div {i n : Int} (h0 : 0 < n) (h : n ≤ BIG) : CDivW i n := wide_div (b := 100) h0 (big_nat (by omega) h) (by decide) (by decide)
theorem big_mul {i j : Int} (h0 : -BIG ≤ i) (h : i ≤ BIG) (h2 : -BIG ≤ j) (h3 : j ≤ BIG) : CMulW i j := wide_mul (a := 100) (b := 100) (big_natA h0 h) (big_natA h2 h3) (by decide) (by decide) (by decide)
abbrev S_is_integer (P : Program) (w : World) (K : PySem.W.Frag) (mg : Str → Option Value) (base : Heap) (C : Addr) (T : Tx) : Prop := Fn P w K mg base C T "is_integer" 1 ["value", "least", "most"] (pok fun ds r => ∃ x lo hi, ds = [x, .int lo, .int hi] ∧ RQ.plain x = true ∧ r = .bl (isIntD x lo hi))
theorem intD_of {x : D} {lo hi : Int} (h : isIntD x lo hi = true) : ∃ i, x = .int i ∧ lo ≤ i ∧ i ≤ hi := by
  cases x <;> simp [isIntD] at h
  exact ⟨_, rfl, h.1, h.2⟩
def cR (t : Fl) (n k : Int) : Int := (spotI t.a n + k % n * t.d + k / n * (t.f - t.d)) % n
def cC (t : Fl) (n k : Int) : Int := (spotI t.b n + k % n * t.e + k / n * (t.g - t.e)) % n
def cellD (t : Fl) (n k : Int) : D := .tup [.int (cR t n k), .int (cC t n k)]
theorem mod_range (a : Int) {n : Int} (h : 0 < n) : 0 ≤ a % n ∧ a % n < n := ⟨Int.emod_nonneg _ (by omega), Int.emod_lt_of_pos _ h⟩
theorem spot_range {w : Str} {n : Int} (h : 0 < n) : 0 ≤ spotI w n ∧ spotI w n < n := by
  unfold spotI
  split
  · omega
  · split <;> omega
theorem rngD_nat {n : Int} (h : 0 ≤ n) : rngD 0 n.toNat = (List.range n.toNat).map fun (k : Nat) => D.int (k : Int) := by
  unfold rngD
  apply List.map_congr_left
  intro k _
  rw [Int.zero_add]

abbrev S_own_cell (P : Program) (w : World) (K : PySem.W.Frag) (mg : Str → Option Value) (base : Heap) (C : Addr) (T : Tx) : Prop := Fn P w K mg base C T "own_cell" 3 ["fill", "n", "number"] (pok fun ds r => ∃ (t : Fl) (n m : Int), ds = [t.fil, .int n, .int m] ∧ t.ok ∧ 0 < n ∧ n ≤ BIG ∧ r = cellD t n (m - 1))
theorem fn_own_cell (d : Df K mg "own_cell" s_own_cell ["fill", "n", "number"]) (L : Flc K mg C) (Fb : S_begin_of P w K mg base C T) (Fs : S_shift_of P w K mg base C T) : S_own_cell P w K mg base C T := by
  refine d.pok sc_own_cell (fun ds r ⟨_, _, _, e, _⟩ => by rw [e]; rfl) (fun f cdv A outer s H E ds r hr ⟨t, n, m, e1, ht, h0, h1, e2⟩ => ?_)
  subst e1 e2
  have nd := sc_own_cell.nd
  have b1 := ht.d
  have b2 := ht.e
  have b3 := ht.f
  have b4 := ht.g
  refine js_unp (is := [3, 4]) rfl (je_cal Fb hr (by decide) (ja_cons (je_var rfl (pv 0)) (ja_cons (je_var rfl (pv 1)) ja_nil)) ⟨t, n, rfl, ht, rfl⟩) (pgs_cons (pg_name nd rfl (.inl rfl)) (pgs_cons (pg_name nd rfl (.inl rfl)) pgs_nil)) rfl ?_
  refine js_cons (jst_par (i := 5) (j := 6) rfl nd rfl rfl (by decide) rfl rfl (ja_cons (je_div (je_sub (je_var rfl (pv 2)) je_int) (je_var rfl (pv 1)) (big_div h0 h1)) (ja_cons (je_mod (je_sub (je_var rfl (pv 2)) je_int) (je_var rfl (pv 1)) h0) ja_nil)) (fun ds e => by subst e; rfl) rfl) fun env' ⟨d1, d2, e1, e2⟩ => ?_
  cases e1
  subst e2
  refine js_let (i := 7) nd rfl (.inl rfl) (je_cal Fs hr (by decide) (ja_cons (je_var rfl (pv 0)) ja_nil) ⟨t, rfl, rfl⟩) ?_
  refine js_let (i := 8) nd rfl (.inl rfl) (je_add (je_add (je_var rfl (pv 3)) (je_mul (je_var rfl (pv 6)) (je_ixT (k := 0) (je_plain L (je_var rfl (pv 0))) je_int rfl) (cmul5 ⟨by omega, by omega⟩))) (je_mul (je_var rfl (pv 5)) (je_ixT (k := 0) (je_var rfl (pv 7)) je_int rfl) (cmul5 ⟨by omega, by omega⟩))) ?_
  refine js_let (i := 9) nd rfl (.inl rfl) (je_add (je_add (je_var rfl (pv 4)) (je_mul (je_var rfl (pv 6)) (je_ixT (k := 1) (je_plain L (je_var rfl (pv 0))) je_int rfl) (cmul5 ⟨by omega, by omega⟩))) (je_mul (je_var rfl (pv 5)) (je_ixT (k := 1) (je_var rfl (pv 7)) je_int rfl) (cmul5 ⟨by omega, by omega⟩))) ?_
  exact js_one (jst_retE (je_tup (ja_cons (je_mod (je_var rfl (pv 8)) (je_var rfl (pv 1)) h0) (ja_cons (je_mod (je_var rfl (pv 9)) (je_var rfl (pv 1)) h0) ja_nil))) rfl)

/-- own_cell, its tuple to be a key -/
def cellI (t : Fl) (n k : Int) : Int × Int := (cR t n k, cC t n k)
abbrev S_own_cellK (P : Program) (w : World) (K : PySem.W.Frag) (mg : Str → Option Value) (base : Heap) (C : Addr) (T : Tx) : Prop := FnCg P w K mg base C T "own_cell" 3 ["fill", "n", "number"] (fun V ds Ψ => ∃ (t : Fl) (n m : Int), ds = [t.fil, .int n, .int m] ∧ t.ok ∧ 0 < n ∧ n ≤ BIG ∧ Ψ = fun r V' => ∃ b, r = .ok (.raw (.ref b)) ∧ V' = V.seen b (.tup ((keyT (cellI t n (m - 1))).map kV)))
theorem fn_own_cellK (d : Df K mg "own_cell" s_own_cell ["fill", "n", "number"]) (L : Flc K mg C) (Fb : S_begin_of P w K mg base C T) (Fs : S_shift_of P w K mg base C T) : S_own_cellK P w K mg base C T := by
  refine d.fnHg sc_own_cell (fun V ds Ψ ⟨_, _, _, e, _⟩ => by rw [e]; rfl) (fun f cdv A' outer s H E A V ds Ψ hr tk ⟨t, n, m, e1, ht, h0, h1, e2⟩ => ?_)
  subst e1 e2
  have nd := sc_own_cell.nd
  have b1 := ht.d
  have b2 := ht.e
  have b3 := ht.f
  have b4 := ht.g
  refine g_unp (is := [3, 4]) rfl (je_cal Fb hr (by decide) (ja_cons (je_var rfl (pv 0)) (ja_cons (je_var rfl (pv 1)) ja_nil)) ⟨t, n, rfl, ht, rfl⟩) (pgs_cons (pg_name nd rfl (.inl rfl)) (pgs_cons (pg_name nd rfl (.inl rfl)) pgs_nil)) rfl ?_
  refine g_seq (jst_par (i := 5) (j := 6) rfl nd rfl rfl (by decide) rfl rfl (ja_cons (je_div (je_sub (je_var rfl (pv 2)) je_int) (je_var rfl (pv 1)) (big_div h0 h1)) (ja_cons (je_mod (je_sub (je_var rfl (pv 2)) je_int) (je_var rfl (pv 1)) h0) ja_nil)) (fun ds e => by subst e; rfl) rfl) fun env' ⟨d1, d2, e1, e2⟩ => ?_
  cases e1
  subst e2
  refine g_let (i := 7) nd rfl (.inl rfl) (je_cal Fs hr (by decide) (ja_cons (je_var rfl (pv 0)) ja_nil) ⟨t, rfl, rfl⟩) ?_
  refine g_let (i := 8) nd rfl (.inl rfl) (je_add (je_add (je_var rfl (pv 3)) (je_mul (je_var rfl (pv 6)) (je_ixT (k := 0) (je_plain L (je_var rfl (pv 0))) je_int rfl) (cmul5 ⟨by omega, by omega⟩))) (je_mul (je_var rfl (pv 5)) (je_ixT (k := 0) (je_var rfl (pv 7)) je_int rfl) (cmul5 ⟨by omega, by omega⟩))) ?_
  refine g_let (i := 9) nd rfl (.inl rfl) (je_add (je_add (je_var rfl (pv 4)) (je_mul (je_var rfl (pv 6)) (je_ixT (k := 1) (je_plain L (je_var rfl (pv 0))) je_int rfl) (cmul5 ⟨by omega, by omega⟩))) (je_mul (je_var rfl (pv 5)) (je_ixT (k := 1) (je_var rfl (pv 7)) je_int rfl) (cmul5 ⟨by omega, by omega⟩))) ?_
  exact g_one (g_retKey (ja_cons (je_mod (je_var rfl (pv 8)) (je_var rfl (pv 1)) h0) (ja_cons (je_mod (je_var rfl (pv 9)) (je_var rfl (pv 1)) h0) ja_nil)) fun b => ⟨b, rfl, rfl⟩)

def sizeR (x : D) (m : Int) : Except Err D := if isIntD x 1 m = true then .ok .non else .error ⟨2, []⟩
abbrev S_look_at_size (P : Program) (w : World) (K : PySem.W.Frag) (mg : Str → Option Value) (base : Heap) (C : Addr) (T : Tx) : Prop := Fn P w K mg base C T "look_at_size" 2 ["n", "most"] (pur fun ds r => ∃ x m, ds = [x, .int m] ∧ RQ.plain x = true ∧ r = sizeR x m)
theorem fn_look_at_size (d : Df K mg "look_at_size" s_look_at_size ["n", "most"]) (Fi : S_is_integer P w K mg base C T) (E2 : Ec K mg T 2 "InvalidSize") : S_look_at_size P w K mg base C T := by
  refine d.pur sc_look_at_size (fun ds r ⟨_, _, e, _⟩ => by rw [e]; rfl) (fun f cdv A outer s H E ds r hr tk ⟨x, m, e1, hp, e2⟩ => ?_)
  subst e1 e2
  refine js_when (p := !isIntD x 1 m) (jt_not (jt_valE (je_cal Fi hr (by decide) (ja_cons (je_var rfl (pv 0)) (ja_cons je_int (ja_cons (je_var rfl (pv 1)) ja_nil))) ⟨x, 1, m, rfl, hp, rfl⟩))) (fun h => js_one (jst_raise0 rfl tk E2 ?_)) (fun h => js_nil.imp (fun _ _ => ?_) (fun _ z => z) fun _ z => z)
  · have h' : isIntD x 1 m = false := by simpa using h
    simp [sizeR, h']
  · have h' : isIntD x 1 m = true := by simpa using h
    simp [sizeR, h']

abbrev S__law_spot (P : Program) (w : World) (K : PySem.W.Frag) (mg : Str → Option Value) (base : Heap) (C : Addr) (T : Tx) : Prop := Fn P w K mg base C T "_law_spot" 1 ["_law_word", "_law_n"] (pok fun ds r => ∃ w n, ds = [.str w, .int n] ∧ isW w ∧ r = .int (spotI w n))
theorem fn__law_spot (d : Df K mg "_law_spot" s__law_spot ["_law_word", "_law_n"]) : S__law_spot P w K mg base C T := by
  refine d.pok sc__law_spot (fun ds r ⟨_, _, e, _⟩ => by rw [e]; rfl) (fun f cdv A outer s H E ds r hr ⟨v, n, e1, hw, e2⟩ => ?_)
  subst e1 e2
  have hu := hr.units
  refine js_one (jst_retE (je_dget (z := .int (spotI v n)) (l := [("first", .int 0), ("last", .int (n - 1)), ("middle", .int ((n + 1) / 2 - 1))]) (hu_of hr) (jp_cons je_int (jp_cons (je_sub (je_var rfl (pv 1)) je_int) (jp_cons (je_sub (je_div (je_add (je_var rfl (pv 1)) je_int) je_int cdiv2) je_int) jp_nil))) (je_var rfl (pv 0)) ?_ (by show (["first", "last", "middle"] : List Str).Nodup; decide +kernel) (by show 3 ≤ 15; decide) (fun _ _ => rfl)) rfl)
  rcases hw with h | h | h
  · subst h; rfl
  · subst h
    have e : (n + 1) / 2 - 1 = (n - 1) / 2 := by omega
    rw [e]; rfl
  · subst h; rfl
abbrev S__law_round (P : Program) (w : World) (K : PySem.W.Frag) (mg : Str → Option Value) (base : Heap) (C : Addr) (T : Tx) : Prop := Fn P w K mg base C T "_law_round" 1 ["_law_number", "_law_n"] (pok fun ds r => ∃ a n : Int, ds = [.int a, .int n] ∧ 0 < n ∧ n ≤ BIG ∧ a.natAbs < 2 ^ 300 ∧ r = .int (a % n))
theorem fn__law_round (d : Df K mg "_law_round" s__law_round ["_law_number", "_law_n"]) : S__law_round P w K mg base C T := by
  refine d.pok sc__law_round (fun ds r ⟨_, _, e, _⟩ => by rw [e]; rfl) (fun f cdv A outer s H E ds r hr ⟨a, n, e1, h0, h1, h2, e2⟩ => ?_)
  subst e1 e2
  refine js_one (jst_retE (je_sub (je_var rfl (pv 0)) (je_mulW (je_div (je_var rfl (pv 0)) (je_var rfl (pv 1)) (big_div h0 h1)) (je_var rfl (pv 1)) (wide_mul (a := 301) (b := 100) ?_ (big_nat (by omega) h1) (by decide) (by decide) (by decide)))) ?_)
  · have hx : (a / n).natAbs ≤ a.natAbs + 1 := by
      have k1 : a / n ≤ a.natAbs := by
        rcases Int.le_total 0 a with h | h
        · have := Int.ediv_le_self n h; omega
        · have : a / n ≤ 0 := by
            have := Int.ediv_le_ediv h0 h
            simpa using this
          omega
      have k2 : -(a.natAbs : Int) - 1 ≤ a / n := by
        have e3 : -(a.natAbs : Int) - 1 = (-(a.natAbs : Int) - 1) / 1 := by simp
        rcases Int.le_total 0 a with h | h
        · have := Int.ediv_nonneg h (Int.le_of_lt h0); omega
        · rw [Int.le_ediv_iff_mul_le h0]
          have k3 : (-(a.natAbs : Int) - 1) * n ≤ (-(a.natAbs : Int) - 1) * 1 := Int.mul_le_mul_of_nonpos_left (by omega) (by omega)
          omega
      omega
    exact Nat.lt_of_le_of_lt hx (by have := (show (2:Nat) ^ 301 = 2 ^ 300 + 2 ^ 300 by decide); omega)
  · have : a % n = a - a / n * n := by rw [Int.emod_def, Int.mul_comm]
    rw [this]
theorem small_nat {a : Int} (h0 : -1000000 ≤ a) (h1 : a ≤ 1000000) : a.natAbs < 2 ^ 300 := Nat.lt_of_le_of_lt (show a.natAbs ≤ 1000000 by omega) (by decide)

theorem spot_mod {w : Str} {n : Int} (h : 0 < n) : spotI w n % n = spotI w n := Int.emod_eq_of_lt (spot_range h).1 (spot_range h).2
theorem cR_zero {t : Fl} {n : Int} (h : 0 < n) : cR t n 0 = spotI t.a n := by simp [cR, spot_mod h]
theorem cC_zero {t : Fl} {n : Int} (h : 0 < n) : cC t n 0 = spotI t.b n := by simp [cC, spot_mod h]
theorem walk_step (sp d f n k : Int) (h : 0 < n) : (sp + (k + 1) % n * d + (k + 1) / n * (f - d)) % n = ((sp + k % n * d + k / n * (f - d)) % n + (if (k + 1) % n = 0 then f else d)) % n := by
  rw [Int.emod_add_emod]
  have e0 := Int.emod_add_mul_ediv k n
  have m0 := Int.emod_nonneg k (show n ≠ 0 by omega)
  have m1 := Int.emod_lt_of_pos k h
  by_cases hs : k % n = n - 1
  · have ek : k + 1 = n * (k / n + 1) := by rw [Int.mul_add, Int.mul_one]; omega
    have q : (k + 1) / n = k / n + 1 := by rw [ek]; exact Int.mul_ediv_cancel_left _ (by omega)
    have r : (k + 1) % n = 0 := by rw [ek]; exact Int.mul_emod_right _ _
    rw [q, r, if_pos rfl, hs]
    have : sp + (n - 1) * d + k / n * (f - d) + f = (sp + 0 * d + (k / n + 1) * (f - d)) + n * d := by
      rw [Int.sub_mul, Int.add_mul]; omega
    rw [this, Int.add_mul_emod_self_left]
  · have ek : k + 1 = (k % n + 1) + n * (k / n) := by omega
    have q : (k + 1) / n = k / n := by
      rw [ek, Int.add_mul_ediv_left _ _ (by omega), Int.ediv_eq_zero_of_lt (by omega) (by omega)]; omega
    have r : (k + 1) % n = k % n + 1 := by rw [ek, Int.add_mul_emod_self_left, Int.emod_eq_of_lt (by omega) (by omega)]
    rw [q, r, if_neg (by omega), Int.add_mul]
    congr 1
    omega
theorem cR_step {t : Fl} {n k : Int} (h : 0 < n) : cR t n (k + 1) = (cR t n k + (if (k + 1) % n = 0 then t.f else t.d)) % n := walk_step _ _ _ _ _ h
theorem cC_step {t : Fl} {n k : Int} (h : 0 < n) : cC t n (k + 1) = (cC t n k + (if (k + 1) % n = 0 then t.g else t.e)) % n := walk_step _ _ _ _ _ h
def walkL (t : Fl) (n : Int) (m : Nat) : List D := (List.range m).map fun (k : Nat) => cellD t n k
abbrev S__law_walk (P : Program) (w : World) (K : PySem.W.Frag) (mg : Str → Option Value) (base : Heap) (C : Addr) (T : Tx) : Prop := Fn P w K mg base C T "_law_walk" 2 ["_law_t", "_law_n"] (pok fun ds r => ∃ (t : Fl) (n : Int), ds = [t.l, .int n] ∧ t.ok ∧ 0 < n ∧ n ≤ 900 ∧ r = .lst (walkL t n (n * n).toNat))
theorem fn__law_walk (d : Df K mg "_law_walk" s__law_walk ["_law_t", "_law_n"]) (z : Zb mg) (Fs : S__law_spot P w K mg base C T) (Fr : S__law_round P w K mg base C T) : S__law_walk P w K mg base C T := by
  refine d.pok sc__law_walk (fun ds r ⟨_, _, e, _⟩ => by rw [e]; rfl) (fun f cdv A outer s H E ds r hr ⟨t, n, e1, ht, h0, h1, e2⟩ => ?_)
  subst e1 e2
  have hu := hr.units
  have nd := sc__law_walk.nd
  have b1 := ht.d
  have b2 := ht.e
  have b3 := ht.f
  have b4 := ht.g
  have hB : n ≤ BIG := by unfold BIG; omega
  have nn : n * n ≤ 900 * 900 := Int.mul_le_mul h1 h1 (by omega) (by omega)
  have n1 : 1 * 1 ≤ n * n := Int.mul_le_mul (by omega) (by omega) (by omega) (by omega)
  refine z_start fun A eA => ?_
  have hU : ∀ S H, V0.J S H → A.U.J S H := fun S H h => by rw [eA]; exact h
  have hM : ∀ q, A.U.M q → V0.M q := fun q h => by rw [eA] at h; exact h
  refine z_seq (jst_par (i := 2) (j := 3) rfl nd rfl rfl (by decide) rfl rfl (ja_cons (je_cal Fs hr (by decide) (ja_cons (je_ixT (k := 0) (je_ixL (k := 0) (je_var rfl (pv 0)) je_int rfl) je_int rfl) (ja_cons (je_var rfl (pv 1)) ja_nil)) ⟨t.a, n, rfl, ht.a, rfl⟩) (ja_cons (je_cal Fs hr (by decide) (ja_cons (je_ixT (k := 1) (je_ixL (k := 0) (je_var rfl (pv 0)) je_int rfl) je_int rfl) (ja_cons (je_var rfl (pv 1)) ja_nil)) ⟨t.b, n, rfl, ht.b, rfl⟩) ja_nil)) (fun ds e => by subst e; rfl) rfl) fun env' ⟨d1, d2, e1, e2⟩ => ?_
  cases e1
  subst e2
  refine z_own (i := 4) (ds := [.tup [.int (spotI t.a n), .int (spotI t.b n)]]) nd rfl (.inl rfl) (ja_cons (je_tup (ja_cons (je_var rfl (pv 2)) (ja_cons (je_var rfl (pv 3)) ja_nil))) ja_nil) (by show 1 ≤ 1000000; decide) (fun p => ?_)
  refine z_cons (N1 := fun env V => ∃ e5 e6 : En, env = [.d t.l, .d (.int n), .d (.int (cR t n ((n * n).toNat - 1 : Nat))), .d (.int (cC t n ((n * n).toNat - 1 : Nat))), .d (.raw (.ref p)), e5, e6] ∧ V = V0.own K C p (walkL t n (n * n).toNat)) ?_ fun env' V' ⟨e5, e6, e1, e2⟩ => ?_
  · refine z_for (bind := bN 5) (Φl := (· = rngD 1 (n * n - 1).toNat)) (fun _ i env V => ∃ e5 e6 : En, env = [.d t.l, .d (.int n), .d (.int (cR t n (i : Nat))), .d (.int (cC t n (i : Nat))), .d (.raw (.ref p)), e5, e6] ∧ V = V0.own K C p (walkL t n (i + 1)))
      (passes_of rfl) rfl (ji_range2 je_int (je_mulW (je_var rfl (pv 1)) (je_var rfl (pv 1)) (big_mul (by unfold BIG; omega) hB (by unfold BIG; omega) hB)) ⟨by omega, by omega, by omega, by omega⟩ rfl z.range) (jg_name nd rfl (.inl rfl)) (fun ds i d envI VI _ _ _ => ⟨_, rfl⟩) ?_ ?_ ?_
    · rintro ds rfl
      refine ⟨.un, .un, ?_, ?_⟩
      · show _ = [En.d t.l, .d (.int n), .d (.int (cR t n 0)), .d (.int (cC t n 0)), _, _, _]
        rw [cR_zero h0, cC_zero h0]; rfl
      · show _ = V0.own K C p [cellD t n 0]
        unfold cellD
        rw [cR_zero h0, cC_zero h0]
        rfl
    · rintro ds envI VI rfl ⟨e5, e6, e1, e2⟩
      rw [rngD_length] at e1 e2
      have e3 : (n * n - 1).toNat = (n * n).toNat - 1 := by omega
      have e4 : (n * n).toNat - 1 + 1 = (n * n).toNat := by omega
      rw [e3] at e1 e2
      rw [e4] at e2
      exact ⟨e5, e6, e1, e2⟩
    · rintro ⟨ds, i, d, envI, VI, envB⟩ ⟨hΦ, hd, ⟨e5, e6, e1, e2⟩, hB'⟩
      dsimp only at hΦ hd e1 e2 hB' ⊢
      have hB2 : envB = envI.set 5 (.d d) := hB'
      subst hΦ
      have hi : i < (n * n - 1).toNat := by
        have := (List.getElem?_eq_some_iff.mp hd).1
        rw [rngD_length] at this
        exact this
      rw [rngD_get hi] at hd
      obtain rfl := Option.some.inj hd
      subst e1 e2 hB2
      have r1 := mod_range (spotI t.a n + (i : Int) % n * t.d + (i : Int) / n * (t.f - t.d)) h0
      have r2 := mod_range (spotI t.b n + (i : Int) % n * t.e + (i : Int) / n * (t.g - t.e)) h0
      have r1' : 0 ≤ cR t n i ∧ cR t n i < n := r1
      have r2' : 0 ≤ cC t n i ∧ cC t n i < n := r2
      refine z_seq (jst_set (i := 6) (Φ := (· = .tup [.int (if ((i : Int) + 1) % n = 0 then t.f else t.d), .int (if ((i : Int) + 1) % n = 0 then t.g else t.e)])) nd rfl (.inl rfl) (JE.to (je_ifE (p := decide ((1 + (i : Int)) % n = 0)) (jt_eqI hu (je_cal Fr hr (by decide) (ja_cons (je_var rfl (pv 5)) (ja_cons (je_var rfl (pv 1)) ja_nil)) ⟨1 + (i : Int), n, rfl, h0, hB, small_nat (by omega) (by omega), rfl⟩) je_int)
        (fun _ => je_ixL (k := 2) (z := t.q) (je_var rfl (pv 0)) je_int rfl) (fun _ => je_ixL (k := 1) (z := t.p) (je_var rfl (pv 0)) je_int rfl)) ?_)) fun env' ⟨d2, e1, e2⟩ => ?_
      · rw [Int.add_comm 1 (i : Int)]
        by_cases hc : ((i : Int) + 1) % n = 0
        · rw [if_pos hc, if_pos hc, decide_eq_true hc]; rfl
        · rw [if_neg hc, if_neg hc, decide_eq_false hc]; rfl
      · subst e1 e2
        have m1 : -2 ≤ (if ((i : Int) + 1) % n = 0 then t.f else t.d) ∧ (if ((i : Int) + 1) % n = 0 then t.f else t.d) ≤ 2 := by split <;> omega
        have m2 : -2 ≤ (if ((i : Int) + 1) % n = 0 then t.g else t.e) ∧ (if ((i : Int) + 1) % n = 0 then t.g else t.e) ≤ 2 := by split <;> omega
        refine z_seq (jst_par (i := 2) (j := 3) rfl nd rfl rfl (by decide) rfl rfl (ja_cons (je_cal Fr hr (by decide) (ja_cons (je_add (je_var rfl (pv 2)) (je_ixT (k := 0) (je_var rfl (pv 6)) je_int rfl)) (ja_cons (je_var rfl (pv 1)) ja_nil)) ⟨_, n, rfl, h0, hB, small_nat (by omega) (by omega), rfl⟩) (ja_cons (je_cal Fr hr (by decide) (ja_cons (je_add (je_var rfl (pv 3)) (je_ixT (k := 1) (je_var rfl (pv 6)) je_int rfl)) (ja_cons (je_var rfl (pv 1)) ja_nil)) ⟨_, n, rfl, h0, hB, small_nat (by omega) (by omega), rfl⟩) ja_nil)) (fun ds e => by subst e; rfl) rfl) fun env' ⟨d1, d2, e1, e2⟩ => ?_
        cases e1
        subst e2
        refine z_one ((z_appR (i := 4) (Φ := (· = cellD t n ((i : Int) + 1))) hU rfl (pe_bm PySem.F.plainAttrs_list PySem.F.slot_list_append PySem.F.type_list_append mt_append (pv 4) (pa_cons (JE.to (je_tup (ja_cons (je_var rfl (pv 2)) (ja_cons (je_var rfl (pv 3)) ja_nil))) ?_) pa_nil)) ?_).imp ?_)
        · unfold cellD; rw [cR_step h0, cC_step h0]
        · simp [walkL]; omega
        · rintro env' V' ⟨d3, e1, e2, e3⟩
          subst e1 e2 e3
          refine ⟨.d (.int (1 + (i : Int))), .d (.tup [.int (if ((i : Int) + 1) % n = 0 then t.f else t.d), .int (if ((i : Int) + 1) % n = 0 then t.g else t.e)]), ?_, ?_⟩
          · rw [show ((i + 1 : Nat) : Int) = (i : Int) + 1 by omega, cR_step h0, cC_step h0]; rfl
          · unfold walkL
            rw [List.range_succ (n := i + 1), List.map_append]
            rfl
  · subst e1 e2
    refine z_rel (i := 4) hU hM rfl ?_
    exact z_one (z_ret (je_var rfl (pv 4)))

/-- one number more: the numbers by cells, those that came to a cell that was not empty -/
def stepT (t : Fl) (n : Int) (p : Tab × List Int) (k : Int) : Tab × List Int := if (tat p.1 (cellI t n (k - 1))).isSome = true then (p.1, p.2 ++ [k]) else (p.1 ++ [(cellI t n (k - 1), k)], p.2)
def stT (t : Fl) (n : Int) : Nat → Tab × List Int
  | 0 => ([], [])
  | k + 1 => stepT t n (stT t n k) ((k : Int) + 1)
theorem tat_none : ∀ {l : Tab} {x : Int × Int}, tat l x = none → x ∉ l.map (·.1)
  | [], _, _, h => by cases h
  | p :: l, x, h, m => by
    by_cases e : p.1 = x
    · rw [tat_pos e] at h; cases h
    · rw [tat_neg e] at h
      rcases List.mem_cons.mp m with m | m
      · exact e m.symm
      · exact tat_none h m
theorem cell_in {t : Fl} {n k : Int} (h0 : 0 < n) (h1 : n ≤ 9) : inT (cellI t n k) := by
  have a : 0 ≤ cR t n k ∧ cR t n k < n := mod_range _ h0
  have b : 0 ≤ cC t n k ∧ cC t n k < n := mod_range _ h0
  exact ⟨⟨a.1, by show cR t n k < 10; omega⟩, b.1, by show cC t n k < 10; omega⟩
theorem stT_ok {t : Fl} {n : Int} (h0 : 0 < n) (h1 : n ≤ 9) : ∀ k : Nat, (∀ x ∈ (stT t n k).1, inT x.1) ∧ ((stT t n k).1.map (·.1)).Nodup ∧ (stT t n k).1.length ≤ k ∧ (stT t n k).2.length ≤ k
  | 0 => ⟨(fun x h => by cases h), List.nodup_nil, Nat.le_refl _, Nat.le_refl _⟩
  | k + 1 => by
    obtain ⟨a1, a2, a3, a4⟩ := stT_ok (t := t) h0 h1 k
    rw [show stT t n (k + 1) = stepT t n (stT t n k) ((k : Int) + 1) from rfl]
    unfold stepT
    by_cases e : (tat (stT t n k).1 (cellI t n ((k : Int) + 1 - 1))).isSome = true
    · rw [if_pos e]
      exact ⟨a1, a2, Nat.le_succ_of_le a3, by simp; omega⟩
    · rw [if_neg e]
      have e' : tat (stT t n k).1 (cellI t n ((k : Int) + 1 - 1)) = none := by simpa using e
      refine ⟨fun x hx => ?_, ?_, by simp; omega, Nat.le_succ_of_le a4⟩
      · rcases List.mem_append.mp hx with hx | hx
        · exact a1 x hx
        · rw [List.mem_singleton.mp hx]; exact cell_in h0 h1
      · rw [List.map_append]
        refine List.nodup_append.mpr ⟨a2, List.nodup_cons.mpr ⟨List.not_mem_nil, List.nodup_nil⟩, fun q hq q' hq' e => ?_⟩
        rw [e, List.mem_singleton.mp hq'] at hq
        exact tat_none e' hq
/-- what a call found -/
def fndT (t : Fl) (n : Int) (b i : Nat) : List Int := (stT t n (b + i)).2.drop (stT t n b).2.length
theorem stT_len {t : Fl} {n : Int} (b : Nat) : ∀ i : Nat, (stT t n b).2.length ≤ (stT t n (b + i)).2.length
  | 0 => Nat.le_refl _
  | i + 1 => by
    refine Nat.le_trans (stT_len b i) ?_
    show _ ≤ (stepT t n (stT t n (b + i)) _).2.length
    unfold stepT
    split
    · simp
    · exact Nat.le_refl _
theorem fndT_zero {t : Fl} {n : Int} {b : Nat} : fndT t n b 0 = [] := by unfold fndT; exact List.drop_length
theorem fndT_succ {t : Fl} {n : Int} {b i : Nat} : fndT t n b (i + 1) = if (tat (stT t n (b + i)).1 (cellI t n (b + i : Nat))).isSome = true then fndT t n b i ++ [((b + i : Nat) : Int) + 1] else fndT t n b i := by
  unfold fndT
  rw [show stT t n (b + (i + 1)) = stepT t n (stT t n (b + i)) (((b + i : Nat) : Int) + 1) from rfl]
  unfold stepT
  rw [show ((b + i : Nat) : Int) + 1 - 1 = ((b + i : Nat) : Int) by omega]
  split
  · exact List.drop_append_of_le_length (stT_len b i)
  · rfl
theorem stT_app {t : Fl} {n : Int} (b : Nat) : ∀ i : Nat, (stT t n (b + i)).2 = (stT t n b).2 ++ fndT t n b i
  | 0 => by rw [fndT_zero, List.append_nil]; rfl
  | i + 1 => by
    rw [fndT_succ, show stT t n (b + (i + 1)) = stepT t n (stT t n (b + i)) (((b + i : Nat) : Int) + 1) from rfl]
    unfold stepT
    rw [show ((b + i : Nat) : Int) + 1 - 1 = ((b + i : Nat) : Int) by omega]
    split
    · rw [stT_app b i, List.append_assoc]
    · exact stT_app b i
/-- the rows that a painter shows -/
def rowsT (t : Fl) (n : Int) (k : Nat) : D := .tup ((List.range n.toNat).map fun (r : Nat) => .tup ((List.range n.toNat).map fun (c : Nat) => .int ((tat (stT t n k).1 ((r : Int), (c : Int))).getD 0)))
def lastT (t : Fl) (n : Int) (k : Nat) : D := if 0 < k then .tup [.int k, cellD t n ((k : Int) - 1)] else .non
def clashT (t : Fl) (n : Int) (k : Nat) : D := .tup ((stT t n k).2.map .int)
/-- a state of a painter -/
def entD (t : Fl) (n : Int) (k : Nat) : D := .tup [.int k, .tbl (stT t n k).1, clashT t n k]
def pF (t : Fl) (n : Int) (q : Addr) : List (Str × D) := [("source", t.fil), ("size", .int n), ("states", .raw (.ref q))]
def _root_.RQ.Vo.pnt (V : Vo) (K : PySem.W.Frag) (C Cp a q : Addr) (t : Fl) (n : Int) (ks : List Nat) : Vo := (V.own K C q (ks.map (entD t n))).obj K C Cp a (pF t n q)
theorem at_last {ks : List Nat} {f : Nat → D} (h : ks ≠ []) : atD (ks.map f) (-1) = some (f (ks.getLast h)) := by
  have e : ks.map f = (ks.dropLast.map f) ++ [f (ks.getLast h)] := by
    conv => lhs; rw [← List.dropLast_concat_getLast h]
    rw [List.map_append]; rfl
  rw [e]
  exact atI_last _ _
structure Pnc (K : PySem.W.Frag) (Cp : Addr) : Prop where
  c : Cls K Cp
  n0 : NoAttr K Cp "source"
  n1 : NoAttr K Cp "size"
  n2 : NoAttr K Cp "states"

abbrev S_Painter (P : Program) (w : World) (K : PySem.W.Frag) (mg : Str → Option Value) (base : Heap) (C : Addr) (T : Tx) (Cp : Addr) : Prop := Mkg P w K mg base C T Cp "Painter" 3 ["self", "fill", "n"] fun xs Θ => ∃ (t : Fl) (x : D), xs = [t.fil, x] ∧ t.ok ∧ RQ.plain x = true ∧
  Θ = fun a V0 r V' => (isIntD x 1 40 = false ∧ r = .error ⟨2, []⟩ ∧ V' = V0.obj K C Cp a []) ∨ ∃ n q, x = .int n ∧ isIntD x 1 40 = true ∧ r = .ok .non ∧ V' = V0.pnt K C Cp a q t n [0]
theorem fm_Painter {Cp f : Addr} {fd : FuncData} (F : Fun K "__init__" "Painter.__init__" s_Painter_init f fd) (m : Mk K Cp f) (hb : L2.Binds K fd ["self", "fill", "n"] []) (g : mg "Painter" = some (.ref Cp)) (pc : Pnc K Cp) (g_MOST_DRAWN : GD K C mg "MOST_DRAWN" (.int 40)) (F_look_at_size : S_look_at_size P w K mg base C T) : S_Painter P w K mg base C T Cp := by
  refine ⟨g, f, fd, m, hb, okHg F sc_Painter_init (fun V ds Ψ ⟨_, _, _, _, _, e1, ⟨_, _, e2, _⟩, _⟩ => by rw [e1, e2]; rfl) (fun cdv A' outer s H E A V ds Ψ hr tk ⟨V0, a, xs, Θ, eV, e1, ⟨t, x, e2, ht, hx, e3⟩, eΨ⟩ => ?_)⟩
  subst e3 e2 e1 eV eΨ
  have nd := sc_Painter_init.nd
  refine g_exprX (px_ofJXg (px_cal F_look_at_size hr (by decide) tk (ja_cons (je_var rfl (pv 2)) (ja_cons (je_gl g_MOST_DRAWN) ja_nil)) ⟨x, 40, rfl, hx, rfl⟩)) (fun d V' ⟨e, eV⟩ => ?_) (fun er V' ⟨e, eV⟩ => ?_)
  · have h1 : isIntD x 1 40 = true := by
      cases h : isIntD x 1 40 with
      | true => rfl
      | false => simp [sizeR, h] at e
    subst eV
    obtain ⟨n, rfl, h2, h3⟩ := intD_of h1
    refine g_fld (d := t.fil) pc.c pc.n0 (je_var rfl (pv 0)) (je_var rfl (pv 1)) (by show 0 < 1000; decide) ?_
    refine g_fld (d := .int n) pc.c pc.n1 (je_var rfl (pv 0)) (je_var rfl (pv 2)) (by show 1 < 1000; decide) ?_
    refine g_fldNew (ds := [entD t n 0]) pc.c pc.n2 (fun p => (je_var rfl (pv 0))) (pe_newD (ja_cons (JE.to (je_tup (ja_cons je_int (ja_cons je_tbl0 (ja_cons (je_tup ja_nil) ja_nil)))) rfl) ja_nil) (by show 1 ≤ 1000000; decide)) (by show 2 < 1000; decide) (fun p => ?_)
    exact g_nil.imp fun env' V' ⟨_, e⟩ => .inr ⟨n, p, rfl, h1, rfl, e⟩
  · have h1 : isIntD x 1 40 = false := by
      cases h : isIntD x 1 40 with
      | false => rfl
      | true => simp [sizeR, h] at e
    simp [sizeR, h1] at e
    subst e eV
    exact .inl ⟨h1, rfl, rfl⟩
/-- what a painter is -/
structure pOk (t : Fl) (n : Int) (ks : List Nat) : Prop where
  t : t.ok
  n0 : 0 < n
  n1 : n ≤ 9
  h : ks ≠ []
  k : ∀ k ∈ ks, (k : Int) ≤ n * n
  l : ks.length < 100000
theorem pOk.nn {t : Fl} {n : Int} {ks : List Nat} (h : pOk t n ks) : n * n ≤ 81 := Int.mul_le_mul h.n1 h.n1 (by have := h.n0; omega) (by have := h.n0; omega)
theorem pOk.last {t : Fl} {n : Int} {ks : List Nat} (h : pOk t n ks) : ((ks.getLast h.h : Nat) : Int) ≤ n * n := h.k _ (List.getLast_mem h.h)
abbrev pGet (K : PySem.W.Frag) (C Cp : Addr) (g : Fl → Int → List Nat → Except Err D → Prop) : Vo → List D → (Except Err D → Prop) → Prop := fun V ds Ψ => ∃ (a q : Addr) (t : Fl) (n : Int) (ks : List Nat), isFO K C V Cp a (pF t n q) ∧ isOwn K C V q (ks.map (entD t n)) ∧ ds = [.raw (.ref a)] ∧ pOk t n ks ∧ Ψ = g t n ks
abbrev gRows : Fl → Int → List Nat → Except Err D → Prop := fun t n ks r => ∀ h : ks ≠ [], r = .ok (rowsT t n (ks.getLast h))
abbrev gLast : Fl → Int → List Nat → Except Err D → Prop := fun t n ks r => ∀ h : ks ≠ [], r = .ok (lastT t n (ks.getLast h))
abbrev gClash : Fl → Int → List Nat → Except Err D → Prop := fun t n ks r => ∀ h : ks ≠ [], r = .ok (clashT t n (ks.getLast h))
abbrev gLen : Fl → Int → List Nat → Except Err D → Prop := fun _ _ ks r => r = .ok (.int ((ks.length - 1 : Nat) : Int))
abbrev S_rows_in (P : Program) (w : World) (K : PySem.W.Frag) (mg : Str → Option Value) (base : Heap) (C : Addr) (T : Tx) (Cp : Addr) : Prop := Fn P w K mg base C T "rows_in" 1 ["painter"] (pGet K C Cp gRows)
theorem fn_rows_in {Cp : Addr} (d : Df K mg "rows_in" s_rows_in ["painter"]) (z : Zb mg) (pc : Pnc K Cp) : S_rows_in P w K mg base C T Cp := by
  refine d.fn sc_rows_in (fun V ds Ψ ⟨_, _, _, _, _, _, _, e, _⟩ => by rw [e]; rfl) (fun f cdv A outer s H E V ds Ψ hr tk ⟨a, q, t, n, ks, hf, ho, e1, ok, eΨ⟩ => ?_)
  subst e1 eΨ
  have nd := sc_rows_in.nd
  have hu := hr.units
  have h0 := ok.n0
  have h1 := ok.n1
  have en : ((n.toNat : Nat) : Int) = n := by omega
  refine js_unp (is := [1, 2]) rfl (je_tup (ja_cons (je_ixTc (ds := [.int ((ks.getLast ok.h : Nat) : Int), .tbl (stT t n (ks.getLast ok.h)).1, clashT t n (ks.getLast ok.h)]) (je_ixO ho (je_fldA hf pc.c pc.n2 (je_var rfl (pv 0)) rfl) je_nint (at_last ok.h)) rfl) (ja_cons (je_fldA hf pc.c pc.n1 (je_var rfl (pv 0)) rfl) ja_nil))) (pgs_cons (pg_name nd rfl (.inr rfl)) (pgs_cons (pg_name nd rfl (.inr rfl)) pgs_nil)) rfl ?_
  refine js_one (jst_ret (JE.imp (je_tupleL z (ds := (List.range n.toNat).map fun (r : Nat) => .tup ((List.range n.toNat).map fun (c : Nat) => .int ((tat (stT t n (ks.getLast ok.h)).1 ((r : Int), (c : Int))).getD 0))) (JE.to (je_lcN (own := [("row", 4)]) (j := 4) (fun _ => true) (fun d => match d with | .int r => .tup ((List.range n.toNat).map fun (c : Nat) => .int ((tat (stT t n (ks.getLast ok.h)).1 (r, (c : Int))).getD 0)) | _ => .non) rfl nd (ji_range1 (je_var rfl (pv 2)) ⟨by omega, by omega⟩ rfl z.range) (blkOk_by (N := n_rows_in) (sc := defScope s_rows_in) (by decide +kernel))
        (fun _ _ _ _ _ => jgb_name nd rfl (.inr rfl) (by decide)) (fun _ _ _ _ _ _ _ => jts_nil) (fun s H Cc cl fp d hd _ => ?_) (by rw [rngD_length]; omega)) ?_)) ?_))
  · rw [rngD_nat (by omega)] at hd
    obtain ⟨r, hr', rfl⟩ := List.mem_map.mp hd
    have hr2 := List.mem_range.mp hr'
    refine je_tupleL z (JE.to (je_lcN (own := [("column", 3)]) (j := 3) (fun _ => true) (fun d => match d with | .int c => .int ((tat (stT t n (ks.getLast ok.h)).1 (r, c)).getD 0) | _ => .non) rfl nd (ji_range1 (n := n) (je_var rfl (pv 2)) ⟨by omega, by omega⟩ rfl z.range) (by exact blkOk_by (by kernel_rfl))
          (fun _ _ _ _ _ => jgb_name nd rfl (.inl rfl) (by decide)) (fun _ _ _ _ _ _ _ => jts_nil) (fun s H Cc cl fp d hd _ => ?_) (by rw [rngD_length]; omega)) ?_)
    · rw [rngD_nat (by omega)] at hd
      obtain ⟨c, hc', rfl⟩ := List.mem_map.mp hd
      exact je_tgetD (hu_of hr) (je_var rfl (pv 1)) (ja_cons (je_var rfl (pv 4)) (ja_cons (je_var rfl (pv 3)) ja_nil)) je_int
    · rw [filter_yes, rngD_nat (by omega), List.map_map]
      rfl
  · rw [filter_yes, rngD_nat (by omega), List.map_map]
    rfl
  · intro d e h
    rw [e]; rfl

abbrev S_Prows (P : Program) (w : World) (K : PySem.W.Frag) (mg : Str → Option Value) (base : Heap) (C : Addr) (T : Tx) (Cp : Addr) : Prop := Prg P w K mg base C T Cp "rows" 2 (pGet K C Cp gRows)
theorem fn_Prows {Cp : Addr} (d : Dpo K Cp "rows" "Painter.rows" s_Painter_rows) (F_rows_in : S_rows_in P w K mg base C T Cp) : S_Prows P w K mg base C T Cp := by
  refine d.prg sc_Painter_rows (fun V ds Ψ ⟨_, _, _, _, _, _, _, e, _⟩ => by rw [e]; rfl) (fun f cdv A outer s H E V ds Ψ hr tk ⟨a, q, t, n, ks, hf, ho, e1, ok, eΨ⟩ => ?_)
  subst e1 eΨ
  exact js_one (jst_ret (je_calG F_rows_in hr (by decide) (ja_cons (je_var rfl (pv 0)) ja_nil) (fun ds e => .inl ⟨gRows t n ks, ⟨a, q, t, n, ks, hf, ho, e, ok, rfl⟩, (fun er h => nomatch h ok.h), fun d h => h⟩)))
abbrev S_Plast (P : Program) (w : World) (K : PySem.W.Frag) (mg : Str → Option Value) (base : Heap) (C : Addr) (T : Tx) (Cp : Addr) : Prop := Prg P w K mg base C T Cp "last" 4 (pGet K C Cp gLast)
theorem fn_Plast {Cp : Addr} (d : Dpo K Cp "last" "Painter.last" s_Painter_last) (pc : Pnc K Cp) (F_own_cell : S_own_cell P w K mg base C T) : S_Plast P w K mg base C T Cp := by
  refine d.prg sc_Painter_last (fun V ds Ψ ⟨_, _, _, _, _, _, _, e, _⟩ => by rw [e]; rfl) (fun f cdv A outer s H E V ds Ψ hr tk ⟨a, q, t, n, ks, hf, ho, e1, ok, eΨ⟩ => ?_)
  subst e1 eΨ
  have nd := sc_Painter_last.nd
  have h0 := ok.n0
  have h1 := ok.n1
  have hB : n ≤ BIG := by unfold BIG; omega
  refine js_let (i := 1) (x := .int ((ks.getLast ok.h : Nat) : Int)) nd rfl (.inl rfl) (je_ixTc (ds := [.int ((ks.getLast ok.h : Nat) : Int), .tbl (stT t n (ks.getLast ok.h)).1, clashT t n (ks.getLast ok.h)]) (je_ixO ho (je_fldA hf pc.c pc.n2 (je_var rfl (pv 0)) rfl) je_nint (at_last ok.h)) rfl) ?_
  refine js_one (jst_ret (JE.imp (je_ifE (p := decide (0 < ks.getLast ok.h)) (JT.to (jt_gt (je_var rfl (pv 1)) je_int) ?_) (fun _ => je_tup (ja_cons (je_var rfl (pv 1)) (ja_cons (je_cal (z := cellD t n (((ks.getLast ok.h : Nat) : Int) - 1)) F_own_cell hr (by decide) (ja_cons (je_fldA hf pc.c pc.n0 (je_var rfl (pv 0)) rfl) (ja_cons (je_fldA hf pc.c pc.n1 (je_var rfl (pv 0)) rfl) (ja_cons (je_var rfl (pv 1)) ja_nil))) ⟨t, n, _, rfl, ok.t, h0, hB, rfl⟩) ja_nil))) (fun _ => je_non)) ?_))
  · rw [decide_eq_decide]; omega
  · intro d e h
    rw [e]
    unfold lastT
    by_cases hk : 0 < ks.getLast ok.h
    · rw [if_pos (decide_eq_true hk), if_pos hk]
    · rw [if_neg (by simpa using hk), if_neg hk]
abbrev S_Pclash (P : Program) (w : World) (K : PySem.W.Frag) (mg : Str → Option Value) (base : Heap) (C : Addr) (T : Tx) (Cp : Addr) : Prop := Prg P w K mg base C T Cp "clashes" 1 (pGet K C Cp gClash)
theorem fn_Pclash {Cp : Addr} (d : Dpo K Cp "clashes" "Painter.clashes" s_Painter_clashes) (pc : Pnc K Cp) : S_Pclash P w K mg base C T Cp := by
  refine d.prg sc_Painter_clashes (fun V ds Ψ ⟨_, _, _, _, _, _, _, e, _⟩ => by rw [e]; rfl) (fun f cdv A outer s H E V ds Ψ hr tk ⟨a, q, t, n, ks, hf, ho, e1, ok, eΨ⟩ => ?_)
  subst e1 eΨ
  exact js_one (jst_ret (JE.imp (je_ixTc (ds := [.int ((ks.getLast ok.h : Nat) : Int), .tbl (stT t n (ks.getLast ok.h)).1, clashT t n (ks.getLast ok.h)]) (je_ixO ho (je_fldA hf pc.c pc.n2 (je_var rfl (pv 0)) rfl) je_nint (at_last ok.h)) rfl) fun d e h => by rw [e]))
abbrev S_Plen (P : Program) (w : World) (K : PySem.W.Frag) (mg : Str → Option Value) (base : Heap) (C : Addr) (T : Tx) (Cp : Addr) : Prop := Lng P w K mg base C T Cp 1 (pGet K C Cp gLen)
theorem fn_Plen {Cp : Addr} (d : Dln K Cp "Painter.__len__" s_Painter_len) (z : Zb mg) (pc : Pnc K Cp) : S_Plen P w K mg base C T Cp := by
  refine d.lng sc_Painter_len (fun V ds Ψ ⟨_, _, _, _, _, _, _, e, _⟩ => by rw [e]; rfl) (fun f cdv A outer s H E V ds Ψ hr tk ⟨a, q, t, n, ks, hf, ho, e1, ok, eΨ⟩ => ?_)
  subst e1 eΨ
  have hl : 1 ≤ ks.length := List.length_pos_iff.mpr ok.h
  exact js_one (jst_ret (JE.imp (je_lenL z (je_slO (k := 1) ho (je_fldA hf pc.c pc.n2 (je_var rfl (pv 0)) rfl) je_int (by rw [List.length_map]; exact hl))) fun d e => by rw [e, List.length_drop, List.length_map]))
abbrev S_Pundo (P : Program) (w : World) (K : PySem.W.Frag) (mg : Str → Option Value) (base : Heap) (C : Addr) (T : Tx) (Cp : Addr) : Prop := Mthg P w K mg base C T Cp "undo" 1 ["self"] fun V ds Ψ => ∃ (Vb : Vo) (a q : Addr) (t : Fl) (n : Int) (ks : List Nat), V = Vb.pnt K C Cp a q t n ks ∧ ds = [.raw (.ref a)] ∧ pOk t n ks ∧
  Ψ = fun r V' => (ks.length = 1 ∧ r = .ok (.bl false) ∧ V' = V) ∨ (1 < ks.length ∧ r = .ok (.bl true) ∧ V' = Vb.pnt K C Cp a q t n ks.dropLast)
theorem fn_Pundo {Cp : Addr} (d : Dmt K Cp "undo" "Painter.undo" s_Painter_undo ["self"]) (z : Zb mg) (pc : Pnc K Cp) : S_Pundo P w K mg base C T Cp := by
  refine d.mthg sc_Painter_undo (fun V ds Ψ ⟨_, _, _, _, _, _, _, e, _⟩ => by rw [e]; rfl) (fun f cdv A' outer s H E A V ds Ψ hr tk ⟨Vb, a, q, t, n, ks, eV, e1, ok, eΨ⟩ => ?_)
  subst eV e1 eΨ
  have hu := hr.units
  have hl : 1 ≤ ks.length := List.length_pos_iff.mpr ok.h
  refine g_when (p := decide (ks.length = 1)) (JT.to (jt_eqI hu (je_lenO z own_is.obj (je_fldA fo_obj pc.c pc.n2 (je_var rfl (pv 0)) rfl)) je_int) (by rw [List.length_map, decide_eq_decide]; omega)) (fun hp => ?_) (fun hp => ?_)
  · exact g_one (g_ret (JE.imp je_bl fun d e => .inl ⟨of_decide_eq_true hp, by rw [e], rfl⟩))
  · have hp := of_decide_eq_false hp
    refine g_weak (V2 := (Vb.obj K C Cp a (pF t n q)).own K C q (ks.map (entD t n))) (fun _ _ j => obj_own j) (fun _ m => obj_ownM m) ?_
    refine g_popO (pe_bm0 PySem.F.plainAttrs_list PySem.F.slot_list_pop PySem.F.type_list_pop mt_pop (je_fldA fo_obj.own pc.c pc.n2 (je_var rfl (pv 0)) rfl)) (fun h => ok.h (List.map_eq_nil_iff.mp h)) ?_
    refine g_weak (V2 := Vb.pnt K C Cp a q t n ks.dropLast) (fun _ _ j => by rw [← List.map_dropLast] at j; exact own_obj j) (fun _ m => own_objM m) ?_
    exact g_one (g_ret (JE.imp je_bl fun d e => .inr ⟨by omega, by rw [e], rfl⟩))
abbrev S_Pcopy (P : Program) (w : World) (K : PySem.W.Frag) (mg : Str → Option Value) (base : Heap) (C : Addr) (T : Tx) (Cp : Addr) : Prop := Mthg P w K mg base C T Cp "copy" 5 ["self"] fun V ds Ψ => ∃ (a q : Addr) (t : Fl) (n : Int) (ks : List Nat), isFO K C V Cp a (pF t n q) ∧ isOwn K C V q (ks.map (entD t n)) ∧ ds = [.raw (.ref a)] ∧ pOk t n ks ∧
  Ψ = fun r V' => ∃ a2 q2, r = .ok (.raw (.ref a2)) ∧ V' = V.pnt K C Cp a2 q2 t n ks
theorem fn_Pcopy {Cp : Addr} (d : Dmt K Cp "copy" "Painter.copy" s_Painter_copy ["self"]) (z : Zb mg) (pc : Pnc K Cp) (FP : S_Painter P w K mg base C T Cp) : S_Pcopy P w K mg base C T Cp := by
  refine d.mthg sc_Painter_copy (fun V ds Ψ ⟨_, _, _, _, _, _, _, e, _⟩ => by rw [e]; rfl) (fun f cdv A' outer s H E A V ds Ψ hr tk ⟨a, q, t, n, ks, hf, ho, e1, ok, eΨ⟩ => ?_)
  subst e1 eΨ
  have nd := sc_Painter_copy.nd
  have h0 := ok.n0
  have h1 := ok.n1
  have hi : isIntD (.int n) 1 40 = true := by simp [isIntD]; omega
  refine g_letX (i := 1) nd rfl (.inl rfl) (px_mkg FP hr (by decide) tk (ja_cons (je_fldA hf pc.c pc.n0 (je_var rfl (pv 0)) rfl) (ja_cons (je_fldA hf pc.c pc.n1 (je_var rfl (pv 0)) rfl) ja_nil)) ⟨t, .int n, rfl, ok.t, rfl, rfl⟩ ?_ ?_) (fun d V' ⟨a2, h⟩ => ?_) (fun er V' ⟨a2, h⟩ => ?_)
  · rintro a2 r V' (⟨h, _⟩ | ⟨_, _, _, _, h, _⟩) er e
    · rw [hi] at h; cases h
    · rw [h] at e; cases e
  · rintro a2 d V' (⟨h, _⟩ | ⟨_, _, _, _, h, _⟩)
    · rw [hi] at h; cases h
    · exact Except.ok.inj h
  · rcases h with ⟨h, ⟨h2, _⟩ | ⟨n', q0, e1, _, _, e2⟩⟩ | ⟨er, _, h, _⟩
    · rw [hi] at h2; cases h2
    · have h := Except.ok.inj h
      cases e1
      subst h e2
      refine g_fldNew (ds := ks.map (entD t n)) pc.c pc.n2 (fun p => (je_var rfl (pv 1))) (pe_newO z ho.own.obj (je_fldA hf.own.obj pc.c pc.n2 (je_var rfl (pv 0)) rfl)) (by show 3 < 1000; decide) (fun p => ?_)
      refine g_weak (V2 := V.pnt K C Cp a2 p t n ks) (fun _ _ j => own_drop_obj j) (fun _ m => own_drop_objM m) ?_
      exact g_one (g_ret (JE.imp (je_var rfl (pv 1)) fun d e => ⟨a2, p, by rw [e], rfl⟩))
    · cases h
  · rcases h with ⟨h, _⟩ | ⟨er', V2, h, h2 | ⟨_, _, _, _, h2, _⟩, _⟩
    · cases h
    · rw [hi] at h2; cases h2.1
    · cases h2

/-- go: what it refuses, how many numbers it puts -/
def goE (n : Int) (b : Nat) (x : D) : Except Err Nat := match x with
  | .int m => if m < 1 then .error ⟨3, []⟩ else if n * n < b + m then .error ⟨11, []⟩ else .ok m.toNat
  | _ => .error ⟨3, []⟩
def noInt (x : D) : Bool := match x with | .int m => decide (m < 1) | _ => true
theorem goE_no {n : Int} {b : Nat} {x : D} (h : noInt x = true) : goE n b x = .error ⟨3, []⟩ := by
  unfold noInt at h
  unfold goE
  split at h
  · rw [if_pos (of_decide_eq_true h)]
  · rfl
theorem noInt_false {x : D} (h : noInt x = false) : ∃ m : Int, x = .int m ∧ 1 ≤ m := by
  unfold noInt at h
  split at h
  · exact ⟨_, rfl, by have := of_decide_eq_false h; omega⟩
  · cases h
theorem goE_int {n : Int} {b : Nat} {m : Int} : goE n b (.int m) = if m < 1 then .error ⟨3, []⟩ else if n * n < b + m then .error ⟨11, []⟩ else .ok m.toNat := rfl
abbrev S_Pgo (P : Program) (w : World) (K : PySem.W.Frag) (mg : Str → Option Value) (base : Heap) (C : Addr) (T : Tx) (Cp : Addr) : Prop := Mthg P w K mg base C T Cp "go" 4 ["self", "many"] fun V ds Ψ => ∃ (Vb : Vo) (a q : Addr) (t : Fl) (n : Int) (ks : List Nat) (x : D) (h : ks ≠ []), V = Vb.pnt K C Cp a q t n ks ∧ ds = [.raw (.ref a), x] ∧ pOk t n ks ∧ RQ.plain x = true ∧
  Ψ = fun r V' => (∃ er, goE n (ks.getLast h) x = .error er ∧ r = .error er ∧ V' = V) ∨ ∃ m, goE n (ks.getLast h) x = .ok m ∧ r = .ok (.lst ((fndT t n (ks.getLast h) m).map .int)) ∧ V' = Vb.pnt K C Cp a q t n (ks ++ [ks.getLast h + m])
theorem fn_Pgo {Cp : Addr} (d : Dmt K Cp "go" "Painter.go" s_Painter_go ["self", "many"]) (z : Zb mg) (pc : Pnc K Cp) (F_own_cellK : S_own_cellK P w K mg base C T) (E3 : Ec K mg T 3 "InvalidNumber") (E11 : Ec K mg T 11 "Done") : S_Pgo P w K mg base C T Cp := by
  refine d.mthgM sc_Painter_go (fun V ds Ψ ⟨_, _, _, _, _, _, _, _, _, e, _⟩ => by rw [e]; rfl) (fun f cdv A' outer s H E A V ds Ψ hr tk ⟨Vb, a, q, t, n, ks, x, h, eV, e1, ok, hx, eΨ⟩ hAM => ?_)
  subst eV e1 eΨ
  have nd := sc_Painter_go.nd
  have hu := hr.units
  have h0 := ok.n0
  have h1 := ok.n1
  have hB : n ≤ BIG := by unfold BIG; omega
  have hnn := ok.nn
  have hlast := ok.last
  refine g_when (p := noInt x) ?_ (fun hp => ?_) (fun hp => ?_)
  · refine JT.to (jt_w (jw_or (p := !isIntT x) (q := isBoolT x || noInt x) (jt_not (jt_valE (je_isInt z (je_var rfl (pv 1)) hx))) (fun h2 => jw_or (p := isBoolT x) (q := noInt x) (jt_valE (je_isBool z (je_var rfl (pv 1)) hx)) (fun h3 => jw_or1 ?_)))) ?_
    · cases x with
      | int m => exact jt_lt (je_var rfl (pv 1)) je_int
      | bl b => cases h3
      | _ => cases h2
    · cases x <;> rfl
  · exact g_jsF (js_one (jst_raise0 rfl tk E3 (.inl ⟨_, goE_no hp, rfl, rfl⟩)))
  · obtain ⟨m, rfl, hm⟩ := noInt_false hp
    generalize hb : ks.getLast h = b at hlast ⊢
    refine g_unp (is := [2, 3, 4]) (ds := [.int (b : Int), .tbl (stT t n b).1, clashT t n b]) rfl (JE.to (je_ixO own_is.obj (je_fldA fo_obj pc.c pc.n2 (je_var rfl (pv 0)) rfl) je_nint (at_last ok.h)) (by rw [hb]; rfl)) (pgs_cons (pg_name nd rfl (.inl rfl)) (pgs_cons (pg_name nd rfl (.inl rfl)) (pgs_cons (pg_name nd rfl (.inl rfl)) pgs_nil))) rfl ?_
    refine g_when (p := decide (n * n < b + m)) (JT.to (jt_gt (je_add (je_var rfl (pv 2)) (je_var rfl (pv 1))) (je_mulW (je_fldA fo_obj pc.c pc.n1 (je_var rfl (pv 0)) rfl) (je_fldA fo_obj pc.c pc.n1 (je_var rfl (pv 0)) rfl) (big_mul (by unfold BIG; omega) hB (by unfold BIG; omega) hB))) (by rw [decide_eq_decide])) (fun hc => ?_) (fun hc => ?_)
    · have hc := of_decide_eq_true hc
      exact g_jsF (js_one (jst_raise0 rfl tk E11 (.inl ⟨_, by rw [goE_int, if_neg (by omega), if_pos hc], rfl, rfl⟩)))
    · have hc := of_decide_eq_false hc
      have em : goE n b (.int m) = .ok m.toNat := by rw [goE_int, if_neg (by omega), if_neg hc]
      obtain ⟨a1, a2, a3, a4⟩ := stT_ok (t := t) h0 h1 b
      refine g_dictD (i := 3) (l := (stT t n b).1) (by have := hu; exact Nat.lt_of_le_of_lt (Nat.add_le_add_left (by decide : 2 ≤ 64) _) this) rfl z.dict nd rfl (.inl rfl) (je_var rfl (pv 3)) a1 a2 (fun p => ?_)
      refine g_own (i := 5) (ds := []) nd rfl (.inl rfl) ja_nil (by show 0 ≤ 1000000; decide) (fun p2 => ?_)
      refine g_cons (N1 := fun env V' => ∃ e6 e7 : En, env = [.d (.raw (.ref a)), .d (.int m), .d (.int (b : Int)), .d (.raw (.ref p)), .d (clashT t n b), .d (.raw (.ref p2)), e6, e7] ∧ V' = (((Vb.pnt K C Cp a q t n ks).tab p (stT t n (b + m.toNat)).1).own K C p2 ((fndT t n b m.toNat).map .int))) ?_ fun env' V' ⟨e6, e7, e1, e2⟩ => ?_
      · refine g_for (bind := bN 6) (Φl := (· = rngD ((b : Int) + 1) m.toNat)) (fun _ i env V' => ∃ e6 e7 : En, env = [.d (.raw (.ref a)), .d (.int m), .d (.int (b : Int)), .d (.raw (.ref p)), .d (clashT t n b), .d (.raw (.ref p2)), e6, e7] ∧ V' = (((Vb.pnt K C Cp a q t n ks).tab p (stT t n (b + i)).1).own K C p2 ((fndT t n b i).map .int)))
          (passes_of rfl) rfl (by
            rw [show m.toNat = ((b : Int) + m + 1 - (b + 1)).toNat by omega]
            exact ji_range2 (l := (b : Int) + 1) (n := (b : Int) + m + 1) (je_add (je_var rfl (pv 2)) je_int) (je_add (je_add (je_var rfl (pv 2)) (je_var rfl (pv 1))) je_int) ⟨by omega, by omega, by omega, by omega⟩ rfl z.range) (jg_name nd rfl (.inl rfl)) (fun ds i d envI VI _ _ _ => ⟨_, rfl⟩) ?_ ?_ ?_
        · rintro ds rfl
          exact ⟨_, _, rfl, by rw [fndT_zero]; rfl⟩
        · rintro ds envI VI rfl ⟨e6, e7, e1, e2⟩
          rw [rngD_length] at e2
          exact ⟨e6, e7, e1, e2⟩
        · rintro ⟨A2, ds, i, d, envI, VI, envB⟩ ⟨hΦ, hd, ⟨e6, e7, e1, e2⟩, hB'⟩
          dsimp only at hΦ hd e1 e2 hB' ⊢
          have hB2 : envB = envI.set 6 (.d d) := hB'
          subst hΦ
          have hi : i < m.toNat := by
            have := (List.getElem?_eq_some_iff.mp hd).1
            rw [rngD_length] at this
            exact this
          rw [rngD_get hi] at hd
          obtain rfl := Option.some.inj hd
          subst e1 e2 hB2
          have hfo : isFO K C (((Vb.pnt K C Cp a q t n ks).tab p (stT t n (b + i)).1).own K C p2 ((fndT t n b i).map .int)) Cp a (pF t n q) := fo_obj.tab.own
          obtain ⟨c1, c2, c3, c4⟩ := stT_ok (t := t) h0 h1 (b + i)
          have hbi : b + i < 82 := by omega
          have ec : (b : Int) + 1 + (i : Int) - 1 = ((b + i : Nat) : Int) := by omega
          have ec2 : (b : Int) + 1 + (i : Int) = ((b + i : Nat) : Int) + 1 := by omega
          have fl : (fndT t n b i).length ≤ 82 := by unfold fndT; rw [List.length_drop]; omega
          refine g_letX (i := 7) nd rfl (.inl rfl) (px_calCg F_own_cellK (j := 3) hr (by decide) tk (ja_cons (je_fldA hfo pc.c pc.n0 (je_var rfl (pv 0)) rfl) (ja_cons (je_fldA hfo pc.c pc.n1 (je_var rfl (pv 0)) rfl) (ja_cons (je_var rfl (pv 6)) ja_nil))) ⟨t, n, _, rfl, ok.t, h0, hB, rfl⟩) (fun d V' ⟨bb, e, eV⟩ => ?_) (fun er V' ⟨_, e, _⟩ => nomatch e)
          have e := Except.ok.inj e
          subst e eV
          rw [ec]
          refine g_one (g_ifE (p := (tat (stT t n (b + i)).1 (cellI t n ((b + i : Nat) : Int))).isSome) (jt_tin (hu_of hr) (isTab_own tab_is |> seen_under) seen_is (je_var rfl (pv 7)) (je_var rfl (pv 3))) (fun hs => ?_) (fun hs => ?_))
          · refine g_weak (V2 := ((Vb.pnt K C Cp a q t n ks).tab p (stT t n (b + i)).1).own K C p2 ((fndT t n b i).map .int)) (fun _ _ j => j.1) (fun _ m => m) ?_
            refine g_app (i := 5) (d := .int (((b + i : Nat) : Int) + 1)) rfl (pe_bm PySem.F.plainAttrs_list PySem.F.slot_list_append PySem.F.type_list_append mt_append (pv 5) (pa_cons (JE.to (je_var rfl (pv 6)) (by rw [ec2])) pa_nil)) (by rw [List.length_map]; omega) ?_
            refine g_nil.imp fun env' V' ⟨e1, e2⟩ => ⟨_, _, e1, ?_⟩
            rw [e2, fndT_succ, if_pos hs, show stT t n (b + (i + 1)) = stepT t n (stT t n (b + i)) (((b + i : Nat) : Int) + 1) from rfl]
            unfold stepT
            rw [show ((b + i : Nat) : Int) + 1 - 1 = ((b + i : Nat) : Int) by omega, if_pos hs, List.map_append]
            rfl
          · have hs' : tat (stT t n (b + i)).1 (cellI t n ((b + i : Nat) : Int)) = none := by simpa using hs
            refine g_weak (V2 := (((Vb.pnt K C Cp a q t n ks).own K C p2 ((fndT t n b i).map .int)).seen bb (.tup ((keyT (cellI t n ((b + i : Nat) : Int))).map kV))).tab p (stT t n (b + i)).1) (fun _ _ j => own_seen_tab j) (fun _ m => own_tabM (K := K) (C := C) (ds := (fndT t n b i).map .int) m) ?_
            refine g_tput (hu_of hr) (je_var rfl (pv 3)) seen_is (je_var rfl (pv 7)) (JE.to (je_var rfl (pv 6)) (by rw [ec2])) (by omega) hs' ?_
            refine g_weak (V2 := ((Vb.pnt K C Cp a q t n ks).tab p ((stT t n (b + i)).1 ++ [(cellI t n ((b + i : Nat) : Int), ((b + i : Nat) : Int) + 1)])).own K C p2 ((fndT t n b i).map .int)) (fun _ _ j => tab_seen_own j) (fun _ m => tab_ownM (K := K) (C := C) (ds := (fndT t n b i).map .int) m) ?_
            refine g_nil.imp fun env' V' ⟨e1, e2⟩ => ⟨_, _, e1, ?_⟩
            rw [e2, fndT_succ, if_neg (by rw [hs]; exact Bool.false_ne_true), show stT t n (b + (i + 1)) = stepT t n (stT t n (b + i)) (((b + i : Nat) : Int) + 1) from rfl]
            unfold stepT
            rw [show ((b + i : Nat) : Int) + 1 - 1 = ((b + i : Nat) : Int) by omega, if_neg (by rw [hs]; exact Bool.false_ne_true)]
      · subst e1 e2
        refine g_relL (i := 5) (fun r m => .inl (hAM r m)) rfl ?_
        refine g_relTD (i := 3) hAM rfl ?_
        refine g_weak (V2 := (Vb.obj K C Cp a (pF t n q)).own K C q (ks.map (entD t n))) (fun _ _ j => obj_own j) (fun _ m => obj_ownM m) ?_
        refine g_appO (d := entD t n (b + m.toNat)) (pe_bm PySem.F.plainAttrs_list PySem.F.slot_list_append PySem.F.type_list_append mt_append (je_fldA fo_obj.own pc.c pc.n2 (je_var rfl (pv 0)) rfl) (pa_cons (JE.to (je_tup (ja_cons (je_add (je_var rfl (pv 2)) (je_var rfl (pv 1))) (ja_cons (je_var rfl (pv 3)) (ja_cons (je_tup (xs := (stT t n b).2.map D.int ++ ((fndT t n b m.toNat).map D.int ++ [])) (ja_starT (je_var rfl (pv 4)) (ja_starL (je_var rfl (pv 5)) ja_nil)) ?_) ja_nil)))) ?_) pa_nil)) (by rw [List.length_map]; have := ok.l; omega) ?_
        · obtain ⟨d1, d2, d3, d4⟩ := stT_ok (t := t) h0 h1 (b + m.toNat)
          have := stT_app (t := t) (n := n) b m.toNat
          rw [this, List.length_append] at d4
          simp
          omega
        · unfold entD clashT
          rw [stT_app b m.toNat, List.append_nil, List.map_append]
          congr 2
          congr 1
          omega
        · refine g_weak (V2 := Vb.pnt K C Cp a q t n (ks ++ [b + m.toNat])) (fun _ _ j => by
            have e : ks.map (entD t n) ++ [entD t n (b + m.toNat)] = (ks ++ [b + m.toNat]).map (entD t n) := by rw [List.map_append]; rfl
            rw [e] at j
            exact own_obj j) (fun _ m => own_objM m) ?_
          exact g_one (g_ret (JE.imp (je_var rfl (pv 5)) fun d e => .inr ⟨m.toNat, em, by rw [e], rfl⟩))

theorem tat_app {l : Tab} {x y : Int × Int} {v : Int} : tat (l ++ [(x, v)]) y = if (tat l y).isSome = true then tat l y else if x = y then some v else none := by
  induction l with
  | nil =>
    by_cases e : x = y
    · rw [List.nil_append, tat_pos e, if_neg (fun h => by cases h), if_pos e]
    · rw [List.nil_append, tat_neg e, if_neg (fun h => by cases h), if_neg e]; rfl
  | cons p l ih =>
    rw [List.cons_append]
    by_cases e : p.1 = y
    · rw [tat_pos e, tat_pos e]
      exact (if_pos rfl).symm
    · rw [tat_neg e, tat_neg e, ih]
theorem stT_pos {t : Fl} {n : Int} : ∀ (k : Nat), ∀ x ∈ (stT t n k).1, 1 ≤ x.2
  | 0 => fun x h => by cases h
  | k + 1 => by
    rw [show stT t n (k + 1) = stepT t n (stT t n k) ((k : Int) + 1) from rfl]
    unfold stepT
    split
    · exact stT_pos k
    · intro x hx
      rcases List.mem_append.mp hx with hx | hx
      · exact stT_pos k x hx
      · rw [List.mem_singleton.mp hx]; show 1 ≤ (k : Int) + 1; omega
theorem tat_mem : ∀ {l : Tab} {x : Int × Int} {v : Int}, tat l x = some v → (x, v) ∈ l
  | p :: l, x, v, h => by
    by_cases e : p.1 = x
    · rw [tat_pos e] at h
      rw [show p = (x, v) from Prod.ext e (Option.some.inj h)]
      exact List.mem_cons_self
    · rw [tat_neg e] at h
      exact List.mem_cons_of_mem _ (tat_mem h)
def rowI (t : Fl) (n : Int) (k : Nat) (r : Nat) : List Int := (List.range n.toNat).map fun (c : Nat) => (tat (stT t n k).1 ((r : Int), (c : Int))).getD 0
def rowM (t : Fl) (n : Int) (k : Nat) : List (List Int) := (List.range n.toNat).map (rowI t n k)
theorem rowM_get {t : Fl} {n : Int} {k r : Nat} (h : r < n.toNat) : (rowM t n k)[r]? = some (rowI t n k r) := by unfold rowM; rw [List.getElem?_map, List.getElem?_range h]; rfl
theorem rowI_get {t : Fl} {n : Int} {k r c : Nat} (h : c < n.toNat) : (rowI t n k r)[c]? = some ((tat (stT t n k).1 ((r : Int), (c : Int))).getD 0) := by unfold rowI; rw [List.getElem?_map, List.getElem?_range h]; rfl
theorem rowI_len {t : Fl} {n : Int} {k r : Nat} : (rowI t n k r).length = n.toNat := by unfold rowI; rw [List.length_map, List.length_range]
theorem rowM_zero {t : Fl} {n : Int} : rowM t n 0 = List.replicate n.toNat (List.replicate n.toNat 0) := by
  unfold rowM rowI
  rw [show (fun (r : Nat) => (List.range n.toNat).map fun (c : Nat) => (tat (stT t n 0).1 ((r : Int), (c : Int))).getD 0) = fun (r : Nat) => List.replicate n.toNat (0 : Int) from funext fun r => by
    rw [show (fun (c : Nat) => (tat (stT t n 0).1 ((r : Int), (c : Int))).getD 0) = fun (c : Nat) => (0 : Int) from funext fun c => rfl, List.map_const', List.length_range], List.map_const', List.length_range]
theorem rowM_step {t : Fl} {n : Int} {k : Nat} (h0 : 0 < n) (h : tat (stT t n k).1 (cellI t n (k : Int)) = none) : rowM t n (k + 1) = (rowM t n k).set (cR t n k).toNat ((rowI t n k (cR t n k).toNat).set (cC t n k).toNat ((k : Int) + 1)) := by
  have a : 0 ≤ cR t n k ∧ cR t n k < n := mod_range _ h0
  have b : 0 ≤ cC t n k ∧ cC t n k < n := mod_range _ h0
  have e1 : (stT t n (k + 1)).1 = (stT t n k).1 ++ [(cellI t n (k : Int), (k : Int) + 1)] := by
    rw [show stT t n (k + 1) = stepT t n (stT t n k) ((k : Int) + 1) from rfl]
    unfold stepT
    rw [show (k : Int) + 1 - 1 = (k : Int) by omega, if_neg (by rw [h]; exact Bool.false_ne_true)]
  have cell : ∀ i j : Nat, (tat (stT t n (k + 1)).1 ((i : Int), (j : Int))).getD 0 = if (cR t n k).toNat = i ∧ (cC t n k).toNat = j then (k : Int) + 1 else (tat (stT t n k).1 ((i : Int), (j : Int))).getD 0 := fun i j => by
    rw [e1, tat_app]
    by_cases q : (cR t n k).toNat = i ∧ (cC t n k).toNat = j
    · have e : cellI t n (k : Int) = ((i : Int), (j : Int)) := by
        unfold cellI
        rw [← q.1, ← q.2, Int.toNat_of_nonneg a.1, Int.toNat_of_nonneg b.1]
      rw [if_pos q, ← e, h, if_neg (by exact Bool.false_ne_true), if_pos rfl]
      rfl
    · rw [if_neg q]
      have e : ¬ cellI t n (k : Int) = ((i : Int), (j : Int)) := fun e => q (by
        unfold cellI at e
        have e2 := (Prod.mk.injEq ..).mp e
        omega)
      by_cases q2 : (tat (stT t n k).1 ((i : Int), (j : Int))).isSome = true
      · rw [if_pos q2]
      · have q3 : tat (stT t n k).1 ((i : Int), (j : Int)) = none := by simpa using q2
        rw [if_neg q2, if_neg e, q3]
  refine List.ext_getElem? fun i => ?_
  rw [List.getElem?_set]
  by_cases hi : i < n.toNat
  · rw [rowM_get hi, rowM_get hi]
    have hl : (cR t n k).toNat < (rowM t n k).length := by unfold rowM; rw [List.length_map, List.length_range]; omega
    by_cases hc : (cR t n k).toNat = i
    · rw [if_pos hc, if_pos hl]
      congr 1
      refine List.ext_getElem? fun j => ?_
      rw [List.getElem?_set, hc]
      by_cases hj : j < n.toNat
      · rw [rowI_get hj, rowI_get hj, cell]
        by_cases hd : (cC t n k).toNat = j
        · rw [if_pos ⟨hc, hd⟩, if_pos hd, if_pos (by rw [rowI_len]; omega)]
        · rw [if_neg (fun h => hd h.2), if_neg hd]
      · rw [List.getElem?_eq_none (by rw [rowI_len]; omega), List.getElem?_eq_none (by rw [rowI_len]; omega)]
        rw [if_neg (by omega)]
    · rw [if_neg hc]
      congr 1
      refine List.ext_getElem? fun j => ?_
      by_cases hj : j < n.toNat
      · rw [rowI_get hj, rowI_get hj, cell, if_neg (fun h => hc h.1)]
      · rw [List.getElem?_eq_none (by rw [rowI_len]; omega), List.getElem?_eq_none (by rw [rowI_len]; omega)]
  · have e : ∀ k, (rowM t n k)[i]? = none := fun k => List.getElem?_eq_none (by unfold rowM; rw [List.length_map, List.length_range]; omega)
    rw [e, e, if_neg (by omega)]
theorem rowM_same {t : Fl} {n : Int} {k : Nat} (h : (tat (stT t n k).1 (cellI t n (k : Int))).isSome = true) : rowM t n (k + 1) = rowM t n k := by
  have e1 : (stT t n (k + 1)).1 = (stT t n k).1 := by
    rw [show stT t n (k + 1) = stepT t n (stT t n k) ((k : Int) + 1) from rfl]
    unfold stepT
    rw [show (k : Int) + 1 - 1 = (k : Int) by omega, if_pos h]
  unfold rowM rowI
  rw [e1]
theorem clash_step {t : Fl} {n : Int} {k : Nat} : (stT t n (k + 1)).2 = if (tat (stT t n k).1 (cellI t n (k : Int))).isSome = true then (stT t n k).2 ++ [(k : Int) + 1] else (stT t n k).2 := by
  rw [show stT t n (k + 1) = stepT t n (stT t n k) ((k : Int) + 1) from rfl]
  unfold stepT
  rw [show (k : Int) + 1 - 1 = (k : Int) by omega]
  split <;> rfl
def standD (t : Fl) (n : Int) (k : Nat) : D := .lst [rowsT t n k, clashT t n k, lastT t n k]
abbrev S__law_stand (P : Program) (w : World) (K : PySem.W.Frag) (mg : Str → Option Value) (base : Heap) (C : Addr) (T : Tx) : Prop := Fn P w K mg base C T "_law_stand" 1 ["_law_row", "_law_n", "_law_many"] (pok fun ds r => ∃ (t : Fl) (n : Int) (k : Nat), ds = [.lst (walkL t n (n * n).toNat), .int n, .int (k : Int)] ∧ t.ok ∧ (0 < n ∧ n ≤ 9) ∧ (k : Int) ≤ n * n ∧ r = standD t n k)
theorem fn__law_stand (d : Df K mg "_law_stand" s__law_stand ["_law_row", "_law_n", "_law_many"]) (z : Zb mg) : S__law_stand P w K mg base C T := by
  refine d.pok sc__law_stand (fun ds r ⟨_, _, _, e, _⟩ => by rw [e]; rfl) (fun f cdv A outer s H E ds r hr ⟨t, n, k, e1, ht, ⟨h0, h1⟩, hk, e2⟩ => ?_)
  subst e1 e2
  have hu := hr.units
  have nd := sc__law_stand.nd
  have nn : n * n ≤ 81 := Int.mul_le_mul h1 h1 (by omega) (by omega)
  have ek : ((k : Int) + 1 - 1).toNat = k := by omega
  refine z_start fun A eA => ?_
  have hU : ∀ S H, V0.J S H → A.U.J S H := fun S H h => by rw [eA]; exact h
  have hM : ∀ q, A.U.M q → V0.M q := fun q h => by rw [eA] at h; exact h
  have rl : (rngD 0 n.toNat).length = n.toNat := rngD_length 0 n.toNat
  refine z_cons (z_rows (own := [("_law_k", 4)]) (j := 4) (i := 3) (c := 0) (m := n.toNat) rfl nd rfl rfl (sw_true rfl rfl rfl rfl) (ji_range1 (je_var rfl (pv 1)) ⟨by omega, by omega⟩ rfl z.range) (blkOk_by (N := n__law_stand) (sc := defScope s__law_stand) (by decide +kernel))
      (fun _ _ _ _ _ => jgb_name nd rfl (.inl rfl) (by decide)) (fun s H Cc cl fp d hd => by exact pe_repD (n := n) je_int (je_var rfl (pv 1)) ⟨by omega, by omega⟩) (by rw [rngD_length]; omega)) fun env' V' ⟨qs, ql, e1, e2⟩ => ?_
  rw [rl] at ql e2
  rw [← rowM_zero (t := t)] at e2
  subst e1 e2
  refine z_own (i := 5) (ds := []) nd rfl (.inl rfl) ja_nil (by show 0 ≤ 1000000; decide) (fun p => ?_)
  refine z_cons (N1 := fun env V => ∃ e6 e7 : En, env = [.d (.lst (walkL t n (n * n).toNat)), .d (.int n), .d (.int (k : Int)), .d (.lst (qs.map fun q => .raw (.ref q))), .un, .d (.raw (.ref p)), e6, e7, .un] ∧ V = (V0.rows qs (rowM t n k)).own K C p ((stT t n k).2.map .int)) ?_ fun env' V' ⟨e6, e7, e1, e2⟩ => ?_
  · refine z_for (bind := bN 6) (Φl := (· = rngD 1 ((k : Int) + 1 - 1).toNat)) (fun _ i env V => ∃ e6 e7 : En, env = [.d (.lst (walkL t n (n * n).toNat)), .d (.int n), .d (.int (k : Int)), .d (.lst (qs.map fun q => .raw (.ref q))), .un, .d (.raw (.ref p)), e6, e7, .un] ∧ V = (V0.rows qs (rowM t n i)).own K C p ((stT t n i).2.map .int))
        (passes_of rfl) rfl (ji_range2 (l := 1) (n := (k : Int) + 1) je_int (je_add (je_var rfl (pv 2)) je_int) ⟨by omega, by omega, by omega, by omega⟩ rfl z.range) (jg_name nd rfl (.inl rfl)) (fun ds i d envI VI _ _ _ => ⟨_, rfl⟩) ?_ ?_ ?_
    · rintro ds rfl
      exact ⟨_, _, rfl, rfl⟩
    · rintro ds envI VI rfl ⟨e6, e7, e1, e2⟩
      rw [rngD_length, ek] at e2
      exact ⟨e6, e7, e1, e2⟩
    · rintro ⟨ds, i, d, envI, VI, envB⟩ ⟨hΦ, hd, ⟨e6, e7, e1, e2⟩, hB'⟩
      dsimp only at hΦ hd e1 e2 hB' ⊢
      have hB2 : envB = envI.set 6 (.d d) := hB'
      subst hΦ
      have hi : i < k := by
        have := (List.getElem?_eq_some_iff.mp hd).1
        rw [rngD_length, ek] at this
        exact this
      rw [ek, rngD_get hi] at hd
      obtain rfl := Option.some.inj hd
      subst e1 e2 hB2
      have a : 0 ≤ cR t n i ∧ cR t n i < n := mod_range _ h0
      have b : 0 ≤ cC t n i ∧ cC t n i < n := mod_range _ h0
      have rlt : (cR t n i).toNat < n.toNat := by omega
      have clt : (cC t n i).toNat < n.toNat := by omega
      have hrn : (((cR t n i).toNat : Nat) : Int) = cR t n i := Int.toNat_of_nonneg a.1
      have hcn : (((cC t n i).toNat : Nat) : Int) = cC t n i := Int.toNat_of_nonneg b.1
      obtain ⟨q, hq⟩ : ∃ q, qs[(cR t n i).toNat]? = some q := ⟨_, List.getElem?_eq_getElem (by omega)⟩
      have hcell : (walkL t n (n * n).toNat)[i]? = some (.tup [.int (cR t n i), .int (cC t n i)]) := by
        unfold walkL
        rw [List.getElem?_map, List.getElem?_range (by omega)] <;> rfl
      have e1' : (1 : Int) + i - 1 = i := by omega
      have e1'' : (1 : Int) + i = (i : Int) + 1 := by omega
      refine z_seq (jst_set (i := 7) (Φ := (· = .tup [.int (cR t n i), .int (cC t n i)])) nd rfl (.inl rfl) (je_ixL (k := i) (je_var rfl (pv 0)) (JE.to (je_sub (je_var rfl (pv 6)) je_int) (by rw [e1'])) hcell)) fun env' ⟨d1, e1, e2⟩ => ?_
      subst e1 e2
      obtain ⟨c1, c2, c3, c4⟩ := stT_ok (t := t) h0 h1 i
      have val : atD ((rowI t n i (cR t n i).toNat).map D.int) (cC t n i) = some (.int ((tat (stT t n i).1 (cellI t n (i : Int))).getD 0)) := by
        unfold atD
        rw [← hcn]
        refine atI_nat ?_
        rw [List.getElem?_map, rowI_get clt, hrn, hcn]
        rfl
      refine z_one (z_ifE (p := (tat (stT t n i).1 (cellI t n (i : Int))).isSome) (JT.to (jt_gt (je_ixO (ds := (rowI t n i (cR t n i).toNat).map .int) (rows_is hq (rowM_get rlt)).own (je_ixL (k := (cR t n i).toNat) (je_var rfl (pv 3)) (JE.to (je_ixTc (ds := [.int (cR t n i), .int (cC t n i)]) (je_var rfl (pv 7)) rfl) (by rw [hrn])) (by rw [List.getElem?_map, hq] <;> rfl)) (je_ixTc (ds := [.int (cR t n i), .int (cC t n i)]) (je_var rfl (pv 7)) rfl) val) je_int) ?_) (fun hs => ?_) (fun hs => ?_))
      · cases hv : tat (stT t n i).1 (cellI t n (i : Int)) with
        | none => rfl
        | some v =>
          have := stT_pos i _ (tat_mem hv)
          exact decide_eq_true (show (0 : Int) < v by have h2 : 1 ≤ v := this; omega)
      · refine z_app (i := 5) (d := .int ((i : Int) + 1)) (fun S H j => hU S H j.1) rfl (pe_bm PySem.F.plainAttrs_list PySem.F.slot_list_append PySem.F.type_list_append mt_append (pv 5) (pa_cons (JE.to (je_var rfl (pv 6)) (by rw [e1''])) pa_nil)) (by rw [List.length_map]; omega) ?_
        refine z_nil.imp fun env' V' ⟨e1, e2⟩ => ⟨_, _, e1, ?_⟩
        rw [e2, clash_step, if_pos hs, rowM_same hs, List.map_append]
        rfl
      · have hs' : tat (stT t n i).1 (cellI t n (i : Int)) = none := by simpa using hs
        refine z_weak (V2 := (V0.own K C p ((stT t n i).2.map .int)).rows qs (rowM t n i)) (fun _ _ j => own_rows j) (fun _ m => own_rowsM m) (fun S H j => hU S H j.1.1) ?_
        refine z_cons (z_rset (k := (cR t n i).toNat) (b := cC t n i) (v := (i : Int) + 1) (q := q) (fun S H j => hU S H j.1) (JE.to (je_var rfl (pv 6)) (by rw [e1''])) hq (rowM_get rlt) ⟨b.1, by rw [rowI_len]; omega⟩
          (pg_sub (je_ixL (k := (cR t n i).toNat) (je_var rfl (pv 3)) (JE.to (je_ixTc (ds := [.int (cR t n i), .int (cC t n i)]) (je_var rfl (pv 7)) rfl) (by rw [hrn])) (by rw [List.getElem?_map, hq] <;> rfl)) (je_ixTc (ds := [.int (cR t n i), .int (cC t n i)]) (je_var rfl (pv 7)) rfl) set_list)) fun env' V' ⟨e1, e2⟩ => ?_
        subst e1 e2
        rw [← rowM_step h0 hs']
        refine z_weak (V2 := (V0.rows qs (rowM t n (i + 1))).own K C p ((stT t n i).2.map .int)) (fun _ _ j => rows_own j) (fun _ m => rows_ownM m) (fun S H j => hU S H j.1.1) ?_
        refine z_nil.imp fun env' V' ⟨e1, e2⟩ => ⟨_, _, e1, ?_⟩
        rw [e2, clash_step, if_neg (by rw [hs']; exact Bool.false_ne_true)]
  · subst e1 e2
    obtain ⟨c1, c2, c3, c4⟩ := stT_ok (t := t) h0 h1 k
    refine z_rel (i := 5) (fun S H j => hU S H j.1) (fun q m => .inl (hM q m)) rfl ?_
    refine z_rrel (i := 3) hU hM rfl ?_
    refine z_one (z_ret (JE.to (je_lst (ja_cons (je_tupleL z (JE.to (je_lcN (own := [("_law_one", 8)]) (j := 8) (fun _ => true) (fun d => match d with | .lst xs => .tup xs | _ => .non) rfl nd (ji_list (je_var rfl (pv 3))) (blkOk_by (N := n__law_stand) (sc := defScope s__law_stand) (by decide +kernel))
        (fun _ _ _ _ _ => jgb_name nd rfl (.inl rfl) (by decide)) (fun _ _ _ _ _ _ _ => jts_nil) (fun s H Cc cl fp d hd _ => ?_) (by rw [List.length_map]; unfold rowM; rw [List.length_map, List.length_range]; omega)) rfl)) (ja_cons (je_tupleL z (je_var rfl (pv 5))) (ja_cons (je_ifE (p := decide (0 < k)) (JT.to (jt_gt (je_var rfl (pv 2)) je_int) (by rw [decide_eq_decide]; omega)) (fun hk0 => je_tup (ja_cons (je_var rfl (pv 2)) (ja_cons (je_ixL (k := k - 1) (z := cellD t n ((k : Int) - 1)) (je_var rfl (pv 0)) (JE.to (je_sub (je_var rfl (pv 2)) je_int) ?_) ?_) ja_nil))) (fun _ => je_non)) ja_nil)))) ?_))
    · obtain ⟨r, _, rfl⟩ := List.mem_map.mp hd
      exact je_tupleL z (je_var rfl (pv 8))
    · have := of_decide_eq_true hk0
      congr 1
      omega
    · have := of_decide_eq_true hk0
      unfold walkL
      rw [List.getElem?_map, List.getElem?_range (by omega)]
      show some (cellD t n ((k - 1 : Nat) : Int)) = some (cellD t n ((k : Int) - 1))
      rw [show ((k - 1 : Nat) : Int) = (k : Int) - 1 by omega]
    · unfold standD
      refine congrArg D.lst (congr (congrArg List.cons ?_) (congrArg (List.cons _) (congr (congrArg List.cons ?_) rfl)))
      · rw [filter_yes, List.map_map]
        unfold rowM rowsT
        rw [List.map_map]
        refine congrArg D.tup (List.map_congr_left fun r _ => ?_)
        show D.tup ((rowI t n k r).map D.int) = _
        unfold rowI
        rw [List.map_map]
        rfl
      · unfold lastT
        by_cases hk0 : 0 < k
        · rw [if_pos (decide_eq_true hk0), if_pos hk0]
        · rw [if_neg (by simpa using hk0), if_neg hk0]

theorem goE_err {n : Int} {b : Nat} {x : D} {er : Err} (h : goE n b x = .error er) : er = ⟨3, []⟩ ∨ er = ⟨11, []⟩ := by
  unfold goE at h
  split at h
  · split at h
    · cases h; exact .inl rfl
    · split at h
      · cases h; exact .inr rfl
      · cases h
  · cases h; exact .inl rfl
def toldGo (er : Err) : D := if er.k = 3 then .str "number" else .str "done"
abbrev S__law_done (P : Program) (w : World) (K : PySem.W.Frag) (mg : Str → Option Value) (base : Heap) (C : Addr) (T : Tx) (Cp : Addr) : Prop := FnCg P w K mg base C T "_law_done" 5 ["_law_painter", "_law_many"] fun V ds Ψ => ∃ (Vb : Vo) (a q : Addr) (t : Fl) (n : Int) (ks : List Nat) (x : D) (h : ks ≠ []), V = Vb.pnt K C Cp a q t n ks ∧ ds = [.raw (.ref a), x] ∧ pOk t n ks ∧ RQ.plain x = true ∧
  Ψ = fun r V' => (∃ er, goE n (ks.getLast h) x = .error er ∧ r = .ok (toldGo er) ∧ V' = V) ∨ ∃ m, goE n (ks.getLast h) x = .ok m ∧ r = .ok (.lst ((fndT t n (ks.getLast h) m).map .int)) ∧ V' = Vb.pnt K C Cp a q t n (ks ++ [ks.getLast h + m])
theorem fn__law_done {Cp : Addr} (d : Df K mg "_law_done" s__law_done ["_law_painter", "_law_many"]) (pc : Pnc K Cp) (Fg : S_Pgo P w K mg base C T Cp) (g3 : mg "InvalidNumber" = some (.ref (T.cl 3))) (g11 : mg "Done" = some (.ref (T.cl 11))) (x33 : Exm K T 3 3 true) (x113 : Exm K T 11 3 false) (x1111 : Exm K T 11 11 true) : S__law_done P w K mg base C T Cp := by
  refine d.fnHg sc__law_done (fun V ds Ψ ⟨_, _, _, _, _, _, _, _, _, e, _⟩ => by rw [e]; rfl) (fun f cdv A' outer s H E A V ds Ψ hr tk ⟨Vb, a, q, t, n, ks, x, h, eV, e1, ok, hx, eΨ⟩ => ?_)
  subst eV e1 eΨ
  have nd := sc__law_done.nd
  refine g_let (i := 2) nd rfl (.inl rfl) je_non ?_
  refine g_cons (N1 := fun env V' => ∃ dd, env = [.d (.raw (.ref a)), .d x, .d dd] ∧ ((∃ er, goE n (ks.getLast h) x = .error er ∧ dd = toldGo er ∧ V' = Vb.pnt K C Cp a q t n ks) ∨ ∃ m, goE n (ks.getLast h) x = .ok m ∧ dd = .lst ((fndT t n (ks.getLast h) m).map .int) ∧ V' = Vb.pnt K C Cp a q t n (ks ++ [ks.getLast h + m]))) ?_ (fun env' V' ⟨dd, e1, e2⟩ => ?_)
  · refine g_tryX (i := 2) (Ψ := fun r V' => (∃ er, goE n (ks.getLast h) x = .error er ∧ r = .error er ∧ V' = Vb.pnt K C Cp a q t n ks) ∨ ∃ m, goE n (ks.getLast h) x = .ok m ∧ r = .ok (.lst ((fndT t n (ks.getLast h) m).map .int)) ∧ V' = Vb.pnt K C Cp a q t n (ks ++ [ks.getLast h + m])) (EtB := fun er => goE n (ks.getLast h) x = .error er)
      (cs := [⟨3, none, fun _ _ _ => tS K C T (Vb.pnt K C Cp a q t n ks) [.d (.raw (.ref a)), .d x, .d .non] (· = [.d (.raw (.ref a)), .d x, .d (.str "number")]) (fun d => False) (fun _ _ _ _ => False) (fun _ => False)⟩,
        ⟨11, none, fun _ _ _ => tS K C T (Vb.pnt K C Cp a q t n ks) [.d (.raw (.ref a)), .d x, .d .non] (· = [.d (.raw (.ref a)), .d x, .d (.str "done")]) (fun d => False) (fun _ _ _ _ => False) (fun _ => False)⟩]) rfl rfl tk nd rfl (.inl rfl) (fun W pn xe tk' => ?_) (fun d V' hΨ => ?_) (fun er V' hΨ => ?_)
      (.plain ⟨rfl, rfl, .inl g3⟩ (fun a oe cls dd pn hz hf => ?_) (.plain ⟨rfl, rfl, .inl g11⟩ (fun a oe cls dd pn hz hf => ?_) .nil)) (fun er he => ?_)
    · exact px_methg Fg (j := 4) hr (by decide) tk' pc.c (je_var rfl (pv 0)) (fo_obj.at rfl) (ja_cons (je_var rfl (pv 1)) ja_nil) ⟨Vb, a, q, t, n, ks, x, h, rfl, rfl, ok, hx, rfl⟩
    · rcases hΨ with ⟨er, _, e, _⟩ | ⟨m, e1, e2, e3⟩
      · cases e
      · exact ⟨d, rfl, .inr ⟨m, e1, Except.ok.inj e2, e3⟩⟩
    · rcases hΨ with ⟨er', e1, e2, e3⟩ | ⟨m, _, e2, _⟩
      · exact ⟨e3, by rw [e1, Except.error.inj e2]⟩
      · cases e2
    · exact js_let (i := 2) nd rfl (.inl rfl) je_str js_nil
    · exact js_let (i := 2) nd rfl (.inl rfl) je_str js_nil
    · rcases goE_err he with e | e
      · refine ⟨[], _, _, rfl, (fun c' h => by cases h), by rw [e]; exact x33, ?_⟩
        intro D σ S H cls dd a o rx ha k1 k2
        exact ⟨S, o, fun env' σ' S' H' n g j r => k1 env' σ' S' H' ⟨_, n, .inl ⟨er, he, by rw [e]; rfl, rfl⟩⟩ g j r, fun _ _ _ _ z => z.elim, fun _ _ _ _ _ _ z => z.elim⟩
      · refine ⟨[_], _, _, rfl, (fun c' h => by rw [List.mem_singleton] at h; subst h; rw [e]; exact x113), by rw [e]; exact x1111, ?_⟩
        intro D σ S H cls dd a o rx ha k1 k2
        exact ⟨S, o, fun env' σ' S' H' n g j r => k1 env' σ' S' H' ⟨_, n, .inl ⟨er, he, by rw [e]; rfl, rfl⟩⟩ g j r, fun _ _ _ _ z => z.elim, fun _ _ _ _ _ _ z => z.elim⟩
  · subst e1
    refine g_one (g_ret (JE.imp (je_var rfl (pv 2)) fun d e => ?_))
    rcases e2 with ⟨er, h1, h2, h3⟩ | ⟨m, h1, h2, h3⟩
    · exact .inl ⟨er, h1, by rw [e, h2], h3⟩
    · exact .inr ⟨m, h1, by rw [e, h2], h3⟩
abbrev S__law_opened (P : Program) (w : World) (K : PySem.W.Frag) (mg : Str → Option Value) (base : Heap) (C : Addr) (T : Tx) : Prop := Fn P w K mg base C T "_law_opened" 5 ["_law_fill_here", "_law_n"] (pok fun ds r => ∃ (t : Fl) (x : D), ds = [t.fil, x] ∧ t.ok ∧ RQ.plain x = true ∧ isIntD x 1 40 = false ∧ r = .bl true)
theorem fn__law_opened {Cp : Addr} (d : Df K mg "_law_opened" s__law_opened ["_law_fill_here", "_law_n"]) (FP : S_Painter P w K mg base C T Cp) (g2 : mg "InvalidSize" = some (.ref (T.cl 2))) (x22 : Exm K T 2 2 true) : S__law_opened P w K mg base C T := by
  refine d.pok sc__law_opened (fun ds r ⟨_, _, e, _⟩ => by rw [e]; rfl) (fun f cdv A outer s H E ds r hr ⟨t, x, e1, ht, hx, hi, e2⟩ => ?_)
  subst e1 e2
  have nd := sc__law_opened.nd
  have tk : Takes (bodyX P w K mg base n__law_opened "_law_opened" s__law_opened f cdv A outer s H E) (fun cls d _ H' => E cls d H') := takes_of rfl rfl rfl rfl
  refine js_let (i := 2) nd rfl (.inl rfl) je_bl ?_
  refine js_cons (N1 := (· = [.d t.fil, .d x, .d (.bl true)])) ?_ (fun env' e => by subst e; exact js_one (jst_retE (je_var rfl (pv 2)) rfl))
  refine jst_try (EtB := (· = ⟨2, []⟩)) (cs := [⟨2, none, fun _ _ _ => tS K C T V0 [.d t.fil, .d x, .d (.bl false)] (· = [.d t.fil, .d x, .d (.bl true)]) (fun d => d = .bl true) (fun _ _ _ _ => False) (fun _ => False)⟩]) rfl rfl tk (fun W pn xe tk' => ?_) (.plain ⟨rfl, rfl, .inl g2⟩ (fun a oe cls dd pn hz hf => ?_) .nil) (fun er he => ⟨[], _, [], rfl, (fun c' h => by cases h), by rw [he]; exact x22, sui_plain⟩)
  · refine jy_exprX (px_onlyE (er := ⟨2, []⟩) (px_mkg FP (j := 4) hr (by decide) tk' (ja_cons (je_var rfl (pv 0)) (ja_cons (je_var rfl (pv 1)) ja_nil)) ⟨t, x, rfl, ht, hx, rfl⟩ ?_ ?_) ?_) (fun d e => nomatch e) (fun er e => (Except.error.inj e).symm)
    · rintro a r V' (⟨_, _, h⟩ | ⟨_, _, _, h, _⟩) er e
      · rw [h]; exact ⟨rfl, fun S H j => j.1⟩
      · rw [hi] at h; cases h
    · rintro a d V' (⟨_, h, _⟩ | ⟨_, _, _, h, _⟩)
      · cases h
      · rw [hi] at h; cases h
    · rintro r V' ⟨a, ⟨_, ⟨_, h, _⟩ | ⟨_, _, _, h, _⟩⟩ | ⟨er, V2, h1, ⟨_, h, _⟩ | ⟨_, _, _, h, _⟩, h2⟩⟩
      · cases h
      · rw [hi] at h; cases h
      · cases h; exact ⟨h1, h2⟩
      · rw [hi] at h; cases h
  · exact js_let (i := 2) nd rfl (.inl rfl) je_bl js_nil

abbrev S__law_built (P : Program) (w : World) (K : PySem.W.Frag) (mg : Str → Option Value) (base : Heap) (C : Addr) (T : Tx) : Prop := Fn P w K mg base C T "_law_built" 6 ["_law_t"] (pok fun ds r => ∃ a b c, ds = [.lst [a, b, c]] ∧ (RQ.plain a = true ∧ RQ.plain b = true ∧ RQ.plain c = true) ∧ fillErr a b c = none ∧ r = .fil a b c)
theorem fn__law_built (d : Df K mg "_law_built" s__law_built ["_law_t"]) (M : Fm P w K mg base C T 4 fillErr) : S__law_built P w K mg base C T := by
  refine d.pok sc__law_built (fun ds r ⟨_, _, _, e, _⟩ => by rw [e]; rfl) (fun f cdv A outer s H E ds r hr ⟨a, b, c, e1, hp, hn, e2⟩ => ?_)
  subst e1 e2
  exact js_one (jst_retE (je_fill M hr (by decide) (ja_cons (je_ixL (k := 0) (je_var rfl (pv 0)) je_int rfl) (ja_cons (je_ixL (k := 1) (je_var rfl (pv 0)) je_int rfl) (ja_cons (je_ixL (k := 2) (je_var rfl (pv 0)) je_int rfl) ja_nil))) hp hn) rfl)

theorem rs_un {K : PySem.W.Frag} {C : Addr} {S : Hp} : ∀ n : Nat, RS K C S (List.replicate n none) (List.replicate n .un)
  | 0 => rfl
  | n + 1 => ⟨.un, _, rfl, True.intro, rs_un n⟩
theorem l_head {X : Cx} {C : Addr} {p1 p2 p3 p4 p5 pos : Pos} {jj} {s0 : Int} {n j : Nat} {rest : List Stmt} (M : S__law_mix X.prog X.w X.K X.mg X.base) (hr : Room j X.A) (hj : 1 ≤ j) (hN : X.N.Nodup) (h1 : X.N[1]? = some ("_law_h" : Str)) (hx : Loc X.env.scope "_law_h") (hv : PE X (.Name "_law_script" p1) (tVar 0))
    (b0 : 0 ≤ s0) (b1 : s0 < 2147483647) (h : ∀ ph pc, JL X C (Vh ph pc) (.un :: .d (.raw (.ref ph)) :: List.replicate n .un) rest (fun _ _ => False) (· = .bl true)) (hg : Gl X "_law_mix" := by rfl) (hs : swapsWith (.Call (.Name "_law_mix" p3) [.Name "_law_script" p1, .Constant (.int s0) jj p2] [] p4) (some (.Name "_law_h" p5)) pos.line X.env = pure false := by rfl)
    (hf : X.fn "_law_h" = true ∨ X.env.scope.names.lookup ("_law_h" : Str) = some .local := by first | exact .inl rfl | exact .inr rfl | assumption) (he : starEach [.Name "_law_script" p1, .Constant (.int s0) jj p2] X.env = (false, eval (.Name "_law_script" p1) X.env) :: starEach [.Constant (.int s0) jj p2] X.env := by rfl) (he2 : starEach [.Constant (.int s0) jj p2] X.env = (false, eval (.Constant (.int s0) jj p2) X.env) :: starEach [] X.env := by rfl)
    (hpl : (backTo p4 (starEach [.Constant (.int s0) jj p2] X.env)).any (·.1) = false := by rfl) :
    PSs X (.Assign [.Name "_law_h" p5] (.Call (.Name "_law_mix" p3) [.Name "_law_script" p1, .Constant (.int s0) jj p2] [] p4) pos :: rest) (fun D σ H => ∃ (a : Addr) (ns : List Int), σ = some (.ref a) :: none :: List.replicate n none ∧ SqL X.K H a (ns.map V.int) ∧ ns.length ≤ 63 ∧ ∀ H', D.rt (.bl true) H') := by
  obtain ⟨f, fd, m1, m2, m3, m4⟩ := M.ex
  refine (pss_cons (ps_set (i := 1) hN h1 hx (pe_call m4 (hr.mono hj) hg m1 m2 m3 .nil passL (pa_cons hv (pa_cons pe_int pa_nil he2) he) (by decide) he hpl) hs hf) (pss_fam (P := fun _ : Addr × Addr => True) (t := fun q => tL X.K C (Vh q.1 q.2) (.un :: .d (.raw (.ref q.1)) :: List.replicate n .un) (fun _ _ => False) (· = .bl true)) fun q _ => h q.1 q.2)).weak fun D σ H ⟨a, ns, e, hS, hl, k⟩ => ?_
  subst e
  refine ⟨.ref a, rfl, ?_⟩
  refine ⟨a, ns, s0, rfl, hS, hl, b0, b1, fun ph pc H' e n1 n2 hs' => ⟨(ph, pc), True.intro, fun _ => none, ⟨(fun _ _ z => by cases z), ⟨rfl, rfl, hs'⟩, ⟨_, _, rfl, True.intro, _, _, rfl, ⟨_, rfl, R.raw_iff.mpr rfl⟩, rs_un n⟩⟩, (fun _ _ _ _ _ z => z.elim), fun d v S' H2 e2 r => ?_⟩⟩
  subst e2
  rw [R.bl_iff] at r
  subst r
  exact k H2

theorem je_fillL {X : Cx} {C : Addr} {T : Tx} {env : List En} {a : Expr} {pos p : Pos} {j : Nat} {ph pc : Addr} (F : S__law_fill X.prog X.w X.K X.mg X.base C T) (hr : Room j X.A) (hj : 3 ≤ j) (ha : JE X C (Vh ph pc) env a (· = .raw (.ref ph))) (hg : Gl X "_law_fill" := by rfl)
    (he : starEach [a] X.env = (false, eval a X.env) :: starEach [] X.env := by rfl) (hpl : (backTo pos (starEach [] X.env)).any (·.1) = false := by rfl) :
    JE X C (Vh ph pc) env (.Call (.Name "_law_fill" p) [a] [] pos) (fun d => ∃ t : Fl, d = t.l ∧ t.ok) :=
  je_calG F hr hj (ja_cons ha ja_nil he) (fun ds e => .inl ⟨drawnFill, ⟨ph, pc, rfl, e, rfl⟩, (fun er ⟨t, h, _⟩ => by cases h), (fun d ⟨t, h, h2⟩ => ⟨t, by cases h; rfl, h2⟩)⟩) hg (by decide) he hpl
theorem wordD_of {s : Str} (h : isW s) : isWordD (.str s) = true := by
  rcases h with h | h | h <;> (subst h; decide +kernel)
theorem Fl.ok.okS {t : Fl} (h : t.ok) : isStartD t.s = true := by
  simp [Fl.s, isStartD, wordD_of h.a, wordD_of h.b]
theorem turn_in5 {a b : Int} (h1 : in5 a) (h2 : in5 b) : isTurnD (.tup [.int a, .int b]) = true := by
  simp [isTurnD, isIntD, h1.1, h1.2, h2.1, h2.2]
theorem Fl.ok.okQ {t : Fl} (h : t.ok) : isTurnD t.q = true := turn_in5 h.f h.g
theorem eqD_pair (a b c d : Int) : eqD (.tup [.int a, .int b]) (.tup [.int c, .int d]) = (decide (a = c) && decide (b = d)) := by
  show ((a == c) && ((b == d) && true)) = _
  rw [Bool.and_true]
  rfl
theorem Fl.ok.okP {t : Fl} (h : t.ok) : isStepD t.p = true := by
  unfold isStepD Fl.p
  rw [turn_in5 h.d h.e, eqD_pair]
  have := h.st
  by_cases h1 : t.d = 0
  · by_cases h2 : t.e = 0
    · exact absurd ⟨h1, h2⟩ this
    · simp [h2]
  · simp [h1]
theorem fillErr_none {a b c : D} (h1 : isStartD a = true) (h2 : isStepD b = true) (h3 : isTurnD c = true) : fillErr a b c = none := by simp [fillErr, h1, h2, h3]
theorem eqD_bl (p q : Bool) : eqD (.bl p) (.bl q) = (p == q) := by cases p <;> cases q <;> rfl
theorem okD_mix {a b : Str} (h1 : isW a) (h2 : isW b) (p q r s : Int) : okD (.tup [.tup [.str a, .str b], .tup [.int p, .int q], .tup [.int r, .int s]]) = true := by
  rcases h1 with h1 | h1 | h1 <;> rcases h2 with h2 | h2 | h2 <;> (subst h1 h2; kernel_rfl)
theorem okD_mixL {a b : Str} (h1 : isW a) (h2 : isW b) (p q r s : Int) : okD (.lst [.tup [.str a, .str b], .tup [.int p, .int q], .tup [.int r, .int s]]) = true := by
  rcases h1 with h1 | h1 | h1 <;> rcases h2 with h2 | h2 | h2 <;> (subst h1 h2; kernel_rfl)
theorem Fl.ok.oS {t : Fl} (h : t.ok) : okD t.s = true := by
  unfold Fl.s
  rcases h.a with h1 | h1 | h1 <;> rcases h.b with h2 | h2 | h2 <;> (rw [h1, h2]; kernel_rfl)

/-- plain data of so many layers -/
structure Lay (k : Nat) (d : D) : Prop where
  p : RQ.plain d = true
  l : PyData.canLay0 (toP d) = true
  d : PyData.depth (toP d) ≤ k
theorem lays {k : Nat} : ∀ {ds : List D}, (∀ d ∈ ds, Lay k d) → plains ds = true ∧ PyData.canLayAll0 (toPs ds) = true ∧ PyData.depthAll (toPs ds) ≤ k
  | [], _ => ⟨rfl, by simp [toPs, PyData.canLayAll0], by simp [toPs, PyData.depthAll]⟩
  | d :: ds, h => by
    obtain ⟨h1, h2, h3⟩ := lays fun x hx => h x (List.mem_cons_of_mem _ hx)
    obtain ⟨g1, g2, g3⟩ := h d List.mem_cons_self
    refine ⟨?_, ?_, ?_⟩
    · show (RQ.plain d && plains ds) = true
      rw [g1, h1]; rfl
    · simp [toPs, PyData.canLayAll0, g2, h2]
    · simp [toPs, PyData.depthAll]; omega
theorem Lay.lst {k : Nat} {ds : List D} (h : ∀ d ∈ ds, Lay k d) : Lay (k + 1) (.lst ds) := by
  obtain ⟨h1, h2, h3⟩ := lays h
  exact ⟨by simp [RQ.plain, h1], by simp [toP, PyData.canLay0, h2], by simp [toP, PyData.depth]; omega⟩
theorem Lay.tup {k : Nat} {ds : List D} (h : ∀ d ∈ ds, Lay k d) : Lay (k + 1) (.tup ds) := by
  obtain ⟨h1, h2, h3⟩ := lays h
  exact ⟨by simp [RQ.plain, h1], by simp [toP, PyData.canLay0, h2], by simp [toP, PyData.depth]; omega⟩
theorem Lay.int {k : Nat} (i : Int) : Lay (k + 1) (.int i) := ⟨rfl, by simp [toP, PyData.canLay0], by simp [toP, PyData.depth]⟩
theorem Lay.bl {k : Nat} (i : Bool) : Lay (k + 1) (.bl i) := ⟨rfl, by simp [toP, PyData.canLay0], by simp [toP, PyData.depth]⟩
theorem Lay.non {k : Nat} : Lay (k + 1) .non := ⟨rfl, by simp [toP, PyData.canLay0], by simp [toP, PyData.depth]⟩
theorem Lay.str {k : Nat} {x : Str} (h : PyData.canLay0 (toP (.str x)) = true) : Lay (k + 1) (.str x) := ⟨rfl, h, by simp [toP, PyData.depth]⟩
theorem Lay.ok {k : Nat} {d : D} (h : Lay k d) (hk : k ≤ 64) : okD d = true := by
  have := h.d
  simp only [okD, h.p, SeqAt.shaped, h.l, Bool.true_and, decide_eq_true_eq]
  omega
mutual
theorem eqD_self : ∀ d : D, RQ.plain d = true → eqD d d = true
  | .non, _ => rfl
  | .bl b, _ => by cases b <;> rfl
  | .int i, _ => by show (i == i) = true; exact beq_self_eq_true i
  | .str x, _ => by show (x == x) = true; exact beq_self_eq_true x
  | .tup ds, h => eqDs_self ds (by simpa [RQ.plain] using h)
  | .lst ds, h => eqDs_self ds (by simpa [RQ.plain] using h)
  | .fil _ _ _, h => by simp [RQ.plain] at h
  | .raw _, h => by simp [RQ.plain] at h
  | .dct _ _, h => by simp [RQ.plain] at h
  | .tbl _, h => by simp [RQ.plain] at h
theorem eqDs_self : ∀ ds : List D, plains ds = true → PyData.eqvAll (toPs ds) (toPs ds) = true
  | [], _ => rfl
  | d :: ds, h => by
    have h' : RQ.plain d = true ∧ plains ds = true := by
      have : (RQ.plain d && plains ds) = true := h
      simpa using this
    show (eqD d d && PyData.eqvAll (toPs ds) (toPs ds)) = true
    rw [eqD_self d h'.1, eqDs_self ds h'.2]; rfl
end
theorem lay_rows (rs : List (List Int)) : Lay 3 (.lst (rs.map fun r => .lst (r.map .int))) :=
  Lay.lst fun d hd => by
    obtain ⟨r, _, rfl⟩ := List.mem_map.mp hd
    exact Lay.lst fun d hd => by
      obtain ⟨i, _, rfl⟩ := List.mem_map.mp hd
      exact Lay.int i
theorem lay_tups (ks : List (List Int)) : Lay 3 (.lst (ks.map fun k => .tup (k.map .int))) :=
  Lay.lst fun d hd => by
    obtain ⟨r, _, rfl⟩ := List.mem_map.mp hd
    exact Lay.tup fun d hd => by
      obtain ⟨i, _, rfl⟩ := List.mem_map.mp hd
      exact Lay.int i
section
variable {X : Cx} {C : Addr} {T : Tx} {env : List En} {a b : Expr} {pos p : Pos} {j : Nat} {ph pc : Addr} {M : Int}
/-- a draw, its bound drawn, too -/
theorem je_nextR (F : S__law_next X.prog X.w X.K X.mg X.base C T) (hr : Room j X.A) (hj : 1 ≤ j) (ha : JE X C (Vh ph pc) env a (· = .raw (.ref ph))) (hb : JE X C (Vh ph pc) env b (isI fun n => 0 < n ∧ n ≤ M)) (hM : M < 2 ^ 200) (hg : Gl X "_law_next" := by rfl)
    (he : starEach [a, b] X.env = (false, eval a X.env) :: starEach [b] X.env := by rfl) (he2 : starEach [b] X.env = (false, eval b X.env) :: starEach [] X.env := by rfl) (hpl : (backTo pos (starEach [b] X.env)).any (·.1) = false := by rfl) :
    JE X C (Vh ph pc) env (.Call (.Name "_law_next" p) [a, b] [] pos) (isI fun i => 0 ≤ i ∧ i < M) :=
  je_calG F hr hj (ja_consR ha (ja_consR hb ja_nil he2) he) (fun ds ⟨x, r, e, e1, y, r2, e2, ⟨n, en, h0, h1⟩, e3⟩ => .inl ⟨rnd n, ⟨ph, pc, n, rfl, by rw [e, e1, e2, en, e3], h0, Int.lt_of_le_of_lt h1 (Int.lt_trans hM (by decide)), rfl⟩, (fun er ⟨i, h, _⟩ => by cases h), (fun d ⟨i, h, h2, h3⟩ => ⟨i, by cases h; rfl, h2, Int.lt_of_lt_of_le h3 h1⟩)⟩) hg (by decide) he hpl
end
def pastD (ks : List Nat) : D := .lst (ks.map fun (k : Nat) => .int (k : Int))
theorem past_at {ks : List Nat} (h : ks ≠ []) : atD (ks.map fun (k : Nat) => D.int (k : Int)) (-1) = some (.int ((ks.getLast h : Nat) : Int)) := at_last h
theorem lay_ints {k : Nat} (xs : List Int) : ∀ d ∈ xs.map D.int, Lay (k + 1) d := fun d hd => by
  obtain ⟨i, _, rfl⟩ := List.mem_map.mp hd
  exact Lay.int i
theorem lay_rowsT (t : Fl) (n : Int) (k : Nat) : Lay 3 (rowsT t n k) := Lay.tup fun d hd => by
  obtain ⟨r, _, rfl⟩ := List.mem_map.mp hd
  exact Lay.tup fun d hd => by
    obtain ⟨c, _, rfl⟩ := List.mem_map.mp hd
    exact Lay.int _
theorem lay_stand (t : Fl) (n : Int) (k : Nat) : Lay 4 (standD t n k) := Lay.lst fun d hd => by
  simp only [List.mem_cons, List.not_mem_nil, or_false] at hd
  rcases hd with h | h | h <;> subst h
  · exact lay_rowsT t n k
  · exact Lay.tup (lay_ints _)
  · unfold lastT
    split
    · refine Lay.tup fun d hd => ?_
      simp only [List.mem_cons, List.not_mem_nil, or_false] at hd
      rcases hd with h | h <;> subst h
      · exact Lay.int _
      · unfold cellD
        exact Lay.tup fun d hd => by
          simp only [List.mem_cons, List.not_mem_nil, or_false] at hd
          rcases hd with h | h <;> subst h <;> exact Lay.int _
    · exact Lay.non
def dueT (t : Fl) (n : Int) (b : Nat) (m : Int) : D := match goE n b (.int m) with | .error er => toldGo er | .ok m' => .lst ((fndT t n b m').map .int)
def pastT (n : Int) (ks : List Nat) (b : Nat) (m : Int) : List Nat := match goE n b (.int m) with | .error _ => ks | .ok m' => ks ++ [b + m']
theorem due_ok (t : Fl) (n : Int) (b : Nat) (m : Int) : okD (dueT t n b m) = true ∧ eqD (dueT t n b m) (dueT t n b m) = true := by
  unfold dueT
  split
  · rename_i er h
    rcases goE_err h with e | e <;> subst e <;> exact ⟨by kernel_rfl, by kernel_rfl⟩
  · have l := Lay.lst (k := 1) (lay_ints (fndT t n b ‹Nat›))
    exact ⟨l.ok (by decide), eqD_self _ l.p⟩
theorem oddGo : ∀ x, x ∈ ([.int 0, .int (-1), .bl true, .non, .str "1"] : List D) → RQ.plain x = true ∧ ∀ n b, goE n b x = .error ⟨3, []⟩ := fun x h => by
  simp only [List.mem_cons, List.not_mem_nil, or_false] at h
  rcases h with h | h | h | h | h <;> subst h <;> exact ⟨rfl, fun n b => goE_no (by first | rfl | decide)⟩
theorem oddOpen : ∀ x, x ∈ ([.int 0, .int 41, .bl true, .non] : List D) → RQ.plain x = true ∧ isIntD x 1 40 = false := fun x h => by
  simp only [List.mem_cons, List.not_mem_nil, or_false] at h
  rcases h with h | h | h | h <;> subst h <;> exact ⟨rfl, by decide +kernel⟩
theorem pOk.push {t : Fl} {n : Int} {ks : List Nat} {m : Nat} (ok : pOk t n ks) (h : ((ks.getLast ok.h + m : Nat) : Int) ≤ n * n) (hl : ks.length < 99999) : pOk t n (ks ++ [ks.getLast ok.h + m]) := ⟨ok.t, ok.n0, ok.n1, by simp, fun k hk => by
  rcases List.mem_append.mp hk with hk | hk
  · exact ok.k k hk
  · rw [List.mem_singleton.mp hk]; exact h, by rw [List.length_append]; show ks.length + 1 < 100000; omega⟩
theorem pOk.take {t : Fl} {n : Int} {ks : List Nat} {m : Nat} (ok : pOk t n ks) (h : 0 < m) : pOk t n (ks.take m) := ⟨ok.t, ok.n0, ok.n1, by
  have := List.length_pos_iff.mpr ok.h
  exact List.length_pos_iff.mp (by rw [List.length_take]; omega), fun k hk => ok.k k (List.mem_of_mem_take hk), by rw [List.length_take]; have := ok.l; omega⟩
theorem pastT_ok {t : Fl} {n : Int} {ks : List Nat} {m : Int} (ok : pOk t n ks) (hl : ks.length < 99999) : pOk t n (pastT n ks (ks.getLast ok.h) m) ∧ (pastT n ks (ks.getLast ok.h) m).length ≤ ks.length + 1 := by
  unfold pastT
  split
  · exact ⟨ok, Nat.le_succ _⟩
  · rename_i m' h
    rw [goE_int] at h
    split at h
    · cases h
    · split at h
      · cases h
      · cases h
        exact ⟨ok.push (by omega) hl, by rw [List.length_append]; exact Nat.le_refl _⟩

theorem ok_law {Cp f : Addr} {fd : FuncData} (F : Fun K "law" "law" s_law f fd) (z : Zb mg) (Fx : S__law_next P w K mg base C T) (Fm : S__law_mix P w K mg base) (Ff : S__law_fill P w K mg base C T) (F_law_built : S__law_built P w K mg base C T) (F_law_walk : S__law_walk P w K mg base C T) (pc' : Pnc K Cp) (FP : S_Painter P w K mg base C T Cp) (Fr : S_Prows P w K mg base C T Cp) (Fl' : S_Plast P w K mg base C T Cp) (Fc : S_Pclash P w K mg base C T Cp) (Fn' : S_Plen P w K mg base C T Cp)
    (Fu : S_Pundo P w K mg base C T Cp) (Fy : S_Pcopy P w K mg base C T Cp) (F_law_stand : S__law_stand P w K mg base C T) (F_law_done : S__law_done P w K mg base C T Cp) (F_law_opened : S__law_opened P w K mg base C T) : FnOk P w K mg base (L2.CX P w) 8 f fd ["_law_script"] (spLaw K) := by
  refine F.okX sc_law (fun vs H Q E h => by obtain ⟨a, ns, e, _⟩ := h; rw [e]; rfl) (fun cdv A outer s H vs Q E hr h => ?_)
  obtain ⟨a, ns, e, hS, hl, q⟩ := h
  subst e
  have nd := sc_law.nd
  have hu := hr.units
  refine ⟨_, l_head (C := C) (n := 11) Fm hr (by decide) nd rfl (by first | exact .inl rfl | exact .inr rfl) (pv 0) (by decide) (by decide) (fun ph pc => ?_), ⟨a, ns, rfl, hS, hl, q⟩⟩
  refine l_letR (i := 2) nd rfl (by first | exact .inl rfl | exact .inr rfl) (je_fillL Ff hr (by decide) (je_var rfl (pv 1))) (fun d ⟨t, e, ht⟩ => ?_)
  subst e
  refine l_letR (i := 3) (Φ := isI fun n => 1 ≤ n ∧ n ≤ 8) nd rfl (by first | exact .inl rfl | exact .inr rfl) (je_impI (je_addI (je_detI je_int) (je_next Fx hr (by decide) (je_var rfl (pv 1)) je_int (by decide) (by decide))) (fun k ⟨i, j, h1, h2, h3⟩ => by omega)) (fun d ⟨n, e, hn1, hn8⟩ => ?_)
  subst e
  have hB : n ≤ BIG := by unfold BIG; omega
  have nn : n * n ≤ 8 * 8 := Int.mul_le_mul hn8 hn8 (by omega) (by omega)
  have n1 : 1 * 1 ≤ n * n := Int.mul_le_mul (by omega) (by omega) (by omega) (by omega)
  have hmul : CMulW n n := big_mul (by unfold BIG; omega) hB (by unfold BIG; omega) hB
  refine l_let (i := 4) (x := .lst (walkL t n (n * n).toNat)) nd rfl (by first | exact .inl rfl | exact .inr rfl) (je_cal F_law_walk hr (by decide) (ja_cons (je_var rfl (pv 2)) (ja_cons (je_var rfl (pv 3)) ja_nil)) ⟨t, n, rfl, ht, by omega, by omega, rfl⟩) ?_
  have hi : isIntD (.int n) 1 40 = true := by simp [isIntD]; omega
  refine l_letXL (i := 5) (Ψ := fun d V' => ∃ a q, d = .raw (.ref a) ∧ V' = (Vh ph pc).pnt K C Cp a q t n [0]) nd rfl (by first | exact .inl rfl | exact .inr rfl) (xl_of (px_mkg FP hr (by decide) takesF (xs := [t.fil, .int n]) (ja_cons (je_cal F_law_built hr (by decide) (ja_cons (je_var rfl (pv 2)) ja_nil) ⟨t.s, t.p, t.q, rfl, ⟨rfl, rfl, rfl⟩, fillErr_none ht.okS ht.okP ht.okQ, rfl⟩) (ja_cons (je_var rfl (pv 3)) ja_nil)) ⟨t, .int n, rfl, ht, rfl, rfl⟩ ?_ ?_) ?_ ?_) ?_
  · rintro a2 r V' (⟨h, _⟩ | ⟨_, _, _, _, h, _⟩) er e
    · rw [hi] at h; cases h
    · rw [h] at e; cases e
  · rintro a2 d V' (⟨h, _⟩ | ⟨_, _, _, _, h, _⟩)
    · rw [hi] at h; cases h
    · exact Except.ok.inj h
  · rintro d V' ⟨a2, ⟨h, ⟨h2, _⟩ | ⟨n', q0, e1, _, _, e2⟩⟩ | ⟨er, _, h, _⟩⟩
    · rw [hi] at h2; cases h2
    · cases e1
      exact ⟨a2, q0, Except.ok.inj h, e2⟩
    · cases h
  · rintro er V' ⟨a2, ⟨h, _⟩ | ⟨er', V2, h, h2 | ⟨_, _, _, _, h2, _⟩, _⟩⟩
    · cases h
    · rw [hi] at h2; cases h2.1
    · cases h2
  rintro d V' ⟨a, q0, rfl, rfl⟩
  refine l_let (i := 6) (x := pastD [0]) nd rfl (by first | exact .inl rfl | exact .inr rfl) (je_lst (ja_cons je_int ja_nil)) ?_
  have ok0 : pOk t n [0] := ⟨ht, by omega, by omega, by simp, (fun k hk => by rw [List.mem_singleton.mp hk]; show (0 : Int) ≤ n * n; omega), by decide⟩
  -- what a turn keeps
  let Inv : Nat → List En → Vo → Prop := fun i envI VI => ∃ (ks : List Nat) (e7 e8 e9 e10 e11 : En), envI = [.un, .d (.raw (.ref ph)), .d t.l, .d (.int n), .d (.lst (walkL t n (n * n).toNat)), .d (.raw (.ref a)), .d (pastD ks), e7, e8, e9, e10, e11, .un] ∧ VI = (Vh ph pc).pnt K C Cp a q0 t n ks ∧ pOk t n ks ∧ ks.length ≤ i + 1
  have shows : ∀ {env : List En} {V : Vo} {a q : Addr} {ks : List Nat} {o o2 o3 : Expr} {pl p1 p2 p3 : Pos} (ok : pOk t n ks), isFO K C V Cp a (pF t n q) → isOwn K C V q (ks.map (entD t n)) → JE (bodyX P w K mg base n_law "law" s_law f cdv A outer s H E) C V env o (· = .raw (.ref a)) → JE (bodyX P w K mg base n_law "law" s_law f cdv A outer s H E) C V env o2 (· = .raw (.ref a)) → JE (bodyX P w K mg base n_law "law" s_law f cdv A outer s H E) C V env o3 (· = .raw (.ref a)) → attributeBase o "rows" (bodyX P w K mg base n_law "law" s_law f cdv A outer s H E).env (eval o (bodyX P w K mg base n_law "law" s_law f cdv A outer s H E).env) = eval o (bodyX P w K mg base n_law "law" s_law f cdv A outer s H E).env → attributeBase o2 "clashes" (bodyX P w K mg base n_law "law" s_law f cdv A outer s H E).env (eval o2 (bodyX P w K mg base n_law "law" s_law f cdv A outer s H E).env) = eval o2 (bodyX P w K mg base n_law "law" s_law f cdv A outer s H E).env → attributeBase o3 "last" (bodyX P w K mg base n_law "law" s_law f cdv A outer s H E).env (eval o3 (bodyX P w K mg base n_law "law" s_law f cdv A outer s H E).env) = eval o3 (bodyX P w K mg base n_law "law" s_law f cdv A outer s H E).env →
      JE (bodyX P w K mg base n_law "law" s_law f cdv A outer s H E) C V env (.List [.Attribute o "rows" p1, .Attribute o2 "clashes" p2, .Attribute o3 "last" p3] pl) (· = standD t n (ks.getLast ok.h)) := fun {env V a q ks o o2 o3 pl p1 p2 p3} ok hf ho he he2 he3 b1 b2 b3 =>
    je_lst (ja_cons (je_propO Fr hr (by decide) pc'.c he hf.is ⟨a, q, t, n, ks, hf, ho, rfl, ok, rfl⟩ (fun er h => nomatch h ok.h) (fun d h => Except.ok.inj (h ok.h)) b1) (ja_cons (je_propO Fc hr (by decide) pc'.c he2 hf.is ⟨a, q, t, n, ks, hf, ho, rfl, ok, rfl⟩ (fun er h => nomatch h ok.h) (fun d h => Except.ok.inj (h ok.h)) b2) (ja_cons (je_propO Fl' hr (by decide) pc'.c he3 hf.is ⟨a, q, t, n, ks, hf, ho, rfl, ok, rfl⟩ (fun er h => nomatch h ok.h) (fun d h => Except.ok.inj (h ok.h)) b3) ja_nil)))
  have layS := fun k => lay_stand t n k
  refine l_cons (N1 := fun env V' => ∃ i, i ≤ 13 ∧ Inv i env V') ?_ (fun env' V' ⟨i, hi13, ks, e7, e8, e9, e10, e11, e1, e2, ok, hlen⟩ => ?_)
  · refine l_for (bind := bN 7) (Φl := fun ds => ∃ m : Int, (0 ≤ m ∧ m < 13) ∧ ds = rngD 0 m.toNat) (fun _ i envI VI => Inv i envI VI) (passes_of rfl) rfl (ji0_range1R (je_liftO (je_lift (je_next Fx hr (by decide) (je_var rfl (pv 1)) je_int (by decide) (by decide)))) (fun n h => ⟨by omega, by omega⟩) rfl z.range) (jg_name nd rfl (by first | exact .inl rfl | exact .inr rfl)) (fun ds i d envI VI _ _ _ => ⟨_, rfl⟩) ?_ ?_ ?_
    · rintro ds ⟨m, _, rfl⟩
      exact ⟨[0], _, _, _, _, _, rfl, rfl, ok0, by decide⟩
    · rintro ds envI VI ⟨m, hm, rfl⟩ hI
      rw [rngD_length] at hI
      exact ⟨m.toNat, by omega, hI⟩
    · rintro ⟨ds, i, d, envI, VI, envB⟩ ⟨⟨m0, hm0, hΦ⟩, hd, ⟨ks, e7, e8, e9, e10, e11, e1, e2, ok, hlen⟩, hB'⟩
      dsimp only at hΦ hd e1 e2 hB' hlen ⊢
      have hB2 : envB = envI.set 7 (.d d) := hB'
      subst hΦ
      have hi' : i < m0.toNat := by
        have := (List.getElem?_eq_some_iff.mp hd).1
        rw [rngD_length] at this
        exact this
      subst e1 e2 hB2
      have hpos : 1 ≤ ks.length := List.length_pos_iff.mpr ok.h
      -- undo, or go
      refine l_cons (N1 := fun env V' => ∃ (ks : List Nat) (e7 e8 e9 e10 e11 : En), env = [.un, .d (.raw (.ref ph)), .d t.l, .d (.int n), .d (.lst (walkL t n (n * n).toNat)), .d (.raw (.ref a)), .d (pastD ks), e7, e8, e9, e10, e11, .un] ∧ V' = (Vh ph pc).pnt K C Cp a q0 t n ks ∧ pOk t n ks ∧ ks.length ≤ i + 1 + 1) ?_ (fun env' V' ⟨ks, e7, e8, e9, e10, e11, e1, e2, ok, hlen⟩ => ?_)
      · refine l_ifR (jt_eqI' hu (je_liftO (je_lift (je_next Fx hr (by decide) (je_var rfl (pv 1)) je_int (by decide) (by decide)))) (je_detI je_int)) (fun _ => ?_) (fun _ => ?_)
        · refine l_notX (tl_ne hu (y := .bl (decide (1 < ks.length))) (xl_of (px_meth0g Fu (j := 7) hr (by decide) takesF pc'.c (je_var rfl (pv 5)) (fo_obj.at rfl) ⟨Vh ph pc, a, q0, t, n, ks, rfl, rfl, ok, rfl⟩) (Ψ := fun d V' => d = .bl (decide (1 < ks.length)) ∧ V' = (Vh ph pc).pnt K C Cp a q0 t n (ks.take (max 1 (ks.length - 1)))) ?_ ?_) (fun d V' h => JE.to (je_gt (je_lenL z (je_var rfl (pv 6))) je_int) ?_) ?_ ?_) ?_ ?_
          · rintro d V' (⟨h1, h2, h3⟩ | ⟨h1, h2, h3⟩)
            · refine ⟨by rw [Except.ok.inj h2, decide_eq_false (by omega)], ?_⟩
              rw [h3, List.take_of_length_le (by omega)]
            · refine ⟨by rw [Except.ok.inj h2, decide_eq_true h1], ?_⟩
              rw [h3, List.dropLast_eq_take, show max 1 (ks.length - 1) = ks.length - 1 by omega]
          · rintro er V' (⟨_, h, _⟩ | ⟨_, h, _⟩) <;> cases h
          · rw [List.length_map]
            congr 1
            rw [decide_eq_decide]
            omega
          · rintro d V' ⟨h, _⟩
            rw [h]; exact (Lay.bl (k := 0) _).ok (by decide)
          · exact (Lay.bl (k := 0) _).ok (by decide)
          · rintro b V' ⟨d, ⟨h, _⟩, e⟩
            rw [e, h, eqD_bl]; simp
          · rintro V' ⟨d, ⟨_, e2⟩, _⟩
            subst e2
            refine l_let (i := 6) (x := pastD (ks.take (max 1 (ks.length - 1)))) nd rfl (by first | exact .inl rfl | exact .inr rfl) (JE.to (je_slToG (k := max 1 (ks.length - 1)) (je_var rfl (pv 6)) (JE.to (je_detO (je_impI (je_maxI rfl z (je_detI je_int) (je_detI (je_sub (je_lenL z (je_var rfl (pv 6))) je_int))) (by rintro _ ⟨_, _, rfl, rfl, rfl⟩; rfl))) ?_)) ?_) ?_
            · rw [List.length_map]
              congr 1
              omega
            · unfold pastD; rw [List.map_take]
            · exact l_nil.imp fun env' V' ⟨e1, e2⟩ => ⟨_, _, _, _, _, _, e1, e2, ok.take (by omega), by rw [List.length_take]; omega⟩
        · refine l_letXL (i := 8) (Ψ := fun d V' => ∃ a2 q2, d = .raw (.ref a2) ∧ V' = ((Vh ph pc).pnt K C Cp a q0 t n ks).pnt K C Cp a2 q2 t n ks) nd rfl (by first | exact .inl rfl | exact .inr rfl) (xl_of (px_meth0g Fy (j := 7) hr (by decide) takesF pc'.c (je_var rfl (pv 5)) (fo_obj.at rfl) ⟨a, q0, t, n, ks, fo_obj, own_is.obj, rfl, ok, rfl⟩) (fun d V' ⟨a2, q2, h1, h2⟩ => ⟨a2, q2, Except.ok.inj h1, h2⟩) (fun er V' ⟨_, _, h, _⟩ => nomatch h)) ?_
          rintro d V' ⟨a2, q2, rfl, rfl⟩
          refine l_letR (i := 9) (Φ := isI fun i => 0 ≤ i ∧ i < 66) nd rfl (by first | exact .inl rfl | exact .inr rfl) (je_liftO (je_lift (je_liftO (je_lift (je_nextR Fx hr (by decide) (je_var rfl (pv 1)) (je_ixLR (n := 3) (je_lst (ja_cons je_int (ja_cons je_int (ja_cons (je_add (je_mulW (je_var rfl (pv 3)) (je_var rfl (pv 3)) (hmul)) je_int) ja_nil)))) (je_next Fx hr (by decide) (je_var rfl (pv 1)) je_int (by decide) (by decide)) (by show (3 : Int) ≤ 3; decide) ?_) (by decide)))))) ?_
          · intro d hd
            simp only [List.mem_cons, List.not_mem_nil, or_false] at hd
            rcases hd with h | h | h <;> subst h
            · exact ⟨4, rfl, by omega, by omega⟩
            · exact ⟨12, rfl, by omega, by omega⟩
            · exact ⟨_, rfl, by omega, by omega⟩
          rintro d ⟨m, rfl, hm0', hm1⟩
          have hlast := ok.last
          refine l_let (i := 10) (x := standD t n (ks.getLast ok.h)) nd rfl (by first | exact .inl rfl | exact .inr rfl) (je_cal F_law_stand hr (by decide) (ja_cons (je_var rfl (pv 4)) (ja_cons (je_var rfl (pv 3)) (ja_cons (je_ixN (je_var rfl (pv 6)) je_nint (past_at ok.h)) ja_nil))) ⟨t, n, _, rfl, ht, ⟨by omega, by omega⟩, hlast, rfl⟩) ?_
          refine l_let (i := 11) (x := if decide (m < 1) = true then .str "number" else .str "done") nd rfl (by first | exact .inl rfl | exact .inr rfl) (je_ifE (jt_lt (je_var rfl (pv 9)) je_int) (fun _ => je_str) (fun _ => je_str)) ?_
          obtain ⟨pok, plen⟩ := pastT_ok (m := m) ok (by omega)
          refine l_cons (N1 := fun env V' => env = [.un, .d (.raw (.ref ph)), .d t.l, .d (.int n), .d (.lst (walkL t n (n * n).toNat)), .d (.raw (.ref a)), .d (pastD (pastT n ks (ks.getLast ok.h) m)), .d d, .d (.raw (.ref a2)), .d (.int m), .d (standD t n (ks.getLast ok.h)), .d (dueT t n (ks.getLast ok.h) m), .un] ∧ V' = ((Vh ph pc).pnt K C Cp a q0 t n ks).pnt K C Cp a2 q2 t n ks) ?_ (fun env' V' ⟨e1, e2⟩ => ?_)
          · refine l_ifE (q := decide (0 < m) && decide ((ks.getLast ok.h : Nat) + m ≤ n * n)) (jt_w (jw_and (p := decide (0 < m)) (q := decide ((ks.getLast ok.h : Nat) + m ≤ n * n)) (jt_gt (je_var rfl (pv 9)) je_int) (fun _ => jw_and1 (jt_le (je_add (je_ixN (je_var rfl (pv 6)) je_nint (past_at ok.h)) (je_var rfl (pv 9))) (je_mulW (je_var rfl (pv 3)) (je_var rfl (pv 3)) (hmul)))))) (fun hq => ?_) (fun hq => ?_)
            · rw [Bool.and_eq_true, decide_eq_true_eq, decide_eq_true_eq] at hq
              have eg : goE n (ks.getLast ok.h) (.int m) = .ok m.toNat := by rw [goE_int, if_neg (by omega), if_neg (by omega)]
              have ep : pastT n ks (ks.getLast ok.h) m = ks ++ [ks.getLast ok.h + m.toNat] := by unfold pastT; rw [eg]
              have ed : dueT t n (ks.getLast ok.h) m = .lst ((fndT t n (ks.getLast ok.h) m.toNat).map .int) := by unfold dueT; rw [eg]
              rw [ep, ed]
              rw [ep] at pok
              have gl : (ks ++ [ks.getLast ok.h + m.toNat]).getLast pok.h = ks.getLast ok.h + m.toNat := by simp
              refine l_let (i := 6) (x := pastD (ks ++ [ks.getLast ok.h + m.toNat])) nd rfl (by first | exact .inl rfl | exact .inr rfl) (JE.to (je_catL (je_var rfl (pv 6)) (je_lst (ja_cons (je_add (je_ixN (je_var rfl (pv 6)) je_nint (past_at ok.h)) (je_var rfl (pv 9))) ja_nil)) (by rw [List.length_map]; show ks.length + 1 ≤ 1000000; omega)) ?_) ?_
              · unfold pastD
                rw [List.map_append]
                congr 2
                show [D.int _] = [D.int _]
                congr 2
                omega
              have pa : atD ((ks ++ [ks.getLast ok.h + m.toNat]).map fun (k : Nat) => D.int (k : Int)) (-1) = some (.int ((ks.getLast ok.h + m.toNat : Nat) : Int)) := by
                have h := past_at pok.h
                rw [gl] at h
                exact h
              refine l_let (i := 11) (x := .lst ((fndT t n (ks.getLast ok.h) m.toNat).map .int)) nd rfl (by first | exact .inl rfl | exact .inr rfl) (JE.to (je_listT z (je_slFromT (je_ixLc (ds := [rowsT t n (ks.getLast ok.h + m.toNat), clashT t n (ks.getLast ok.h + m.toNat), lastT t n (ks.getLast ok.h + m.toNat)]) (je_cal (z := standD t n (ks.getLast ok.h + m.toNat)) F_law_stand hr (by decide) (ja_cons (je_var rfl (pv 4)) (ja_cons (je_var rfl (pv 3)) (ja_cons (je_ixN (je_var rfl (pv 6)) je_nint pa) ja_nil))) ⟨t, n, _, rfl, ht, ⟨by omega, by omega⟩, by omega, rfl⟩) rfl) (je_lenT z (je_ixLc (ds := [rowsT t n (ks.getLast ok.h), clashT t n (ks.getLast ok.h), lastT t n (ks.getLast ok.h)]) (je_var rfl (pv 10)) rfl)))) ?_) ?_
              · unfold fndT
                rw [List.length_map, List.map_drop]
              · exact l_nil.imp fun env' V' ⟨e1, e2⟩ => ⟨e1, e2⟩
            · have hq' : ¬ (0 < m ∧ (ks.getLast ok.h : Nat) + m ≤ n * n) := fun h => by
                rw [decide_eq_true h.1, decide_eq_true h.2] at hq; cases hq
              refine l_nil.imp fun env' V' ⟨e1, e2⟩ => ⟨?_, e2⟩
              rw [e1]
              unfold pastT dueT
              by_cases h1 : m < 1
              · rw [goE_int, if_pos h1, if_pos (decide_eq_true h1)]; rfl
              · rw [goE_int, if_neg h1, if_neg (show ¬ decide (m < 1) = true by simpa using h1), if_pos (show n * n < ((ks.getLast ok.h : Nat) : Int) + m by omega)]; rfl
          · subst e1 e2
            refine l_weak (V2 := ((Vh ph pc).pnt K C Cp a2 q2 t n ks).pnt K C Cp a q0 t n ks) (fun S H j => swap4 j) ?_
            obtain ⟨dok, deq⟩ := due_ok t n (ks.getLast ok.h) m
            refine l_notX (tl_or (tl_ne hu (y := dueT t n (ks.getLast ok.h) m) (xl_of (px_calCg F_law_done (j := 7) hr (by decide) takesF (ja_cons (je_var rfl (pv 5)) (ja_cons (je_var rfl (pv 9)) ja_nil)) ⟨(Vh ph pc).pnt K C Cp a2 q2 t n ks, a, q0, t, n, ks, .int m, ok.h, rfl, rfl, ok, rfl, rfl⟩) (Ψ := fun d V' => d = dueT t n (ks.getLast ok.h) m ∧ V' = ((Vh ph pc).pnt K C Cp a2 q2 t n ks).pnt K C Cp a q0 t n (pastT n ks (ks.getLast ok.h) m)) ?_ ?_) (fun d V' h => (je_var rfl (pv 11))) (fun d V' h => by rw [h.1]; exact dok) dok) ?_ (q := false) (fun V' ⟨d, ⟨_, e2⟩, _⟩ => ?_)) (fun b V' h => h.2) (fun V' ⟨⟨d, ⟨_, e2⟩, _⟩, _⟩ => ?_)
            · rintro d V' (⟨er, h1, h2, h3⟩ | ⟨m', h1, h2, h3⟩)
              · refine ⟨?_, ?_⟩
                · rw [Except.ok.inj h2]; unfold dueT; rw [h1]
                · rw [h3]; unfold pastT; rw [h1]
              · refine ⟨?_, ?_⟩
                · rw [Except.ok.inj h2]; unfold dueT; rw [h1]
                · rw [h3]; unfold pastT; rw [h1]
            · rintro er V' (⟨_, _, h, _⟩ | ⟨_, _, h, _⟩) <;> cases h
            · rintro b V' ⟨d, ⟨h, _⟩, e⟩
              rw [e, h, deq]; rfl
            · subst e2
              exact jw_or1 (JT.to (jt_ne hu (shows (V := ((Vh ph pc).pnt K C Cp a2 q2 t n ks).pnt K C Cp a q0 t n (pastT n ks (ks.getLast ok.h) m)) (a := a2) (q := q2) ok fo_obj.own.obj own_is.obj.own.obj (je_var rfl (pv 8)) (je_var rfl (pv 8)) (je_var rfl (pv 8)) rfl rfl rfl) (je_var rfl (pv 10)) ((layS _).ok (by decide)) ((layS _).ok (by decide))) (by rw [eqD_self _ (layS _).p]; rfl))
            · subst e2
              refine l_weak (V2 := (Vh ph pc).pnt K C Cp a q0 t n (pastT n ks (ks.getLast ok.h) m)) (fun S H j => drop4 j) ?_
              exact l_nil.imp fun env' V' ⟨e1, e2⟩ => ⟨_, _, _, _, _, _, e1, e2, pok, by omega⟩
      · subst e1 e2
        have hpos : 1 ≤ ks.length := List.length_pos_iff.mpr ok.h
        refine l_let (i := 10) (x := standD t n (ks.getLast ok.h)) nd rfl (by first | exact .inl rfl | exact .inr rfl) (je_cal F_law_stand hr (by decide) (ja_cons (je_var rfl (pv 4)) (ja_cons (je_var rfl (pv 3)) (ja_cons (je_ixN (je_var rfl (pv 6)) je_nint (past_at ok.h)) ja_nil))) ⟨t, n, _, rfl, ht, ⟨by omega, by omega⟩, ok.last, rfl⟩) ?_
        refine l_not (jt_w (jw_or (p := false) (q := false) (JT.to (jt_ne hu (shows (V := (Vh ph pc).pnt K C Cp a q0 t n ks) (a := a) (q := q0) ok fo_obj own_is.obj (je_var rfl (pv 5)) (je_var rfl (pv 5)) (je_var rfl (pv 5)) rfl rfl rfl) (je_var rfl (pv 10)) ((layS _).ok (by decide)) ((layS _).ok (by decide))) (by rw [eqD_self _ (layS _).p]; rfl)) (fun _ => jw_or1 (JT.to (jt_neI hu (je_lenP (Φ := (· = .int ((ks.length - 1 : Nat) : Int))) z Fn' hr (by decide) (je_var rfl (pv 5)) fo_obj.is ⟨a, q0, t, n, ks, fo_obj, own_is.obj, rfl, ok, rfl⟩ (fun er h => nomatch h) (fun d h => Except.ok.inj h) (fun d h => ⟨_, Except.ok.inj h, by omega, by have := ok.l; omega⟩)) (je_sub (je_lenL z (je_var rfl (pv 6))) je_int)) ?_)))) ?_
        · rw [List.length_map]
          simp
          omega
        · exact l_nil.imp fun env' V' ⟨e1, e2⟩ => ⟨ks, _, _, _, _, _, e1, e2, ok, hlen⟩
  · subst e1 e2
    have odd5 : ∀ d ∈ ([.int 0, .int (-1), .bl true, .non, .str "1"] : List D), (fun _ : D => D.str "number") d = .str "number" := fun _ _ => rfl
    refine l_not (JT.to (jt_ne hu (je_lcN (own := [("_law_odd", 12)]) (j := 12) (ds := [.int 0, .int (-1), .bl true, .non, .str "1"]) (fun _ => true) (fun _ => .str "number") rfl nd (ji_list (je_lst (ja_cons je_int (ja_cons je_nint (ja_cons je_bl (ja_cons je_non (ja_cons je_str ja_nil))))))) (blkOk_by (N := n_law) (sc := defScope s_law) (by decide +kernel))
      (fun _ _ _ _ _ => jgb_name nd rfl (.inl rfl) (by decide)) (fun _ _ _ _ _ _ _ => jts_nil) (fun s H Cc cl fp d hd _ => ?_) (by decide)) (je_repL (d := .str "number") (n := 5) je_str je_int ⟨by decide, by decide⟩) (by kernel_rfl) (by kernel_rfl)) (by kernel_rfl)) ?_
    · obtain ⟨p1, p2⟩ := oddGo d hd
      exact je_ofX (px_calCg F_law_done (j := 7) hr (by decide) takesF (ja_cons (je_var rfl (pv 5)) (ja_cons (je_var rfl (pv 12)) ja_nil)) ⟨Vh ph pc, a, q0, t, n, ks, d, ok.h, rfl, rfl, ok, p1, rfl⟩) (fun d' V' h => by
        rcases h with ⟨er, h1, h2, h3⟩ | ⟨m', h1, _⟩
        · rw [p2] at h1
          have h1 := Except.error.inj h1
          subst h1
          exact ⟨Except.ok.inj h2, h3⟩
        · rw [p2] at h1; cases h1) (fun er V' h => by rcases h with ⟨_, _, h, _⟩ | ⟨_, _, h, _⟩ <;> cases h)
    · refine l_jsF (T := T) (js_one (jst_retE (JE.to (je_all rfl z (bs := [true, true, true, true]) (je_lcN (own := [("_law_odd", 12)]) (j := 12) (ds := [.int 0, .int 41, .bl true, .non]) (fun _ => true) (fun _ => .bl true) rfl nd (ji_list (je_lst (ja_cons je_int (ja_cons je_int (ja_cons je_bl (ja_cons je_non ja_nil)))))) (blkOk_by (N := n_law) (sc := defScope s_law) (by decide +kernel))
        (fun _ _ _ _ _ => jgb_name nd rfl (.inl rfl) (by decide)) (fun _ _ _ _ _ _ _ => jts_nil) (fun s H Cc cl fp d hd _ => ?_) (by decide))) rfl) rfl))
      obtain ⟨p1, p2⟩ := oddOpen d hd
      exact je_cal F_law_opened hr (by decide) (ja_cons (je_cal F_law_built hr (by decide) (ja_cons (je_var rfl (pv 2)) ja_nil) ⟨t.s, t.p, t.q, rfl, ⟨rfl, rfl, rfl⟩, fillErr_none ht.okS ht.okP ht.okQ, rfl⟩) (ja_cons (je_var rfl (pv 12)) ja_nil)) ⟨t, d, rfl, ht, p1, p2, rfl⟩
end
theorem all_mk {P : Program} {w : World} {K : PySem.W.Frag} {h : Heap} {mg : Str → Option Value} {fa : Addr}
    {e_SquareError : Addr} {e_InvalidPart : Addr} {e_InvalidSize : Addr} {e_InvalidNumber : Addr} {e_Done : Addr}
    {C pS0 pS1 pS2 : Addr}
    {f_Fill_init : Addr} {oc_Fill_init kV_Fill_init dc_Fill_init pm_Fill_init cd_Fill_init ct_Fill_init : Value} {od_Fill_init an_Fill_init : Option Addr} {sl_Fill_init : Array (Option Value)}
    {Cp : Addr}
    {f_Painter_init : Addr} {oc_Painter_init kV_Painter_init dc_Painter_init pm_Painter_init cd_Painter_init ct_Painter_init : Value} {od_Painter_init an_Painter_init : Option Addr} {sl_Painter_init : Array (Option Value)}
    {f_Painter_go : Addr} {oc_Painter_go kV_Painter_go dc_Painter_go pm_Painter_go cd_Painter_go ct_Painter_go : Value} {od_Painter_go an_Painter_go : Option Addr} {sl_Painter_go : Array (Option Value)}
    {f_Painter_undo : Addr} {oc_Painter_undo kV_Painter_undo dc_Painter_undo pm_Painter_undo cd_Painter_undo ct_Painter_undo : Value} {od_Painter_undo an_Painter_undo : Option Addr} {sl_Painter_undo : Array (Option Value)}
    {f_Painter_copy : Addr} {oc_Painter_copy kV_Painter_copy dc_Painter_copy pm_Painter_copy cd_Painter_copy ct_Painter_copy : Value} {od_Painter_copy an_Painter_copy : Option Addr} {sl_Painter_copy : Array (Option Value)}
    {p_Painter_rows : Addr} {r_Painter_rows : List Value}
    {f_Painter_rows : Addr} {oc_Painter_rows kV_Painter_rows dc_Painter_rows pm_Painter_rows cd_Painter_rows ct_Painter_rows : Value} {od_Painter_rows an_Painter_rows : Option Addr} {sl_Painter_rows : Array (Option Value)}
    {p_Painter_last : Addr} {r_Painter_last : List Value}
    {f_Painter_last : Addr} {oc_Painter_last kV_Painter_last dc_Painter_last pm_Painter_last cd_Painter_last ct_Painter_last : Value} {od_Painter_last an_Painter_last : Option Addr} {sl_Painter_last : Array (Option Value)}
    {p_Painter_clashes : Addr} {r_Painter_clashes : List Value}
    {f_Painter_clashes : Addr} {oc_Painter_clashes kV_Painter_clashes dc_Painter_clashes pm_Painter_clashes cd_Painter_clashes ct_Painter_clashes : Value} {od_Painter_clashes an_Painter_clashes : Option Addr} {sl_Painter_clashes : Array (Option Value)}
    {f_Painter_len : Addr} {oc_Painter_len kV_Painter_len dc_Painter_len pm_Painter_len cd_Painter_len ct_Painter_len : Value} {od_Painter_len an_Painter_len : Option Addr} {sl_Painter_len : Array (Option Value)}
    {q_STARTS : Addr} {od_STARTS : Option Addr} {n_STARTS : Nat} {sl_STARTS : Array (Option Value)}{t_STARTS_0 : Tok} {t_STARTS_1 : Tok} {t_STARTS_2 : Tok}
    {t_MOST_STEP : Tok}
    {f_is_integer : Addr} {oc_is_integer kV_is_integer dc_is_integer pm_is_integer cd_is_integer ct_is_integer : Value} {od_is_integer an_is_integer : Option Addr} {sl_is_integer : Array (Option Value)}
    {f_is_start : Addr} {oc_is_start kV_is_start dc_is_start pm_is_start cd_is_start ct_is_start : Value} {od_is_start an_is_start : Option Addr} {sl_is_start : Array (Option Value)}
    {f_is_turn : Addr} {oc_is_turn kV_is_turn dc_is_turn pm_is_turn cd_is_turn ct_is_turn : Value} {od_is_turn an_is_turn : Option Addr} {sl_is_turn : Array (Option Value)}
    {f_is_step : Addr} {oc_is_step kV_is_step dc_is_step pm_is_step cd_is_step ct_is_step : Value} {od_is_step an_is_step : Option Addr} {sl_is_step : Array (Option Value)}
    {f_spot_of : Addr} {oc_spot_of kV_spot_of dc_spot_of pm_spot_of cd_spot_of ct_spot_of : Value} {od_spot_of an_spot_of : Option Addr} {sl_spot_of : Array (Option Value)}
    {f_begin_of : Addr} {oc_begin_of kV_begin_of dc_begin_of pm_begin_of cd_begin_of ct_begin_of : Value} {od_begin_of an_begin_of : Option Addr} {sl_begin_of : Array (Option Value)}
    {f_shift_of : Addr} {oc_shift_of kV_shift_of dc_shift_of pm_shift_of cd_shift_of ct_shift_of : Value} {od_shift_of an_shift_of : Option Addr} {sl_shift_of : Array (Option Value)}
    {t_MOST_DRAWN : Tok}
    {f_look_at_size : Addr} {oc_look_at_size kV_look_at_size dc_look_at_size pm_look_at_size cd_look_at_size ct_look_at_size : Value} {od_look_at_size an_look_at_size : Option Addr} {sl_look_at_size : Array (Option Value)}
    {f_own_cell : Addr} {oc_own_cell kV_own_cell dc_own_cell pm_own_cell cd_own_cell ct_own_cell : Value} {od_own_cell an_own_cell : Option Addr} {sl_own_cell : Array (Option Value)}
    {f_rows_in : Addr} {oc_rows_in kV_rows_in dc_rows_in pm_rows_in cd_rows_in ct_rows_in : Value} {od_rows_in an_rows_in : Option Addr} {sl_rows_in : Array (Option Value)}
    {f__law_mix : Addr} {oc__law_mix kV__law_mix dc__law_mix pm__law_mix cd__law_mix ct__law_mix : Value} {od__law_mix an__law_mix : Option Addr} {sl__law_mix : Array (Option Value)}
    {f__law_next : Addr} {oc__law_next kV__law_next dc__law_next pm__law_next cd__law_next ct__law_next : Value} {od__law_next an__law_next : Option Addr} {sl__law_next : Array (Option Value)}
    {f__law_start : Addr} {oc__law_start kV__law_start dc__law_start pm__law_start cd__law_start ct__law_start : Value} {od__law_start an__law_start : Option Addr} {sl__law_start : Array (Option Value)}
    {f__law_pair : Addr} {oc__law_pair kV__law_pair dc__law_pair pm__law_pair cd__law_pair ct__law_pair : Value} {od__law_pair an__law_pair : Option Addr} {sl__law_pair : Array (Option Value)}
    {f__law_fill : Addr} {oc__law_fill kV__law_fill dc__law_fill pm__law_fill cd__law_fill ct__law_fill : Value} {od__law_fill an__law_fill : Option Addr} {sl__law_fill : Array (Option Value)}
    {f__law_built : Addr} {oc__law_built kV__law_built dc__law_built pm__law_built cd__law_built ct__law_built : Value} {od__law_built an__law_built : Option Addr} {sl__law_built : Array (Option Value)}
    {f__law_spot : Addr} {oc__law_spot kV__law_spot dc__law_spot pm__law_spot cd__law_spot ct__law_spot : Value} {od__law_spot an__law_spot : Option Addr} {sl__law_spot : Array (Option Value)}
    {f__law_round : Addr} {oc__law_round kV__law_round dc__law_round pm__law_round cd__law_round ct__law_round : Value} {od__law_round an__law_round : Option Addr} {sl__law_round : Array (Option Value)}
    {f__law_walk : Addr} {oc__law_walk kV__law_walk dc__law_walk pm__law_walk cd__law_walk ct__law_walk : Value} {od__law_walk an__law_walk : Option Addr} {sl__law_walk : Array (Option Value)}
    {f__law_stand : Addr} {oc__law_stand kV__law_stand dc__law_stand pm__law_stand cd__law_stand ct__law_stand : Value} {od__law_stand an__law_stand : Option Addr} {sl__law_stand : Array (Option Value)}
    {f__law_done : Addr} {oc__law_done kV__law_done dc__law_done pm__law_done cd__law_done ct__law_done : Value} {od__law_done an__law_done : Option Addr} {sl__law_done : Array (Option Value)}
    {f__law_opened : Addr} {oc__law_opened kV__law_opened dc__law_opened pm__law_opened cd__law_opened ct__law_opened : Value} {od__law_opened an__law_opened : Option Addr} {sl__law_opened : Array (Option Value)}
    {f_law : Addr} {oc_law kV_law dc_law pm_law cd_law ct_law : Value} {od_law an_law : Option Addr} {sl_law : Array (Option Value)}
    {nm_InvalidPart qn_InvalidPart : Str} {N_InvalidPart : Addr} {bs_InvalidPart : List Value} {sn_InvalidPart : List Str} {sub_InvalidPart : List Value} {ab_InvalidPart : Bool} {col_InvalidPart : Option Bool} {dd_InvalidPart : Option Addr} {m0_InvalidPart m1_InvalidPart m2_InvalidPart m3_InvalidPart m5_InvalidPart : Option Value}
    {f_InvalidPart_init : Addr} {oc_InvalidPart_init kV_InvalidPart_init dc_InvalidPart_init pm_InvalidPart_init cd_InvalidPart_init ct_InvalidPart_init : Value} {od_InvalidPart_init an_InvalidPart_init : Option Addr} {sl_InvalidPart_init : Array (Option Value)}
    (KX : K.In h) (G : h.Ns mainGlobals mg) (hmg : mg "law" = some (.ref fa))
    (a_SquareError : PySem.W.nsIn K mainGlobals "SquareError" = some (some (.ref e_SquareError)))
    (a_InvalidPart : PySem.W.nsIn K mainGlobals "InvalidPart" = some (some (.ref e_InvalidPart)))
    (a_InvalidSize : PySem.W.nsIn K mainGlobals "InvalidSize" = some (some (.ref e_InvalidSize)))
    (a_InvalidNumber : PySem.W.nsIn K mainGlobals "InvalidNumber" = some (some (.ref e_InvalidNumber)))
    (a_Done : PySem.W.nsIn K mainGlobals "Done" = some (some (.ref e_Done)))
    (z_isinstance : PySem.W.nsIn K mainGlobals "isinstance" = some none)
    (z_int : PySem.W.nsIn K mainGlobals "int" = some none)
    (z_bool : PySem.W.nsIn K mainGlobals "bool" = some none)
    (z_str : PySem.W.nsIn K mainGlobals "str" = some none)
    (z_tuple : PySem.W.nsIn K mainGlobals "tuple" = some none)
    (z_list : PySem.W.nsIn K mainGlobals "list" = some none)
    (z_dict : PySem.W.nsIn K mainGlobals "dict" = some none)
    (z_set : PySem.W.nsIn K mainGlobals "set" = some none)
    (z_len : PySem.W.nsIn K mainGlobals "len" = some none)
    (z_all : PySem.W.nsIn K mainGlobals "all" = some none)
    (z_sum : PySem.W.nsIn K mainGlobals "sum" = some none)
    (z_min : PySem.W.nsIn K mainGlobals "min" = some none)
    (z_max : PySem.W.nsIn K mainGlobals "max" = some none)
    (z_abs : PySem.W.nsIn K mainGlobals "abs" = some none)
    (z_range : PySem.W.nsIn K mainGlobals "range" = some none)
    (z_enumerate : PySem.W.nsIn K mainGlobals "enumerate" = some none)
    (z_zip : PySem.W.nsIn K mainGlobals "zip" = some none)
    (z_sorted : PySem.W.nsIn K mainGlobals "sorted" = some none)
    (a_Fill : PySem.W.nsIn K mainGlobals "Fill" = some (some (.ref C)))
    (sc_pg : PySem.W.plainGet K C Str.empty = true)
    (sc_ic : PySem.W.isClsIn K C = true)
    (sc_po : PySem.W.plainOver K C = true)
    (sc_sa : PySem.W.findIn K (.ref C) "__setattr__" = some (some (.builtin "object.__setattr__")))
    (p0_at : PySem.W.findIn K (.ref C) "begin" = some (some (.ref pS0)))
    (p0_get : PySem.W.specialIn K (.ref pS0) "__get__" = some (some (.builtin "member_descriptor.__get__")))
    (p0_tk : PySem.W.takesIn K (.ref pS0) = some true)
    (p0_ty : PySem.W.typeIn K (.ref pS0) = some (.type "member_descriptor"))
    (p0_ix : PySem.W.slotIn K pS0 C = some 0)
    (p1_at : PySem.W.findIn K (.ref C) "plain" = some (some (.ref pS1)))
    (p1_get : PySem.W.specialIn K (.ref pS1) "__get__" = some (some (.builtin "member_descriptor.__get__")))
    (p1_tk : PySem.W.takesIn K (.ref pS1) = some true)
    (p1_ty : PySem.W.typeIn K (.ref pS1) = some (.type "member_descriptor"))
    (p1_ix : PySem.W.slotIn K pS1 C = some 2)
    (p2_at : PySem.W.findIn K (.ref C) "other" = some (some (.ref pS2)))
    (p2_get : PySem.W.specialIn K (.ref pS2) "__get__" = some (some (.builtin "member_descriptor.__get__")))
    (p2_tk : PySem.W.takesIn K (.ref pS2) = some true)
    (p2_ty : PySem.W.typeIn K (.ref pS2) = some (.type "member_descriptor"))
    (p2_ix : PySem.W.slotIn K pS2 C = some 1)
    (mk_makes : PySem.W.makesIn K C = true)
    (mk_init : PySem.W.findIn K (.ref C) "__init__" = some (some (.ref f_Fill_init)))
    (mk_fn : PySem.W.isFn K (.ref f_Fill_init) = true)
    (mk_kp : PySem.W.keepIn K (.ref C) = true)
    (l_Fill_init : K.lookup f_Fill_init = some ⟨oc_Fill_init, od_Fill_init, .func (PySem.W.fnOf "__init__" "Fill.__init__" (defArgs s_Fill_init) (defBody s_Fill_init) (defScope s_Fill_init) .none kV_Fill_init dc_Fill_init pm_Fill_init an_Fill_init cd_Fill_init ct_Fill_init), sl_Fill_init⟩)
    (c_Fill_init : PySem.W.codeIn K cd_Fill_init "Fill.__init__" = true)
    (k_Fill_init : PySem.W.keepIn K (.ref f_Fill_init) = true)
    (a_Painter : PySem.W.nsIn K mainGlobals "Painter" = some (some (.ref Cp)))
    (pn_pg : PySem.W.plainGet K Cp Str.empty = true)
    (pn_hd : PySem.W.hasDictIn K Cp = true)
    (pn_po : PySem.W.plainOver K Cp = true)
    (pn_sa : PySem.W.findIn K (.ref Cp) "__setattr__" = some (some (.builtin "object.__setattr__")))
    (pn_n_source : PySem.W.findIn K (.ref Cp) "source" = some none)
    (pn_n_size : PySem.W.findIn K (.ref Cp) "size" = some none)
    (pn_n_states : PySem.W.findIn K (.ref Cp) "states" = some none)
    (pn_mk : PySem.W.makesIn K Cp = true)
    (pn_in : PySem.W.findIn K (.ref Cp) "__init__" = some (some (.ref f_Painter_init)))
    (pn_fn : PySem.W.isFn K (.ref f_Painter_init) = true)
    (pn_kp : PySem.W.keepIn K (.ref Cp) = true)
    (l_Painter_init : K.lookup f_Painter_init = some ⟨oc_Painter_init, od_Painter_init, .func (PySem.W.fnOf "__init__" "Painter.__init__" (defArgs s_Painter_init) (defBody s_Painter_init) (defScope s_Painter_init) .none kV_Painter_init dc_Painter_init pm_Painter_init an_Painter_init cd_Painter_init ct_Painter_init), sl_Painter_init⟩)
    (c_Painter_init : PySem.W.codeIn K cd_Painter_init "Painter.__init__" = true)
    (k_Painter_init : PySem.W.keepIn K (.ref f_Painter_init) = true)
    (pn_m_go : PySem.W.findIn K (.ref Cp) "go" = some (some (.ref f_Painter_go)))
    (pn_f_go : PySem.W.isFn K (.ref f_Painter_go) = true)
    (l_Painter_go : K.lookup f_Painter_go = some ⟨oc_Painter_go, od_Painter_go, .func (PySem.W.fnOf "go" "Painter.go" (defArgs s_Painter_go) (defBody s_Painter_go) (defScope s_Painter_go) .none kV_Painter_go dc_Painter_go pm_Painter_go an_Painter_go cd_Painter_go ct_Painter_go), sl_Painter_go⟩)
    (c_Painter_go : PySem.W.codeIn K cd_Painter_go "Painter.go" = true)
    (k_Painter_go : PySem.W.keepIn K (.ref f_Painter_go) = true)
    (pn_m_undo : PySem.W.findIn K (.ref Cp) "undo" = some (some (.ref f_Painter_undo)))
    (pn_f_undo : PySem.W.isFn K (.ref f_Painter_undo) = true)
    (l_Painter_undo : K.lookup f_Painter_undo = some ⟨oc_Painter_undo, od_Painter_undo, .func (PySem.W.fnOf "undo" "Painter.undo" (defArgs s_Painter_undo) (defBody s_Painter_undo) (defScope s_Painter_undo) .none kV_Painter_undo dc_Painter_undo pm_Painter_undo an_Painter_undo cd_Painter_undo ct_Painter_undo), sl_Painter_undo⟩)
    (c_Painter_undo : PySem.W.codeIn K cd_Painter_undo "Painter.undo" = true)
    (k_Painter_undo : PySem.W.keepIn K (.ref f_Painter_undo) = true)
    (pn_m_copy : PySem.W.findIn K (.ref Cp) "copy" = some (some (.ref f_Painter_copy)))
    (pn_f_copy : PySem.W.isFn K (.ref f_Painter_copy) = true)
    (l_Painter_copy : K.lookup f_Painter_copy = some ⟨oc_Painter_copy, od_Painter_copy, .func (PySem.W.fnOf "copy" "Painter.copy" (defArgs s_Painter_copy) (defBody s_Painter_copy) (defScope s_Painter_copy) .none kV_Painter_copy dc_Painter_copy pm_Painter_copy an_Painter_copy cd_Painter_copy ct_Painter_copy), sl_Painter_copy⟩)
    (c_Painter_copy : PySem.W.codeIn K cd_Painter_copy "Painter.copy" = true)
    (k_Painter_copy : PySem.W.keepIn K (.ref f_Painter_copy) = true)
    (pn_p_rows : PySem.W.findIn K (.ref Cp) "rows" = some (some (.ref p_Painter_rows)))
    (pn_g_rows : PySem.W.specialIn K (.ref p_Painter_rows) "__get__" = some (some (.builtin "property.__get__")))
    (pn_t_rows : PySem.W.takesIn K (.ref p_Painter_rows) = some true)
    (pn_r_rows : PySem.W.recIn K p_Painter_rows "property" = some (.ref f_Painter_rows :: r_Painter_rows))
    (l_Painter_rows : K.lookup f_Painter_rows = some ⟨oc_Painter_rows, od_Painter_rows, .func (PySem.W.fnOf "rows" "Painter.rows" (defArgs s_Painter_rows) (defBody s_Painter_rows) (defScope s_Painter_rows) .none kV_Painter_rows dc_Painter_rows pm_Painter_rows an_Painter_rows cd_Painter_rows ct_Painter_rows), sl_Painter_rows⟩)
    (c_Painter_rows : PySem.W.codeIn K cd_Painter_rows "Painter.rows" = true)
    (k_Painter_rows : PySem.W.keepIn K (.ref f_Painter_rows) = true)
    (pn_p_last : PySem.W.findIn K (.ref Cp) "last" = some (some (.ref p_Painter_last)))
    (pn_g_last : PySem.W.specialIn K (.ref p_Painter_last) "__get__" = some (some (.builtin "property.__get__")))
    (pn_t_last : PySem.W.takesIn K (.ref p_Painter_last) = some true)
    (pn_r_last : PySem.W.recIn K p_Painter_last "property" = some (.ref f_Painter_last :: r_Painter_last))
    (l_Painter_last : K.lookup f_Painter_last = some ⟨oc_Painter_last, od_Painter_last, .func (PySem.W.fnOf "last" "Painter.last" (defArgs s_Painter_last) (defBody s_Painter_last) (defScope s_Painter_last) .none kV_Painter_last dc_Painter_last pm_Painter_last an_Painter_last cd_Painter_last ct_Painter_last), sl_Painter_last⟩)
    (c_Painter_last : PySem.W.codeIn K cd_Painter_last "Painter.last" = true)
    (k_Painter_last : PySem.W.keepIn K (.ref f_Painter_last) = true)
    (pn_p_clashes : PySem.W.findIn K (.ref Cp) "clashes" = some (some (.ref p_Painter_clashes)))
    (pn_g_clashes : PySem.W.specialIn K (.ref p_Painter_clashes) "__get__" = some (some (.builtin "property.__get__")))
    (pn_t_clashes : PySem.W.takesIn K (.ref p_Painter_clashes) = some true)
    (pn_r_clashes : PySem.W.recIn K p_Painter_clashes "property" = some (.ref f_Painter_clashes :: r_Painter_clashes))
    (l_Painter_clashes : K.lookup f_Painter_clashes = some ⟨oc_Painter_clashes, od_Painter_clashes, .func (PySem.W.fnOf "clashes" "Painter.clashes" (defArgs s_Painter_clashes) (defBody s_Painter_clashes) (defScope s_Painter_clashes) .none kV_Painter_clashes dc_Painter_clashes pm_Painter_clashes an_Painter_clashes cd_Painter_clashes ct_Painter_clashes), sl_Painter_clashes⟩)
    (c_Painter_clashes : PySem.W.codeIn K cd_Painter_clashes "Painter.clashes" = true)
    (k_Painter_clashes : PySem.W.keepIn K (.ref f_Painter_clashes) = true)
    (pn_len : PySem.W.findIn K (.ref Cp) "__len__" = some (some (.ref f_Painter_len)))
    (pn_lf : PySem.W.isFn K (.ref f_Painter_len) = true)
    (l_Painter_len : K.lookup f_Painter_len = some ⟨oc_Painter_len, od_Painter_len, .func (PySem.W.fnOf "__len__" "Painter.__len__" (defArgs s_Painter_len) (defBody s_Painter_len) (defScope s_Painter_len) .none kV_Painter_len dc_Painter_len pm_Painter_len an_Painter_len cd_Painter_len ct_Painter_len), sl_Painter_len⟩)
    (c_Painter_len : PySem.W.codeIn K cd_Painter_len "Painter.__len__" = true)
    (k_Painter_len : PySem.W.keepIn K (.ref f_Painter_len) = true)
    (a_STARTS : PySem.W.nsIn K mainGlobals "STARTS" = some (some (.ref q_STARTS)))
    (l_STARTS : K.lookup q_STARTS = some ⟨.type "tuple", od_STARTS, .seq #[.str "first" t_STARTS_0, .str "last" t_STARTS_1, .str "middle" t_STARTS_2] n_STARTS, sl_STARTS⟩)
    (a_MOST_STEP : PySem.W.nsIn K mainGlobals "MOST_STEP" = some (some (.int 2 t_MOST_STEP)))
    (a_is_integer : PySem.W.nsIn K mainGlobals "is_integer" = some (some (.ref f_is_integer)))
    (l_is_integer : K.lookup f_is_integer = some ⟨oc_is_integer, od_is_integer, .func (PySem.W.fnOf "is_integer" "is_integer" (defArgs s_is_integer) (defBody s_is_integer) (defScope s_is_integer) .none kV_is_integer dc_is_integer pm_is_integer an_is_integer cd_is_integer ct_is_integer), sl_is_integer⟩)
    (c_is_integer : PySem.W.codeIn K cd_is_integer "is_integer" = true)
    (k_is_integer : PySem.W.keepIn K (.ref f_is_integer) = true)
    (a_is_start : PySem.W.nsIn K mainGlobals "is_start" = some (some (.ref f_is_start)))
    (l_is_start : K.lookup f_is_start = some ⟨oc_is_start, od_is_start, .func (PySem.W.fnOf "is_start" "is_start" (defArgs s_is_start) (defBody s_is_start) (defScope s_is_start) .none kV_is_start dc_is_start pm_is_start an_is_start cd_is_start ct_is_start), sl_is_start⟩)
    (c_is_start : PySem.W.codeIn K cd_is_start "is_start" = true)
    (k_is_start : PySem.W.keepIn K (.ref f_is_start) = true)
    (a_is_turn : PySem.W.nsIn K mainGlobals "is_turn" = some (some (.ref f_is_turn)))
    (l_is_turn : K.lookup f_is_turn = some ⟨oc_is_turn, od_is_turn, .func (PySem.W.fnOf "is_turn" "is_turn" (defArgs s_is_turn) (defBody s_is_turn) (defScope s_is_turn) .none kV_is_turn dc_is_turn pm_is_turn an_is_turn cd_is_turn ct_is_turn), sl_is_turn⟩)
    (c_is_turn : PySem.W.codeIn K cd_is_turn "is_turn" = true)
    (k_is_turn : PySem.W.keepIn K (.ref f_is_turn) = true)
    (a_is_step : PySem.W.nsIn K mainGlobals "is_step" = some (some (.ref f_is_step)))
    (l_is_step : K.lookup f_is_step = some ⟨oc_is_step, od_is_step, .func (PySem.W.fnOf "is_step" "is_step" (defArgs s_is_step) (defBody s_is_step) (defScope s_is_step) .none kV_is_step dc_is_step pm_is_step an_is_step cd_is_step ct_is_step), sl_is_step⟩)
    (c_is_step : PySem.W.codeIn K cd_is_step "is_step" = true)
    (k_is_step : PySem.W.keepIn K (.ref f_is_step) = true)
    (a_spot_of : PySem.W.nsIn K mainGlobals "spot_of" = some (some (.ref f_spot_of)))
    (l_spot_of : K.lookup f_spot_of = some ⟨oc_spot_of, od_spot_of, .func (PySem.W.fnOf "spot_of" "spot_of" (defArgs s_spot_of) (defBody s_spot_of) (defScope s_spot_of) .none kV_spot_of dc_spot_of pm_spot_of an_spot_of cd_spot_of ct_spot_of), sl_spot_of⟩)
    (c_spot_of : PySem.W.codeIn K cd_spot_of "spot_of" = true)
    (k_spot_of : PySem.W.keepIn K (.ref f_spot_of) = true)
    (a_begin_of : PySem.W.nsIn K mainGlobals "begin_of" = some (some (.ref f_begin_of)))
    (l_begin_of : K.lookup f_begin_of = some ⟨oc_begin_of, od_begin_of, .func (PySem.W.fnOf "begin_of" "begin_of" (defArgs s_begin_of) (defBody s_begin_of) (defScope s_begin_of) .none kV_begin_of dc_begin_of pm_begin_of an_begin_of cd_begin_of ct_begin_of), sl_begin_of⟩)
    (c_begin_of : PySem.W.codeIn K cd_begin_of "begin_of" = true)
    (k_begin_of : PySem.W.keepIn K (.ref f_begin_of) = true)
    (a_shift_of : PySem.W.nsIn K mainGlobals "shift_of" = some (some (.ref f_shift_of)))
    (l_shift_of : K.lookup f_shift_of = some ⟨oc_shift_of, od_shift_of, .func (PySem.W.fnOf "shift_of" "shift_of" (defArgs s_shift_of) (defBody s_shift_of) (defScope s_shift_of) .none kV_shift_of dc_shift_of pm_shift_of an_shift_of cd_shift_of ct_shift_of), sl_shift_of⟩)
    (c_shift_of : PySem.W.codeIn K cd_shift_of "shift_of" = true)
    (k_shift_of : PySem.W.keepIn K (.ref f_shift_of) = true)
    (a_MOST_DRAWN : PySem.W.nsIn K mainGlobals "MOST_DRAWN" = some (some (.int 40 t_MOST_DRAWN)))
    (a_look_at_size : PySem.W.nsIn K mainGlobals "look_at_size" = some (some (.ref f_look_at_size)))
    (l_look_at_size : K.lookup f_look_at_size = some ⟨oc_look_at_size, od_look_at_size, .func (PySem.W.fnOf "look_at_size" "look_at_size" (defArgs s_look_at_size) (defBody s_look_at_size) (defScope s_look_at_size) .none kV_look_at_size dc_look_at_size pm_look_at_size an_look_at_size cd_look_at_size ct_look_at_size), sl_look_at_size⟩)
    (c_look_at_size : PySem.W.codeIn K cd_look_at_size "look_at_size" = true)
    (k_look_at_size : PySem.W.keepIn K (.ref f_look_at_size) = true)
    (a_own_cell : PySem.W.nsIn K mainGlobals "own_cell" = some (some (.ref f_own_cell)))
    (l_own_cell : K.lookup f_own_cell = some ⟨oc_own_cell, od_own_cell, .func (PySem.W.fnOf "own_cell" "own_cell" (defArgs s_own_cell) (defBody s_own_cell) (defScope s_own_cell) .none kV_own_cell dc_own_cell pm_own_cell an_own_cell cd_own_cell ct_own_cell), sl_own_cell⟩)
    (c_own_cell : PySem.W.codeIn K cd_own_cell "own_cell" = true)
    (k_own_cell : PySem.W.keepIn K (.ref f_own_cell) = true)
    (a_rows_in : PySem.W.nsIn K mainGlobals "rows_in" = some (some (.ref f_rows_in)))
    (l_rows_in : K.lookup f_rows_in = some ⟨oc_rows_in, od_rows_in, .func (PySem.W.fnOf "rows_in" "rows_in" (defArgs s_rows_in) (defBody s_rows_in) (defScope s_rows_in) .none kV_rows_in dc_rows_in pm_rows_in an_rows_in cd_rows_in ct_rows_in), sl_rows_in⟩)
    (c_rows_in : PySem.W.codeIn K cd_rows_in "rows_in" = true)
    (k_rows_in : PySem.W.keepIn K (.ref f_rows_in) = true)
    (a__law_mix : PySem.W.nsIn K mainGlobals "_law_mix" = some (some (.ref f__law_mix)))
    (l__law_mix : K.lookup f__law_mix = some ⟨oc__law_mix, od__law_mix, .func (PySem.W.fnOf "_law_mix" "_law_mix" (defArgs s__law_mix) (defBody s__law_mix) (defScope s__law_mix) .none kV__law_mix dc__law_mix pm__law_mix an__law_mix cd__law_mix ct__law_mix), sl__law_mix⟩)
    (c__law_mix : PySem.W.codeIn K cd__law_mix "_law_mix" = true)
    (k__law_mix : PySem.W.keepIn K (.ref f__law_mix) = true)
    (a__law_next : PySem.W.nsIn K mainGlobals "_law_next" = some (some (.ref f__law_next)))
    (l__law_next : K.lookup f__law_next = some ⟨oc__law_next, od__law_next, .func (PySem.W.fnOf "_law_next" "_law_next" (defArgs s__law_next) (defBody s__law_next) (defScope s__law_next) .none kV__law_next dc__law_next pm__law_next an__law_next cd__law_next ct__law_next), sl__law_next⟩)
    (c__law_next : PySem.W.codeIn K cd__law_next "_law_next" = true)
    (k__law_next : PySem.W.keepIn K (.ref f__law_next) = true)
    (a__law_start : PySem.W.nsIn K mainGlobals "_law_start" = some (some (.ref f__law_start)))
    (l__law_start : K.lookup f__law_start = some ⟨oc__law_start, od__law_start, .func (PySem.W.fnOf "_law_start" "_law_start" (defArgs s__law_start) (defBody s__law_start) (defScope s__law_start) .none kV__law_start dc__law_start pm__law_start an__law_start cd__law_start ct__law_start), sl__law_start⟩)
    (c__law_start : PySem.W.codeIn K cd__law_start "_law_start" = true)
    (k__law_start : PySem.W.keepIn K (.ref f__law_start) = true)
    (a__law_pair : PySem.W.nsIn K mainGlobals "_law_pair" = some (some (.ref f__law_pair)))
    (l__law_pair : K.lookup f__law_pair = some ⟨oc__law_pair, od__law_pair, .func (PySem.W.fnOf "_law_pair" "_law_pair" (defArgs s__law_pair) (defBody s__law_pair) (defScope s__law_pair) .none kV__law_pair dc__law_pair pm__law_pair an__law_pair cd__law_pair ct__law_pair), sl__law_pair⟩)
    (c__law_pair : PySem.W.codeIn K cd__law_pair "_law_pair" = true)
    (k__law_pair : PySem.W.keepIn K (.ref f__law_pair) = true)
    (a__law_fill : PySem.W.nsIn K mainGlobals "_law_fill" = some (some (.ref f__law_fill)))
    (l__law_fill : K.lookup f__law_fill = some ⟨oc__law_fill, od__law_fill, .func (PySem.W.fnOf "_law_fill" "_law_fill" (defArgs s__law_fill) (defBody s__law_fill) (defScope s__law_fill) .none kV__law_fill dc__law_fill pm__law_fill an__law_fill cd__law_fill ct__law_fill), sl__law_fill⟩)
    (c__law_fill : PySem.W.codeIn K cd__law_fill "_law_fill" = true)
    (k__law_fill : PySem.W.keepIn K (.ref f__law_fill) = true)
    (a__law_built : PySem.W.nsIn K mainGlobals "_law_built" = some (some (.ref f__law_built)))
    (l__law_built : K.lookup f__law_built = some ⟨oc__law_built, od__law_built, .func (PySem.W.fnOf "_law_built" "_law_built" (defArgs s__law_built) (defBody s__law_built) (defScope s__law_built) .none kV__law_built dc__law_built pm__law_built an__law_built cd__law_built ct__law_built), sl__law_built⟩)
    (c__law_built : PySem.W.codeIn K cd__law_built "_law_built" = true)
    (k__law_built : PySem.W.keepIn K (.ref f__law_built) = true)
    (a__law_spot : PySem.W.nsIn K mainGlobals "_law_spot" = some (some (.ref f__law_spot)))
    (l__law_spot : K.lookup f__law_spot = some ⟨oc__law_spot, od__law_spot, .func (PySem.W.fnOf "_law_spot" "_law_spot" (defArgs s__law_spot) (defBody s__law_spot) (defScope s__law_spot) .none kV__law_spot dc__law_spot pm__law_spot an__law_spot cd__law_spot ct__law_spot), sl__law_spot⟩)
    (c__law_spot : PySem.W.codeIn K cd__law_spot "_law_spot" = true)
    (k__law_spot : PySem.W.keepIn K (.ref f__law_spot) = true)
    (a__law_round : PySem.W.nsIn K mainGlobals "_law_round" = some (some (.ref f__law_round)))
    (l__law_round : K.lookup f__law_round = some ⟨oc__law_round, od__law_round, .func (PySem.W.fnOf "_law_round" "_law_round" (defArgs s__law_round) (defBody s__law_round) (defScope s__law_round) .none kV__law_round dc__law_round pm__law_round an__law_round cd__law_round ct__law_round), sl__law_round⟩)
    (c__law_round : PySem.W.codeIn K cd__law_round "_law_round" = true)
    (k__law_round : PySem.W.keepIn K (.ref f__law_round) = true)
    (a__law_walk : PySem.W.nsIn K mainGlobals "_law_walk" = some (some (.ref f__law_walk)))
    (l__law_walk : K.lookup f__law_walk = some ⟨oc__law_walk, od__law_walk, .func (PySem.W.fnOf "_law_walk" "_law_walk" (defArgs s__law_walk) (defBody s__law_walk) (defScope s__law_walk) .none kV__law_walk dc__law_walk pm__law_walk an__law_walk cd__law_walk ct__law_walk), sl__law_walk⟩)
    (c__law_walk : PySem.W.codeIn K cd__law_walk "_law_walk" = true)
    (k__law_walk : PySem.W.keepIn K (.ref f__law_walk) = true)
    (a__law_stand : PySem.W.nsIn K mainGlobals "_law_stand" = some (some (.ref f__law_stand)))
    (l__law_stand : K.lookup f__law_stand = some ⟨oc__law_stand, od__law_stand, .func (PySem.W.fnOf "_law_stand" "_law_stand" (defArgs s__law_stand) (defBody s__law_stand) (defScope s__law_stand) .none kV__law_stand dc__law_stand pm__law_stand an__law_stand cd__law_stand ct__law_stand), sl__law_stand⟩)
    (c__law_stand : PySem.W.codeIn K cd__law_stand "_law_stand" = true)
    (k__law_stand : PySem.W.keepIn K (.ref f__law_stand) = true)
    (a__law_done : PySem.W.nsIn K mainGlobals "_law_done" = some (some (.ref f__law_done)))
    (l__law_done : K.lookup f__law_done = some ⟨oc__law_done, od__law_done, .func (PySem.W.fnOf "_law_done" "_law_done" (defArgs s__law_done) (defBody s__law_done) (defScope s__law_done) .none kV__law_done dc__law_done pm__law_done an__law_done cd__law_done ct__law_done), sl__law_done⟩)
    (c__law_done : PySem.W.codeIn K cd__law_done "_law_done" = true)
    (k__law_done : PySem.W.keepIn K (.ref f__law_done) = true)
    (a__law_opened : PySem.W.nsIn K mainGlobals "_law_opened" = some (some (.ref f__law_opened)))
    (l__law_opened : K.lookup f__law_opened = some ⟨oc__law_opened, od__law_opened, .func (PySem.W.fnOf "_law_opened" "_law_opened" (defArgs s__law_opened) (defBody s__law_opened) (defScope s__law_opened) .none kV__law_opened dc__law_opened pm__law_opened an__law_opened cd__law_opened ct__law_opened), sl__law_opened⟩)
    (c__law_opened : PySem.W.codeIn K cd__law_opened "_law_opened" = true)
    (k__law_opened : PySem.W.keepIn K (.ref f__law_opened) = true)
    (a_law : PySem.W.nsIn K mainGlobals "law" = some (some (.ref f_law)))
    (l_law : K.lookup f_law = some ⟨oc_law, od_law, .func (PySem.W.fnOf "law" "law" (defArgs s_law) (defBody s_law) (defScope s_law) .none kV_law dc_law pm_law an_law cd_law ct_law), sl_law⟩)
    (c_law : PySem.W.codeIn K cd_law "law" = true)
    (k_law : PySem.W.keepIn K (.ref f_law) = true)
    (xL_InvalidPart : K.lookup e_InvalidPart = some (excClassObj nm_InvalidPart qn_InvalidPart e_InvalidPart N_InvalidPart bs_InvalidPart [.ref e_SquareError, .type "ValueError", .type "Exception", .type "BaseException", .type "object"] true sn_InvalidPart sub_InvalidPart ab_InvalidPart col_InvalidPart dd_InvalidPart m0_InvalidPart m1_InvalidPart m2_InvalidPart m3_InvalidPart m5_InvalidPart "ValueError.__new__"))
    (xsa_InvalidPart : PySem.W.findIn K (.ref e_InvalidPart) "__setattr__" = some (some (.builtin "object.__setattr__")))
    (xsb_InvalidPart : PySem.W.subIn K (.ref e_InvalidPart) (.type "BaseException") = some true)
    (xsc_InvalidPart : PySem.W.typeIn K (.ref e_InvalidPart) = some (.type "type"))
    (xsd_InvalidPart : PySem.W.keepIn K (.ref e_InvalidPart) = true)
    (no_InvalidPart_part : PySem.W.findIn K (.ref e_InvalidPart) "part" = some none)
    (in_InvalidPart : PySem.W.findIn K (.ref e_InvalidPart) "__init__" = some (some (.ref f_InvalidPart_init)))
    (it_InvalidPart : PySem.W.typeIn K (.ref f_InvalidPart_init) = some (.type "function"))
    (l_InvalidPart_init : K.lookup f_InvalidPart_init = some ⟨oc_InvalidPart_init, od_InvalidPart_init, .func (PySem.W.fnOf "__init__" "InvalidPart.__init__" (defArgs s_InvalidPart_init) (defBody s_InvalidPart_init) (defScope s_InvalidPart_init) .none kV_InvalidPart_init dc_InvalidPart_init pm_InvalidPart_init an_InvalidPart_init cd_InvalidPart_init ct_InvalidPart_init), sl_InvalidPart_init⟩)
    (c_InvalidPart_init : PySem.W.codeIn K cd_InvalidPart_init "InvalidPart.__init__" = true)
    (k_InvalidPart_init : PySem.W.keepIn K (.ref f_InvalidPart_init) = true)
    (x_InvalidSize : PySem.W.excIn K e_InvalidSize [.type "ValueError", .type "Exception", .type "BaseException", .type "object"] "ValueError.__new__" = true)
    (xk_InvalidSize : PySem.W.keepIn K (.ref e_InvalidSize) = true)
    (xs_InvalidSize : PySem.W.subIn K (.ref e_InvalidSize) (.type "BaseException") = some true)
    (xt_InvalidSize : PySem.W.typeIn K (.ref e_InvalidSize) = some (.type "type"))
    (x_InvalidNumber : PySem.W.excIn K e_InvalidNumber [.type "ValueError", .type "Exception", .type "BaseException", .type "object"] "ValueError.__new__" = true)
    (xk_InvalidNumber : PySem.W.keepIn K (.ref e_InvalidNumber) = true)
    (xs_InvalidNumber : PySem.W.subIn K (.ref e_InvalidNumber) (.type "BaseException") = some true)
    (xt_InvalidNumber : PySem.W.typeIn K (.ref e_InvalidNumber) = some (.type "type"))
    (x_Done : PySem.W.excIn K e_Done [.type "ValueError", .type "Exception", .type "BaseException", .type "object"] "ValueError.__new__" = true)
    (xk_Done : PySem.W.keepIn K (.ref e_Done) = true)
    (xs_Done : PySem.W.subIn K (.ref e_Done) (.type "BaseException") = some true)
    (xt_Done : PySem.W.typeIn K (.ref e_Done) = some (.type "type"))
    (xm_InvalidNumber_InvalidNumber : PySem.W.exmOne K (.ref e_InvalidNumber) (.ref e_InvalidNumber) = some true)
    (xm_Done_InvalidNumber : PySem.W.exmOne K (.ref e_Done) (.ref e_InvalidNumber) = some false)
    (xm_Done_Done : PySem.W.exmOne K (.ref e_Done) (.ref e_Done) = some true)
    (xm_InvalidSize_InvalidSize : PySem.W.exmOne K (.ref e_InvalidSize) (.ref e_InvalidSize) = some true)
    : ∃ fd : FuncData, (∀ (s : Shared) (v : Value), BindsTo s fd ⟨[v], []⟩ [("_law_script", v)]) ∧ ∀ base : Heap, K.In base → base.Ns mainGlobals mg → FnOk P w K mg base (L2.CX P w) 8 fa fd ["_law_script"] (spLaw K) := by
  have e := hmg.symm.trans (PySem.W.mg_of KX G a_law)
  cases e
  let T : Tx := ⟨fun k => [e_SquareError, e_InvalidPart, e_InvalidSize, e_InvalidNumber, 0, 0, 0, 0, 0, 0, 0, e_Done, 0].getD k 0, fun k => match k with | 1 => ["part"] | 10 => ["index"] | 12 => ["line", "word"] | _ => []⟩
  have z : Zb mg := ⟨PySem.W.mg_none_of KX G z_isinstance, PySem.W.mg_none_of KX G z_int, PySem.W.mg_none_of KX G z_bool, PySem.W.mg_none_of KX G z_str, PySem.W.mg_none_of KX G z_tuple, PySem.W.mg_none_of KX G z_list, PySem.W.mg_none_of KX G z_dict, PySem.W.mg_none_of KX G z_set, PySem.W.mg_none_of KX G z_len, PySem.W.mg_none_of KX G z_all, PySem.W.mg_none_of KX G z_sum, PySem.W.mg_none_of KX G z_min, PySem.W.mg_none_of KX G z_max, PySem.W.mg_none_of KX G z_abs, PySem.W.mg_none_of KX G z_range, PySem.W.mg_none_of KX G z_enumerate, PySem.W.mg_none_of KX G z_zip, PySem.W.mg_none_of KX G z_sorted⟩
  have L : Flc K mg C := ⟨PySem.W.mg_of KX G a_Fill, ⟨sc_pg, sc_ic, sc_po, sc_sa⟩, ⟨pS0, p0_at, p0_get, p0_tk, p0_ty, p0_ix, by decide⟩, ⟨pS1, p1_at, p1_get, p1_tk, p1_ty, p1_ix, by decide⟩, ⟨pS2, p2_at, p2_get, p2_tk, p2_ty, p2_ix, by decide⟩⟩
  have mk : Mk K C f_Fill_init := ⟨mk_makes, mk_init, mk_fn, mk_kp⟩
  have pn : Pnc K Cp := ⟨⟨pn_pg, pn_hd, pn_po, pn_sa⟩, pn_n_source, pn_n_size, pn_n_states⟩
  have mkP : Mk K Cp f_Painter_init := ⟨pn_mk, pn_in, pn_fn, pn_kp⟩
  have d_Painter_go : Dmt K Cp "go" "Painter.go" s_Painter_go ["self", "many"] := ⟨f_Painter_go, _, ⟨pn_m_go, pn_f_go, k_Painter_go⟩, fun_mk l_Painter_go c_Painter_go k_Painter_go, ((fun_mk l_Painter_go c_Painter_go k_Painter_go).binds (ps := ["self", "many"]) fun _ _ _ _ _ _ us hl => match us, hl with | [_, _], _ => rfl)⟩
  have d_Painter_undo : Dmt K Cp "undo" "Painter.undo" s_Painter_undo ["self"] := ⟨f_Painter_undo, _, ⟨pn_m_undo, pn_f_undo, k_Painter_undo⟩, fun_mk l_Painter_undo c_Painter_undo k_Painter_undo, ((fun_mk l_Painter_undo c_Painter_undo k_Painter_undo).binds (ps := ["self"]) fun _ _ _ _ _ _ us hl => match us, hl with | [_], _ => rfl)⟩
  have d_Painter_copy : Dmt K Cp "copy" "Painter.copy" s_Painter_copy ["self"] := ⟨f_Painter_copy, _, ⟨pn_m_copy, pn_f_copy, k_Painter_copy⟩, fun_mk l_Painter_copy c_Painter_copy k_Painter_copy, ((fun_mk l_Painter_copy c_Painter_copy k_Painter_copy).binds (ps := ["self"]) fun _ _ _ _ _ _ us hl => match us, hl with | [_], _ => rfl)⟩
  have q_Painter_rows : Dpo K Cp "rows" "Painter.rows" s_Painter_rows := ⟨p_Painter_rows, f_Painter_rows, _, ⟨pn_p_rows, pn_g_rows, pn_t_rows, r_Painter_rows, pn_r_rows⟩, ((fun_mk l_Painter_rows c_Painter_rows k_Painter_rows).binds (ps := ["self"]) fun _ _ _ _ _ _ us hl => match us, hl with | [_], _ => rfl), fun_mk l_Painter_rows c_Painter_rows k_Painter_rows⟩
  have q_Painter_last : Dpo K Cp "last" "Painter.last" s_Painter_last := ⟨p_Painter_last, f_Painter_last, _, ⟨pn_p_last, pn_g_last, pn_t_last, r_Painter_last, pn_r_last⟩, ((fun_mk l_Painter_last c_Painter_last k_Painter_last).binds (ps := ["self"]) fun _ _ _ _ _ _ us hl => match us, hl with | [_], _ => rfl), fun_mk l_Painter_last c_Painter_last k_Painter_last⟩
  have q_Painter_clashes : Dpo K Cp "clashes" "Painter.clashes" s_Painter_clashes := ⟨p_Painter_clashes, f_Painter_clashes, _, ⟨pn_p_clashes, pn_g_clashes, pn_t_clashes, r_Painter_clashes, pn_r_clashes⟩, ((fun_mk l_Painter_clashes c_Painter_clashes k_Painter_clashes).binds (ps := ["self"]) fun _ _ _ _ _ _ us hl => match us, hl with | [_], _ => rfl), fun_mk l_Painter_clashes c_Painter_clashes k_Painter_clashes⟩
  have q_Painter_len : Dln K Cp "Painter.__len__" s_Painter_len := ⟨f_Painter_len, _, pn_len, pn_lf, ((fun_mk l_Painter_len c_Painter_len k_Painter_len).binds (ps := ["self"]) fun _ _ _ _ _ _ us hl => match us, hl with | [_], _ => rfl), fun_mk l_Painter_len c_Painter_len k_Painter_len⟩
  have g_STARTS : GD K C mg "STARTS" (.tup [.str "first", .str "last", .str "middle"]) := gd_tup (xs := [L2.V.str "first", L2.V.str "last", L2.V.str "middle"]) (PySem.W.mg_of KX G a_STARTS) l_STARTS rfl rfl (small (by decide : 3 ≤ 1000000)) (.cons ⟨_, rfl⟩ (.cons ⟨_, rfl⟩ (.cons ⟨_, rfl⟩ .nil))) fun S => (RL.cons (R.str_iff.mpr rfl) (RL.cons (R.str_iff.mpr rfl) (RL.cons (R.str_iff.mpr rfl) RL.nil)))
  have g_MOST_STEP : GD K C mg "MOST_STEP" (.int 2) := gd_int (PySem.W.mg_of KX G a_MOST_STEP)
  have d_is_integer : Df K mg "is_integer" s_is_integer ["value", "least", "most"] := ⟨⟨f_is_integer, _, PySem.W.mg_of KX G a_is_integer, fun_mk l_is_integer c_is_integer k_is_integer, ((fun_mk l_is_integer c_is_integer k_is_integer).binds (ps := ["value", "least", "most"]) fun _ _ _ _ _ _ us hl => match us, hl with | [_, _, _], _ => rfl)⟩⟩
  have d_is_start : Df K mg "is_start" s_is_start ["value"] := ⟨⟨f_is_start, _, PySem.W.mg_of KX G a_is_start, fun_mk l_is_start c_is_start k_is_start, ((fun_mk l_is_start c_is_start k_is_start).binds (ps := ["value"]) fun _ _ _ _ _ _ us hl => match us, hl with | [_], _ => rfl)⟩⟩
  have d_is_turn : Df K mg "is_turn" s_is_turn ["value"] := ⟨⟨f_is_turn, _, PySem.W.mg_of KX G a_is_turn, fun_mk l_is_turn c_is_turn k_is_turn, ((fun_mk l_is_turn c_is_turn k_is_turn).binds (ps := ["value"]) fun _ _ _ _ _ _ us hl => match us, hl with | [_], _ => rfl)⟩⟩
  have d_is_step : Df K mg "is_step" s_is_step ["value"] := ⟨⟨f_is_step, _, PySem.W.mg_of KX G a_is_step, fun_mk l_is_step c_is_step k_is_step, ((fun_mk l_is_step c_is_step k_is_step).binds (ps := ["value"]) fun _ _ _ _ _ _ us hl => match us, hl with | [_], _ => rfl)⟩⟩
  have d_spot_of : Df K mg "spot_of" s_spot_of ["word", "n"] := ⟨⟨f_spot_of, _, PySem.W.mg_of KX G a_spot_of, fun_mk l_spot_of c_spot_of k_spot_of, ((fun_mk l_spot_of c_spot_of k_spot_of).binds (ps := ["word", "n"]) fun _ _ _ _ _ _ us hl => match us, hl with | [_, _], _ => rfl)⟩⟩
  have d_begin_of : Df K mg "begin_of" s_begin_of ["fill", "n"] := ⟨⟨f_begin_of, _, PySem.W.mg_of KX G a_begin_of, fun_mk l_begin_of c_begin_of k_begin_of, ((fun_mk l_begin_of c_begin_of k_begin_of).binds (ps := ["fill", "n"]) fun _ _ _ _ _ _ us hl => match us, hl with | [_, _], _ => rfl)⟩⟩
  have d_shift_of : Df K mg "shift_of" s_shift_of ["fill"] := ⟨⟨f_shift_of, _, PySem.W.mg_of KX G a_shift_of, fun_mk l_shift_of c_shift_of k_shift_of, ((fun_mk l_shift_of c_shift_of k_shift_of).binds (ps := ["fill"]) fun _ _ _ _ _ _ us hl => match us, hl with | [_], _ => rfl)⟩⟩
  have g_MOST_DRAWN : GD K C mg "MOST_DRAWN" (.int 40) := gd_int (PySem.W.mg_of KX G a_MOST_DRAWN)
  have d_look_at_size : Df K mg "look_at_size" s_look_at_size ["n", "most"] := ⟨⟨f_look_at_size, _, PySem.W.mg_of KX G a_look_at_size, fun_mk l_look_at_size c_look_at_size k_look_at_size, ((fun_mk l_look_at_size c_look_at_size k_look_at_size).binds (ps := ["n", "most"]) fun _ _ _ _ _ _ us hl => match us, hl with | [_, _], _ => rfl)⟩⟩
  have d_own_cell : Df K mg "own_cell" s_own_cell ["fill", "n", "number"] := ⟨⟨f_own_cell, _, PySem.W.mg_of KX G a_own_cell, fun_mk l_own_cell c_own_cell k_own_cell, ((fun_mk l_own_cell c_own_cell k_own_cell).binds (ps := ["fill", "n", "number"]) fun _ _ _ _ _ _ us hl => match us, hl with | [_, _, _], _ => rfl)⟩⟩
  have d_rows_in : Df K mg "rows_in" s_rows_in ["painter"] := ⟨⟨f_rows_in, _, PySem.W.mg_of KX G a_rows_in, fun_mk l_rows_in c_rows_in k_rows_in, ((fun_mk l_rows_in c_rows_in k_rows_in).binds (ps := ["painter"]) fun _ _ _ _ _ _ us hl => match us, hl with | [_], _ => rfl)⟩⟩
  have d__law_mix : Df K mg "_law_mix" s__law_mix ["_law_script", "_law_seed"] := ⟨⟨f__law_mix, _, PySem.W.mg_of KX G a__law_mix, fun_mk l__law_mix c__law_mix k__law_mix, ((fun_mk l__law_mix c__law_mix k__law_mix).binds (ps := ["_law_script", "_law_seed"]) fun _ _ _ _ _ _ us hl => match us, hl with | [_, _], _ => rfl)⟩⟩
  have d__law_next : Df K mg "_law_next" s__law_next ["_law_h", "_law_bound"] := ⟨⟨f__law_next, _, PySem.W.mg_of KX G a__law_next, fun_mk l__law_next c__law_next k__law_next, ((fun_mk l__law_next c__law_next k__law_next).binds (ps := ["_law_h", "_law_bound"]) fun _ _ _ _ _ _ us hl => match us, hl with | [_, _], _ => rfl)⟩⟩
  have d__law_start : Df K mg "_law_start" s__law_start ["_law_h"] := ⟨⟨f__law_start, _, PySem.W.mg_of KX G a__law_start, fun_mk l__law_start c__law_start k__law_start, ((fun_mk l__law_start c__law_start k__law_start).binds (ps := ["_law_h"]) fun _ _ _ _ _ _ us hl => match us, hl with | [_], _ => rfl)⟩⟩
  have d__law_pair : Df K mg "_law_pair" s__law_pair ["_law_h"] := ⟨⟨f__law_pair, _, PySem.W.mg_of KX G a__law_pair, fun_mk l__law_pair c__law_pair k__law_pair, ((fun_mk l__law_pair c__law_pair k__law_pair).binds (ps := ["_law_h"]) fun _ _ _ _ _ _ us hl => match us, hl with | [_], _ => rfl)⟩⟩
  have d__law_fill : Df K mg "_law_fill" s__law_fill ["_law_h"] := ⟨⟨f__law_fill, _, PySem.W.mg_of KX G a__law_fill, fun_mk l__law_fill c__law_fill k__law_fill, ((fun_mk l__law_fill c__law_fill k__law_fill).binds (ps := ["_law_h"]) fun _ _ _ _ _ _ us hl => match us, hl with | [_], _ => rfl)⟩⟩
  have d__law_built : Df K mg "_law_built" s__law_built ["_law_t"] := ⟨⟨f__law_built, _, PySem.W.mg_of KX G a__law_built, fun_mk l__law_built c__law_built k__law_built, ((fun_mk l__law_built c__law_built k__law_built).binds (ps := ["_law_t"]) fun _ _ _ _ _ _ us hl => match us, hl with | [_], _ => rfl)⟩⟩
  have d__law_spot : Df K mg "_law_spot" s__law_spot ["_law_word", "_law_n"] := ⟨⟨f__law_spot, _, PySem.W.mg_of KX G a__law_spot, fun_mk l__law_spot c__law_spot k__law_spot, ((fun_mk l__law_spot c__law_spot k__law_spot).binds (ps := ["_law_word", "_law_n"]) fun _ _ _ _ _ _ us hl => match us, hl with | [_, _], _ => rfl)⟩⟩
  have d__law_round : Df K mg "_law_round" s__law_round ["_law_number", "_law_n"] := ⟨⟨f__law_round, _, PySem.W.mg_of KX G a__law_round, fun_mk l__law_round c__law_round k__law_round, ((fun_mk l__law_round c__law_round k__law_round).binds (ps := ["_law_number", "_law_n"]) fun _ _ _ _ _ _ us hl => match us, hl with | [_, _], _ => rfl)⟩⟩
  have d__law_walk : Df K mg "_law_walk" s__law_walk ["_law_t", "_law_n"] := ⟨⟨f__law_walk, _, PySem.W.mg_of KX G a__law_walk, fun_mk l__law_walk c__law_walk k__law_walk, ((fun_mk l__law_walk c__law_walk k__law_walk).binds (ps := ["_law_t", "_law_n"]) fun _ _ _ _ _ _ us hl => match us, hl with | [_, _], _ => rfl)⟩⟩
  have d__law_stand : Df K mg "_law_stand" s__law_stand ["_law_row", "_law_n", "_law_many"] := ⟨⟨f__law_stand, _, PySem.W.mg_of KX G a__law_stand, fun_mk l__law_stand c__law_stand k__law_stand, ((fun_mk l__law_stand c__law_stand k__law_stand).binds (ps := ["_law_row", "_law_n", "_law_many"]) fun _ _ _ _ _ _ us hl => match us, hl with | [_, _, _], _ => rfl)⟩⟩
  have d__law_done : Df K mg "_law_done" s__law_done ["_law_painter", "_law_many"] := ⟨⟨f__law_done, _, PySem.W.mg_of KX G a__law_done, fun_mk l__law_done c__law_done k__law_done, ((fun_mk l__law_done c__law_done k__law_done).binds (ps := ["_law_painter", "_law_many"]) fun _ _ _ _ _ _ us hl => match us, hl with | [_, _], _ => rfl)⟩⟩
  have d__law_opened : Df K mg "_law_opened" s__law_opened ["_law_fill_here", "_law_n"] := ⟨⟨f__law_opened, _, PySem.W.mg_of KX G a__law_opened, fun_mk l__law_opened c__law_opened k__law_opened, ((fun_mk l__law_opened c__law_opened k__law_opened).binds (ps := ["_law_fill_here", "_law_n"]) fun _ _ _ _ _ _ us hl => match us, hl with | [_, _], _ => rfl)⟩⟩
  have oc_InvalidPart : OexC K e_InvalidPart := ⟨⟨_, _, _, _, _, _, _, _, _, _, _, _, _, _, _, xL_InvalidPart, by first | rfl | kernel_rfl⟩, xsa_InvalidPart, xsb_InvalidPart, xsc_InvalidPart, xsd_InvalidPart⟩
  have Fn1 : T.fn 1 = ([("part" : Str)] : List Str) := rfl
  have E2 : Ec K mg T 2 "InvalidSize" := ⟨PySem.W.mg_of KX G a_InvalidSize, x_InvalidSize, xk_InvalidSize, xs_InvalidSize, xt_InvalidSize⟩
  have E3 : Ec K mg T 3 "InvalidNumber" := ⟨PySem.W.mg_of KX G a_InvalidNumber, x_InvalidNumber, xk_InvalidNumber, xs_InvalidNumber, xt_InvalidNumber⟩
  have E11 : Ec K mg T 11 "Done" := ⟨PySem.W.mg_of KX G a_Done, x_Done, xk_Done, xs_Done, xt_Done⟩
  have xm3_3 : Exm K T 3 3 true := xm_InvalidNumber_InvalidNumber
  have xm11_3 : Exm K T 11 3 false := xm_Done_InvalidNumber
  have xm11_11 : Exm K T 11 11 true := xm_Done_Done
  have xm2_2 : Exm K T 2 2 true := xm_InvalidSize_InvalidSize
  refine ⟨PySem.W.fnOf "law" "law" (defArgs s_law) (defBody s_law) (defScope s_law) .none kV_law dc_law pm_law an_law cd_law ct_law, fun s v => .of_eq rfl, fun base _ _ => ?_⟩
  have E1 : Ef P w K mg base T 1 "InvalidPart" ["self", "part"] (spE1 (T.cl 1) "part") := ef1_mk (PySem.W.mg_of KX G a_InvalidPart) oc_InvalidPart no_InvalidPart_part in_InvalidPart it_InvalidPart ((fun_mk l_InvalidPart_init c_InvalidPart_init k_InvalidPart_init).binds (ps := ["self", "part"]) fun _ _ _ _ _ _ us hl => match us, hl with | [_, _], _ => rfl) (fun_mk l_InvalidPart_init c_InvalidPart_init k_InvalidPart_init) sc_InvalidPart_init rfl (.inl rfl) (.inl rfl)
  have F_is_integer := fn_is_integer (P := P) (w := w) (base := base) (C := C) (T := T) d_is_integer z
  have F_is_start := fn_is_start (P := P) (w := w) (base := base) (C := C) (T := T) d_is_start z g_STARTS
  have F_is_turn := fn_is_turn d_is_turn z g_MOST_STEP F_is_integer
  have F_is_step := fn_is_step d_is_step F_is_turn
  have Fm := fm_Fill (fun_mk l_Fill_init c_Fill_init k_Fill_init) mk ((fun_mk l_Fill_init c_Fill_init k_Fill_init).binds (ps := ["self", "start", "step", "turn"]) fun _ _ _ _ _ _ us hl => match us, hl with | [_, _, _, _], _ => rfl) L Fn1 E1 F_is_start F_is_step F_is_turn
  have Fx := fn__law_next (P := P) (w := w) (base := base) (C := C) (T := T) d__law_next z
  have Fmix := fn__law_mix (P := P) (w := w) (base := base) d__law_mix z
  have F_law_start := fn__law_start d__law_start Fx
  have F_law_pair := fn__law_pair d__law_pair Fx
  have F_law_fill := fn__law_fill d__law_fill z Fx F_law_start F_law_pair
  have F_law_built := fn__law_built d__law_built Fm
  have F_spot_of : S_spot_of P w K mg base C T := fn_spot_of (P := P) (w := w) (base := base) (C := C) (T := T) d_spot_of
  have F_begin_of : S_begin_of P w K mg base C T := fn_begin_of d_begin_of L F_spot_of
  have F_shift_of : S_shift_of P w K mg base C T := fn_shift_of (P := P) (w := w) (base := base) (T := T) d_shift_of L
  have F_look_at_size : S_look_at_size P w K mg base C T := fn_look_at_size d_look_at_size F_is_integer E2
  have F_own_cell : S_own_cell P w K mg base C T := fn_own_cell d_own_cell L F_begin_of F_shift_of
  have F_law_spot : S__law_spot P w K mg base C T := fn__law_spot (P := P) (w := w) (base := base) (C := C) (T := T) d__law_spot
  have F_law_round : S__law_round P w K mg base C T := fn__law_round (P := P) (w := w) (base := base) (C := C) (T := T) d__law_round
  have F_law_walk : S__law_walk P w K mg base C T := fn__law_walk d__law_walk z F_law_spot F_law_round
  have F_own_cellK := fn_own_cellK d_own_cell L F_begin_of F_shift_of
  have FP : S_Painter P w K mg base C T Cp := fm_Painter (fun_mk l_Painter_init c_Painter_init k_Painter_init) mkP ((fun_mk l_Painter_init c_Painter_init k_Painter_init).binds (ps := ["self", "fill", "n"]) fun _ _ _ _ _ _ us hl => match us, hl with | [_, _, _], _ => rfl) (PySem.W.mg_of KX G a_Painter) pn g_MOST_DRAWN F_look_at_size
  have Fri : S_rows_in P w K mg base C T Cp := fn_rows_in d_rows_in z pn
  have Fpr : S_Prows P w K mg base C T Cp := fn_Prows q_Painter_rows Fri
  have Fpl : S_Plast P w K mg base C T Cp := fn_Plast q_Painter_last pn F_own_cell
  have Fpc : S_Pclash P w K mg base C T Cp := fn_Pclash q_Painter_clashes pn
  have Fpn : S_Plen P w K mg base C T Cp := fn_Plen q_Painter_len z pn
  have Fpu : S_Pundo P w K mg base C T Cp := fn_Pundo d_Painter_undo z pn
  have Fpy : S_Pcopy P w K mg base C T Cp := fn_Pcopy d_Painter_copy z pn FP
  have Fpg : S_Pgo P w K mg base C T Cp := fn_Pgo d_Painter_go z pn F_own_cellK E3 E11
  have F_law_stand : S__law_stand P w K mg base C T := fn__law_stand d__law_stand z
  have F_law_done : S__law_done P w K mg base C T Cp := fn__law_done d__law_done pn Fpg (PySem.W.mg_of KX G a_InvalidNumber) (PySem.W.mg_of KX G a_Done) xm3_3 xm11_3 xm11_11
  have F_law_opened : S__law_opened P w K mg base C T := fn__law_opened d__law_opened FP (PySem.W.mg_of KX G a_InvalidSize) xm2_2
  exact ok_law (fun_mk l_law c_law k_law) z Fx Fmix F_law_fill F_law_built F_law_walk pn FP Fpr Fpl Fpc Fpn Fpu Fpy F_law_stand F_law_done F_law_opened
end LW
open PySem PySem.W PyProof.Rows in
set_option maxRecDepth 100000 in
set_option maxHeartbeats 0 in
theorem PySem.Challenge.cw_ringsquares_k10_whole_painters_holds : PySem.Challenge.rw_ringsquares_k10_whole_painters.Holds := by
  w_on; o_law; k_head; (case hw => w_witness2)
  k_fill
  refine L2.walk_of (l := PySem.Challenge.rw_ringsquares_k10_whole_painters) (n := 63) (k := 8) (x := "_law_script") (CX := fun w => L2.CX PySem.Challenge.rw_ringsquares_k10_whole_painters.prog w) (sp := fun w => RQ.spLaw _) rfl (by decide) rfl ⟨rfl, by decide, by decide⟩ (fun w h Y => PySem.W.kIn_of Y) ?F (fun _ _ a ns hl _ hS => ⟨a, ns, rfl, hS, hl, fun _ => rfl⟩) ?hCX
  case hCX =>
    intro w H s e s' h
    obtain ⟨_, _, _, _, _, _, _, _, _, _, _, _, z⟩ := h
    exact z.elim
  case F =>
    intro w mg fa h KX G hmg
    refine' LW.all_mk KX G hmg ?a_SquareError ?a_InvalidPart ?a_InvalidSize ?a_InvalidNumber ?a_Done ?z_isinstance ?z_int ?z_bool ?z_str ?z_tuple ?z_list ?z_dict ?z_set ?z_len ?z_all ?z_sum ?z_min ?z_max ?z_abs ?z_range ?z_enumerate ?z_zip ?z_sorted ?a_Fill ?sc_pg ?sc_ic ?sc_po ?sc_sa ?p0_at ?p0_get ?p0_tk ?p0_ty ?p0_ix ?p1_at ?p1_get ?p1_tk ?p1_ty ?p1_ix ?p2_at ?p2_get ?p2_tk ?p2_ty ?p2_ix ?mk_makes ?mk_init ?mk_fn ?mk_kp ?l_Fill_init ?c_Fill_init ?k_Fill_init ?a_Painter ?pn_pg ?pn_hd ?pn_po ?pn_sa ?pn_n_source ?pn_n_size ?pn_n_states ?pn_mk ?pn_in ?pn_fn ?pn_kp ?l_Painter_init ?c_Painter_init ?k_Painter_init ?pn_m_go ?pn_f_go ?l_Painter_go ?c_Painter_go ?k_Painter_go ?pn_m_undo ?pn_f_undo ?l_Painter_undo ?c_Painter_undo ?k_Painter_undo ?pn_m_copy ?pn_f_copy ?l_Painter_copy ?c_Painter_copy ?k_Painter_copy ?pn_p_rows ?pn_g_rows ?pn_t_rows ?pn_r_rows ?l_Painter_rows ?c_Painter_rows ?k_Painter_rows ?pn_p_last ?pn_g_last ?pn_t_last ?pn_r_last ?l_Painter_last ?c_Painter_last ?k_Painter_last ?pn_p_clashes ?pn_g_clashes ?pn_t_clashes ?pn_r_clashes ?l_Painter_clashes ?c_Painter_clashes ?k_Painter_clashes ?pn_len ?pn_lf ?l_Painter_len ?c_Painter_len ?k_Painter_len ?a_STARTS ?l_STARTS ?a_MOST_STEP ?a_is_integer ?l_is_integer ?c_is_integer ?k_is_integer ?a_is_start ?l_is_start ?c_is_start ?k_is_start ?a_is_turn ?l_is_turn ?c_is_turn ?k_is_turn ?a_is_step ?l_is_step ?c_is_step ?k_is_step ?a_spot_of ?l_spot_of ?c_spot_of ?k_spot_of ?a_begin_of ?l_begin_of ?c_begin_of ?k_begin_of ?a_shift_of ?l_shift_of ?c_shift_of ?k_shift_of ?a_MOST_DRAWN ?a_look_at_size ?l_look_at_size ?c_look_at_size ?k_look_at_size ?a_own_cell ?l_own_cell ?c_own_cell ?k_own_cell ?a_rows_in ?l_rows_in ?c_rows_in ?k_rows_in ?a__law_mix ?l__law_mix ?c__law_mix ?k__law_mix ?a__law_next ?l__law_next ?c__law_next ?k__law_next ?a__law_start ?l__law_start ?c__law_start ?k__law_start ?a__law_pair ?l__law_pair ?c__law_pair ?k__law_pair ?a__law_fill ?l__law_fill ?c__law_fill ?k__law_fill ?a__law_built ?l__law_built ?c__law_built ?k__law_built ?a__law_spot ?l__law_spot ?c__law_spot ?k__law_spot ?a__law_round ?l__law_round ?c__law_round ?k__law_round ?a__law_walk ?l__law_walk ?c__law_walk ?k__law_walk ?a__law_stand ?l__law_stand ?c__law_stand ?k__law_stand ?a__law_done ?l__law_done ?c__law_done ?k__law_done ?a__law_opened ?l__law_opened ?c__law_opened ?k__law_opened ?a_law ?l_law ?c_law ?k_law ?xL_InvalidPart ?xsa_InvalidPart ?xsb_InvalidPart ?xsc_InvalidPart ?xsd_InvalidPart ?no_InvalidPart_part ?in_InvalidPart ?it_InvalidPart ?l_InvalidPart_init ?c_InvalidPart_init ?k_InvalidPart_init ?x_InvalidSize ?xk_InvalidSize ?xs_InvalidSize ?xt_InvalidSize ?x_InvalidNumber ?xk_InvalidNumber ?xs_InvalidNumber ?xt_InvalidNumber ?x_Done ?xk_Done ?xs_Done ?xt_Done ?xm_InvalidNumber_InvalidNumber ?xm_Done_InvalidNumber ?xm_Done_Done ?xm_InvalidSize_InvalidSize
    (case a_SquareError => k_is)
    (case a_InvalidPart => k_is)
    (case a_InvalidSize => k_is)
    (case a_InvalidNumber => k_is)
    (case a_Done => k_is)
    (case z_isinstance => k_is)
    (case z_int => k_is)
    (case z_bool => k_is)
    (case z_str => k_is)
    (case z_tuple => k_is)
    (case z_list => k_is)
    (case z_dict => k_is)
    (case z_set => k_is)
    (case z_len => k_is)
    (case z_all => k_is)
    (case z_sum => k_is)
    (case z_min => k_is)
    (case z_max => k_is)
    (case z_abs => k_is)
    (case z_range => k_is)
    (case z_enumerate => k_is)
    (case z_zip => k_is)
    (case z_sorted => k_is)
    (case a_Fill => k_is)
    (case sc_pg => k_is)
    (case sc_ic => k_is)
    (case sc_po => k_is)
    (case sc_sa => k_is)
    (case p0_at => k_is)
    (case p0_get => k_is)
    (case p0_tk => k_is)
    (case p0_ty => k_is)
    (case p0_ix => k_is)
    (case p1_at => k_is)
    (case p1_get => k_is)
    (case p1_tk => k_is)
    (case p1_ty => k_is)
    (case p1_ix => k_is)
    (case p2_at => k_is)
    (case p2_get => k_is)
    (case p2_tk => k_is)
    (case p2_ty => k_is)
    (case p2_ix => k_is)
    (case mk_makes => k_is)
    (case mk_init => k_is)
    (case mk_fn => k_is)
    (case mk_kp => k_is)
    (case l_Fill_init => k_is)
    (case c_Fill_init => k_is)
    (case k_Fill_init => k_is)
    (case a_Painter => k_is)
    (case pn_pg => k_is)
    (case pn_hd => k_is)
    (case pn_po => k_is)
    (case pn_sa => k_is)
    (case pn_n_source => k_is)
    (case pn_n_size => k_is)
    (case pn_n_states => k_is)
    (case pn_mk => k_is)
    (case pn_in => k_is)
    (case pn_fn => k_is)
    (case pn_kp => k_is)
    (case l_Painter_init => k_is)
    (case c_Painter_init => k_is)
    (case k_Painter_init => k_is)
    (case pn_m_go => k_is)
    (case pn_f_go => k_is)
    (case l_Painter_go => k_is)
    (case c_Painter_go => k_is)
    (case k_Painter_go => k_is)
    (case pn_m_undo => k_is)
    (case pn_f_undo => k_is)
    (case l_Painter_undo => k_is)
    (case c_Painter_undo => k_is)
    (case k_Painter_undo => k_is)
    (case pn_m_copy => k_is)
    (case pn_f_copy => k_is)
    (case l_Painter_copy => k_is)
    (case c_Painter_copy => k_is)
    (case k_Painter_copy => k_is)
    (case pn_p_rows => k_is)
    (case pn_g_rows => k_is)
    (case pn_t_rows => k_is)
    (case pn_r_rows => k_is)
    (case l_Painter_rows => k_is)
    (case c_Painter_rows => k_is)
    (case k_Painter_rows => k_is)
    (case pn_p_last => k_is)
    (case pn_g_last => k_is)
    (case pn_t_last => k_is)
    (case pn_r_last => k_is)
    (case l_Painter_last => k_is)
    (case c_Painter_last => k_is)
    (case k_Painter_last => k_is)
    (case pn_p_clashes => k_is)
    (case pn_g_clashes => k_is)
    (case pn_t_clashes => k_is)
    (case pn_r_clashes => k_is)
    (case l_Painter_clashes => k_is)
    (case c_Painter_clashes => k_is)
    (case k_Painter_clashes => k_is)
    (case pn_len => k_is)
    (case pn_lf => k_is)
    (case l_Painter_len => k_is)
    (case c_Painter_len => k_is)
    (case k_Painter_len => k_is)
    (case a_STARTS => k_is)
    (case l_STARTS => k_is)
    (case a_MOST_STEP => k_is)
    (case a_is_integer => k_is)
    (case l_is_integer => k_is)
    (case c_is_integer => k_is)
    (case k_is_integer => k_is)
    (case a_is_start => k_is)
    (case l_is_start => k_is)
    (case c_is_start => k_is)
    (case k_is_start => k_is)
    (case a_is_turn => k_is)
    (case l_is_turn => k_is)
    (case c_is_turn => k_is)
    (case k_is_turn => k_is)
    (case a_is_step => k_is)
    (case l_is_step => k_is)
    (case c_is_step => k_is)
    (case k_is_step => k_is)
    (case a_spot_of => k_is)
    (case l_spot_of => k_is)
    (case c_spot_of => k_is)
    (case k_spot_of => k_is)
    (case a_begin_of => k_is)
    (case l_begin_of => k_is)
    (case c_begin_of => k_is)
    (case k_begin_of => k_is)
    (case a_shift_of => k_is)
    (case l_shift_of => k_is)
    (case c_shift_of => k_is)
    (case k_shift_of => k_is)
    (case a_MOST_DRAWN => k_is)
    (case a_look_at_size => k_is)
    (case l_look_at_size => k_is)
    (case c_look_at_size => k_is)
    (case k_look_at_size => k_is)
    (case a_own_cell => k_is)
    (case l_own_cell => k_is)
    (case c_own_cell => k_is)
    (case k_own_cell => k_is)
    (case a_rows_in => k_is)
    (case l_rows_in => k_is)
    (case c_rows_in => k_is)
    (case k_rows_in => k_is)
    (case a__law_mix => k_is)
    (case l__law_mix => k_is)
    (case c__law_mix => k_is)
    (case k__law_mix => k_is)
    (case a__law_next => k_is)
    (case l__law_next => k_is)
    (case c__law_next => k_is)
    (case k__law_next => k_is)
    (case a__law_start => k_is)
    (case l__law_start => k_is)
    (case c__law_start => k_is)
    (case k__law_start => k_is)
    (case a__law_pair => k_is)
    (case l__law_pair => k_is)
    (case c__law_pair => k_is)
    (case k__law_pair => k_is)
    (case a__law_fill => k_is)
    (case l__law_fill => k_is)
    (case c__law_fill => k_is)
    (case k__law_fill => k_is)
    (case a__law_built => k_is)
    (case l__law_built => k_is)
    (case c__law_built => k_is)
    (case k__law_built => k_is)
    (case a__law_spot => k_is)
    (case l__law_spot => k_is)
    (case c__law_spot => k_is)
    (case k__law_spot => k_is)
    (case a__law_round => k_is)
    (case l__law_round => k_is)
    (case c__law_round => k_is)
    (case k__law_round => k_is)
    (case a__law_walk => k_is)
    (case l__law_walk => k_is)
    (case c__law_walk => k_is)
    (case k__law_walk => k_is)
    (case a__law_stand => k_is)
    (case l__law_stand => k_is)
    (case c__law_stand => k_is)
    (case k__law_stand => k_is)
    (case a__law_done => k_is)
    (case l__law_done => k_is)
    (case c__law_done => k_is)
    (case k__law_done => k_is)
    (case a__law_opened => k_is)
    (case l__law_opened => k_is)
    (case c__law_opened => k_is)
    (case k__law_opened => k_is)
    (case a_law => k_is)
    (case l_law => k_is)
    (case c_law => k_is)
    (case k_law => k_is)
    (case xL_InvalidPart => k_is)
    (case xsa_InvalidPart => k_is)
    (case xsb_InvalidPart => k_is)
    (case xsc_InvalidPart => k_is)
    (case xsd_InvalidPart => k_is)
    (case no_InvalidPart_part => k_is)
    (case in_InvalidPart => k_is)
    (case it_InvalidPart => k_is)
    (case l_InvalidPart_init => k_is)
    (case c_InvalidPart_init => k_is)
    (case k_InvalidPart_init => k_is)
    (case x_InvalidSize => kernel_rfl)
    (case xk_InvalidSize => k_is)
    (case xs_InvalidSize => k_is)
    (case xt_InvalidSize => k_is)
    (case x_InvalidNumber => kernel_rfl)
    (case xk_InvalidNumber => k_is)
    (case xs_InvalidNumber => k_is)
    (case xt_InvalidNumber => k_is)
    (case x_Done => kernel_rfl)
    (case xk_Done => k_is)
    (case xs_Done => k_is)
    (case xt_Done => k_is)
    (case xm_InvalidNumber_InvalidNumber => kernel_rfl)
    (case xm_Done_InvalidNumber => kernel_rfl)
    (case xm_Done_Done => kernel_rfl)
    (case xm_InvalidSize_InvalidSize => kernel_rfl)
