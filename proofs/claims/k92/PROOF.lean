import PyProof.Rows.All
import Wide.All
import OpenK.AllK
import Wide.FinOn
import HandS.ForMost
import HandS.ForExc
import HandS.HeadHook1
import HandS.TupAny
import HandS.TupMul
import HandS.TupLe
import HandS.Deep
import HandS.IsInst
import HandS.Wide
import HandS.Text
import HandS.Gcd
import HandS.Star
import HandS.SortInts
import HandS.Rev
import HandS.Comp
import HandS.Ends
import HandS.Iter
import HandS.Words
import HandS.WordsExc
import HandS.Defaults
import KE.GoesMore
import KE.GoesEnum
import KE.GoesZip
import HandS.RevTup
import PyProof.ListNew
import KE.SortData
import KE.KMathGC
import HandS.Flow
import KE.KStateDown
import Lean
import HandS.Head0
import HandS.Head1
import HandS.Head2
import HandS.Head3
import HandS.HeadEnd
import HandS.HeadHook2
import HandS.HeadHook4
import PySem.Challenge.RW_lotshown_k92_whole_prizes_over_all_draws
set_option Elab.async false
set_option linter.all false
set_option maxRecDepth 100000
set_option maxHeartbeats 1000000
namespace DL
open PySem PySem.Spec PyProof.Rows L2

abbrev D := PyData
abbrev AS := Addr → Prop
/-- a dict's key as data -/
def kD : Key → D
  | .inl i => .int i
  | .inr x => .str x

/-! ### what a value stands for -/
def KL (K : PySem.W.Frag) (a : Addr) (xs : List V) : Prop :=
  ∃ (o : Obj) (its : Array Value) (n : Nat), K.lookup a = some o ∧ o.cls = .type "list" ∧ o.dict = none ∧ o.data = .seq its n ∧ its.size ≤ sizeLine ∧ Vals xs its.toList
def LsS (K : PySem.W.Frag) (S : AS) (H : Hp) (a : Addr) (xs : List V) : Prop := (S a ∧ Rd H a (.lst xs)) ∨ KL K a xs
theorem LsS.sq {K : PySem.W.Frag} {S : AS} {H : Hp} {a : Addr} {xs : List V} (h : LsS K S H a xs) : SqL K H a xs := by
  rcases h with h | h
  · exact .inl h.2
  · exact .inr h

mutual
inductive DS (K : PySem.W.Frag) (S : AS) (H : Hp) : V → D → Prop
  | non : DS K S H .non .none
  | bl (b : Bool) : DS K S H (.bl b) (.bool b)
  | int (i : Int) : DS K S H (.int i) (.int i)
  | str (x : Str) : DS K S H (.str x) (.str x)
  | lst {a : Addr} {xs : List V} {ds : List D} : S a → H a = some (.lst xs) → DSs K S H xs ds → DS K S H (.ref a) (.list ds)
  | tup {a : Addr} {xs : List V} {ds : List D} : SqT K H a xs → DSs K S H xs ds → DS K S H (.ref a) (.tuple ds)
  | dk {a : Addr} {l : List (Key × V)} {kvs : List (D × D)} : S a → H a = some (.dK l) → DKs K S H l kvs → DS K S H (.ref a) (.dict kvs)
  | dt {a : Addr} {l : List (List Key × V)} {kvs : List (D × D)} : S a → H a = some (.dT l) → DTs K S H l kvs → DS K S H (.ref a) (.dict kvs)
inductive DSs (K : PySem.W.Frag) (S : AS) (H : Hp) : List V → List D → Prop
  | nil : DSs K S H [] []
  | cons {v : V} {vs : List V} {d : D} {ds : List D} : DS K S H v d → DSs K S H vs ds → DSs K S H (v :: vs) (d :: ds)
inductive DKs (K : PySem.W.Frag) (S : AS) (H : Hp) : List (Key × V) → List (D × D) → Prop
  | nil : DKs K S H [] []
  | cons {k : Key} {v : V} {l : List (Key × V)} {d : D} {kvs : List (D × D)} : DS K S H v d → DKs K S H l kvs → DKs K S H ((k, v) :: l) ((kD k, d) :: kvs)
inductive DTs (K : PySem.W.Frag) (S : AS) (H : Hp) : List (List Key × V) → List (D × D) → Prop
  | nil : DTs K S H [] []
  | cons {k : List Key} {v : V} {l : List (List Key × V)} {d : D} {kvs : List (D × D)} : DS K S H v d → DTs K S H l kvs → DTs K S H ((k, v) :: l) ((.tuple (k.map kD), d) :: kvs)
end

section
variable {K : PySem.W.Frag} {S S' : AS} {H H' : Hp}
mutual
theorem DS.map (ht : ∀ a xs, SqT K H a xs → SqT K H' a xs) (hk : ∀ a o, S a → H a = some o → S' a ∧ H' a = some o) : ∀ {v : V} {d : D}, DS K S H v d → DS K S' H' v d
  | _, _, .non => .non
  | _, _, .bl b => .bl b
  | _, _, .int i => .int i
  | _, _, .str x => .str x
  | _, _, .lst h1 h2 h3 => .lst (hk _ _ h1 h2).1 (hk _ _ h1 h2).2 (DSs.map ht hk h3)
  | _, _, .tup h1 h2 => .tup (ht _ _ h1) (DSs.map ht hk h2)
  | _, _, .dk h1 h2 h3 => .dk (hk _ _ h1 h2).1 (hk _ _ h1 h2).2 (DKs.map ht hk h3)
  | _, _, .dt h1 h2 h3 => .dt (hk _ _ h1 h2).1 (hk _ _ h1 h2).2 (DTs.map ht hk h3)
theorem DSs.map (ht : ∀ a xs, SqT K H a xs → SqT K H' a xs) (hk : ∀ a o, S a → H a = some o → S' a ∧ H' a = some o) : ∀ {vs : List V} {ds : List D}, DSs K S H vs ds → DSs K S' H' vs ds
  | _, _, .nil => .nil
  | _, _, .cons h1 h2 => .cons (DS.map ht hk h1) (DSs.map ht hk h2)
theorem DKs.map (ht : ∀ a xs, SqT K H a xs → SqT K H' a xs) (hk : ∀ a o, S a → H a = some o → S' a ∧ H' a = some o) : ∀ {l : List (Key × V)} {ds : List (D × D)}, DKs K S H l ds → DKs K S' H' l ds
  | _, _, .nil => .nil
  | _, _, .cons h1 h2 => .cons (DS.map ht hk h1) (DKs.map ht hk h2)
theorem DTs.map (ht : ∀ a xs, SqT K H a xs → SqT K H' a xs) (hk : ∀ a o, S a → H a = some o → S' a ∧ H' a = some o) : ∀ {l : List (List Key × V)} {ds : List (D × D)}, DTs K S H l ds → DTs K S' H' l ds
  | _, _, .nil => .nil
  | _, _, .cons h1 h2 => .cons (DS.map ht hk h1) (DTs.map ht hk h2)
end
mutual
/-- no dict within -/
def flatD : D → Bool
  | .list ds => flatDs ds
  | .tuple ds => flatDs ds
  | .dict _ => false
  | _ => true
def flatDs : List D → Bool
  | [] => true
  | d :: ds => flatD d && flatDs ds
end
mutual
theorem DS.dp : ∀ (d : D) (v : V), flatD d = true → DS K S H v d → Dp K H v d
  | .none, _, _, h => by cases h; exact .non
  | .bool _, _, _, h => by cases h; exact .bl _
  | .int _, _, _, h => by cases h; exact .int _
  | .str _, _, _, h => by cases h; exact .str _
  | .list ds, _, f, h => by cases h with | lst h1 h2 h3 => exact .lst (.of h2) (DSs.dp ds _ (by simpa [flatD] using f) h3)
  | .tuple ds, _, f, h => by cases h with | tup h1 h2 => exact .tup h1 (DSs.dp ds _ (by simpa [flatD] using f) h2)
  | .dict _, _, f, h => by simp [flatD] at f
theorem DSs.dp : ∀ (ds : List D) (vs : List V), flatDs ds = true → DSs K S H vs ds → DpAll K H vs ds
  | [], _, _, h => by cases h; exact .nil
  | d :: ds, _, f, h => by
    simp only [flatDs, Bool.and_eq_true] at f
    cases h with | cons h1 h2 => exact .cons (DS.dp d _ f.1 h1) (DSs.dp ds _ f.2 h2)
end
theorem DSs.length : ∀ {vs : List V} {ds : List D}, DSs K S H vs ds → vs.length = ds.length
  | _, _, .nil => rfl
  | _, _, .cons _ t => by rw [List.length_cons, List.length_cons, DSs.length t]
theorem DSs.get : ∀ {vs : List V} {ds : List D} {i : Nat} {d : D}, DSs K S H vs ds → ds[i]? = some d → ∃ v, vs[i]? = some v ∧ DS K S H v d
  | _, _, _, _, .nil, e => by simp at e
  | _, _, 0, _, .cons r _, e => by simp at e; subst e; exact ⟨_, rfl, r⟩
  | _, _, i + 1, d, .cons _ t, e => by
    obtain ⟨v, h1, h2⟩ := DSs.get (i := i) (d := d) t (by simpa using e)
    exact ⟨v, by simpa using h1, h2⟩
theorem DSs.getV : ∀ {vs : List V} {ds : List D} {i : Nat} {v : V}, DSs K S H vs ds → vs[i]? = some v → ∃ d, ds[i]? = some d ∧ DS K S H v d
  | _, _, _, _, .nil, e => by simp at e
  | _, _, 0, _, .cons r _, e => by simp at e; subst e; exact ⟨_, rfl, r⟩
  | _, _, i + 1, v, .cons _ t, e => by
    obtain ⟨d, h1, h2⟩ := DSs.getV (i := i) (v := v) t (by simpa using e)
    exact ⟨d, by simpa using h1, h2⟩
theorem DSs.append : ∀ {vs ws : List V} {ds es : List D}, DSs K S H vs ds → DSs K S H ws es → DSs K S H (vs ++ ws) (ds ++ es)
  | _, _, _, _, .nil, s => s
  | _, _, _, _, .cons r t, s => .cons r (DSs.append t s)
theorem DSs.take : ∀ {vs : List V} {ds : List D} (n : Nat), DSs K S H vs ds → DSs K S H (vs.take n) (ds.take n)
  | _, _, 0, _ => .nil
  | _, _, _ + 1, .nil => .nil
  | _, _, n + 1, .cons r t => .cons r (DSs.take n t)
theorem DSs.drop : ∀ {vs : List V} {ds : List D} (n : Nat), DSs K S H vs ds → DSs K S H (vs.drop n) (ds.drop n)
  | _, _, 0, r => r
  | _, _, _ + 1, .nil => .nil
  | _, _, n + 1, .cons _ t => DSs.drop n t
theorem DSs.set : ∀ {vs : List V} {ds : List D} (i : Nat) {v : V} {d : D}, DSs K S H vs ds → DS K S H v d → DSs K S H (vs.set i v) (ds.set i d)
  | _, _, _, _, _, .nil, _ => .nil
  | _, _, 0, _, _, .cons _ t, r => .cons r t
  | _, _, i + 1, _, _, .cons q t, r => .cons q (DSs.set i t r)
theorem DSs.reverse : ∀ {vs : List V} {ds : List D}, DSs K S H vs ds → DSs K S H vs.reverse ds.reverse
  | _, _, .nil => .nil
  | _, _, .cons r t => by rw [List.reverse_cons, List.reverse_cons]; exact (DSs.reverse t).append (.cons r .nil)
theorem DSs.dropLast {vs : List V} {ds : List D} (h : DSs K S H vs ds) : DSs K S H vs.dropLast ds.dropLast := by
  rw [List.dropLast_eq_take, List.dropLast_eq_take, h.length]; exact h.take _
theorem DSs.of_ints : ∀ (ns : List Int), DSs K S H (ns.map V.int) (ns.map PyData.int)
  | [] => .nil
  | n :: ns => .cons (.int n) (DSs.of_ints ns)
theorem DSs.ints : ∀ {vs : List V} {ns : List Int}, DSs K S H vs (ns.map PyData.int) → vs = ns.map V.int
  | _, [], h => by cases h; rfl
  | _, n :: ns, h => by cases h with | cons h1 h2 => cases h1; rw [DSs.ints h2]; rfl
end

/-! ### how the heap goes on: S what is shared, O what slots own -/
/-- one that can be written -/
def HO.wr : HO → Bool
  | .lst _ => true
  | .dK _ => true
  | .dT _ => true
  | _ => false
structure Ext (S : AS) (H : Hp) (O : AS) (S' : AS) (H' : Hp) (O' : AS) : Prop where
  gd : ∀ a, O a → ¬ S a ∧ ∃ o, H a = some o ∧ HO.wr o = true
  sub : ∀ a, S a → S' a
  oth : ∀ a o, H a = some o → ¬ O a → H' a = some o
  onew : ∀ a, O' a → O a ∨ H a = none
  snew : ∀ a, S' a → S a ∨ O a ∨ H a = none
  dom : ∀ a, H a ≠ none → H' a ≠ none
section
variable {K : PySem.W.Frag} {S S' S'' O O' O'' : AS} {H H' H'' : Hp}
theorem Ext.refl (g : ∀ a, O a → ¬ S a ∧ ∃ o, H a = some o ∧ HO.wr o = true) : Ext S H O S H O := ⟨g, fun _ h => h, fun _ _ h _ => h, fun _ h => .inl h, fun _ h => .inl h, fun _ h => h⟩
theorem Ext.trans (a : Ext S H O S' H' O') (b : Ext S' H' O' S'' H'' O'') : Ext S H O S'' H'' O'' := by
  have dn : ∀ c, H' c = none → H c = none := fun c h => by
    cases q : H c with
    | none => rfl
    | some o => exact absurd h (a.dom c (by rw [q]; exact fun z => nomatch z))
  refine ⟨a.gd, fun c h => b.sub c (a.sub c h), fun c o h n => b.oth c o (a.oth c o h n) fun z => ?_, fun c h => ?_, fun c h => ?_, fun c h => b.dom c (a.dom c h)⟩
  · rcases a.onew c z with z | z
    · exact n z
    · rw [h] at z; cases z
  · rcases b.onew c h with z | z
    · exact a.onew c z
    · exact .inr (dn c z)
  · rcases b.snew c h with z | z | z
    · exact a.snew c z
    · rcases a.onew c z with y | y
      · exact .inr (.inl y)
      · exact .inr (.inr y)
    · exact .inr (.inr (dn c z))
theorem Ext.keep (e : Ext S H O S' H' O') {a : Addr} {o : HO} (h : S a) (q : H a = some o) : H' a = some o := e.oth a o q fun z => (e.gd a z).1 h
theorem Ext.nwr (e : Ext S H O S' H' O') {a : Addr} {o : HO} (q : H a = some o) (w : HO.wr o = false) : H' a = some o := e.oth a o q fun z => by
  obtain ⟨_, u, h1, h2⟩ := e.gd a z
  rw [q] at h1; cases h1
  rw [w] at h2; cases h2
theorem Ext.dn (e : Ext S H O S' H' O') {a : Addr} (h : H' a = none) : H a = none := by
  cases q : H a with
  | none => rfl
  | some o => exact absurd h (e.dom a (by rw [q]; exact fun z => nomatch z))
theorem Ext.ls (e : Ext S H O S' H' O') {a : Addr} {xs : List V} (h : LsS K S H a xs) : LsS K S' H' a xs := by
  rcases h with ⟨h1, h2⟩ | h
  · refine .inl ⟨e.sub a h1, ?_⟩
    rcases h2 with h2 | ⟨o, h2⟩
    · exact .inl (e.keep h1 h2)
    · exact .inr ⟨o, e.keep h1 h2⟩
  · exact .inr h
theorem Ext.sqt (e : Ext S H O S' H' O') {a : Addr} {xs : List V} (h : SqT K H a xs) : SqT K H' a xs := by
  rcases h with (h | ⟨o, h⟩) | h
  · exact .inl (.inl (e.nwr h rfl))
  · exact .inl (.inr ⟨o, e.nwr h rfl⟩)
  · exact .inr h
theorem DS.ext (e : Ext S H O S' H' O') {v : V} {d : D} (h : DS K S H v d) : DS K S' H' v d := h.map (fun _ _ => e.sqt) fun a o h1 h2 => ⟨e.sub a h1, e.keep h1 h2⟩
theorem DSs.ext (e : Ext S H O S' H' O') {vs : List V} {ds : List D} (h : DSs K S H vs ds) : DSs K S' H' vs ds := h.map (fun _ _ => e.sqt) fun a o h1 h2 => ⟨e.sub a h1, e.keep h1 h2⟩
theorem DKs.ext (e : Ext S H O S' H' O') {l : List (Key × V)} {ds : List (D × D)} (h : DKs K S H l ds) : DKs K S' H' l ds := h.map (fun _ _ => e.sqt) fun a o h1 h2 => ⟨e.sub a h1, e.keep h1 h2⟩
theorem DTs.ext (e : Ext S H O S' H' O') {l : List (List Key × V)} {ds : List (D × D)} (h : DTs K S H l ds) : DTs K S' H' l ds := h.map (fun _ _ => e.sqt) fun a o h1 h2 => ⟨e.sub a h1, e.keep h1 h2⟩
/-- a new object -/
theorem Ext.laid (g : ∀ a, O a → ¬ S a ∧ ∃ o, H a = some o ∧ HO.wr o = true) {p : Addr} {o : HO} (hp : H p = none) : Ext S H O S (upd H p o) O := by
  refine ⟨g, fun _ h => h, fun a u e _ => ?_, fun _ h => .inl h, fun _ h => .inl h, fun a n => ?_⟩
  · rw [upd_ne (ne_of_none e hp)]; exact e
  · by_cases h : a = p
    · subst h; exact absurd hp n
    · rw [upd_ne h]; exact n
/-- what a slot owns is written -/
theorem Ext.write (g : ∀ a, O a → ¬ S a ∧ ∃ o, H a = some o ∧ HO.wr o = true) {p : Addr} {o : HO} (hO : O p) : Ext S H O S (upd H p o) O := by
  refine ⟨g, fun _ h => h, fun a w e n => ?_, fun _ h => .inl h, fun _ h => .inl h, fun a n => ?_⟩
  · rw [upd_ne (fun z => n (by rw [z]; exact hO))]; exact e
  · by_cases h : a = p
    · subst h; rw [upd_same]; exact fun z => nomatch z
    · rw [upd_ne h]; exact n
/-- the slots own less, more is shared: of what they owned, or of what is new -/
theorem Ext.less (g : ∀ a, O a → ¬ S a ∧ ∃ o, H a = some o ∧ HO.wr o = true) (h1 : ∀ a, O' a → O a) : Ext S H O S H O' := ⟨g, fun _ h => h, fun _ _ h _ => h, fun a h => .inl (h1 a h), fun _ h => .inl h, fun _ h => h⟩
theorem Ext.more (e : Ext S H O S' H' O') {T : AS} (hs : ∀ a, S' a → T a) (hn : ∀ a, T a → S' a ∨ O a ∨ H a = none) : Ext S H O T H' O' :=
  ⟨e.gd, fun a h => hs a (e.sub a h), e.oth, e.onew, fun a h => (hn a h).elim (e.snew a) .inr, e.dom⟩
theorem Ext.owns (e : Ext S H O S' H' O') {T : AS} (hn : ∀ a, T a → O' a ∨ H a = none) : Ext S H O S' H' T :=
  ⟨e.gd, e.sub, e.oth, fun a h => (hn a h).elim (e.onew a) .inr, e.snew, e.dom⟩
end

/-! ### slots -/
/-- what an object of one's own holds -/
inductive Oc where
  | ls (ds : List D) | dc (kvs : List (D × D))
def Oc.dat : Oc → D
  | .ls ds => .list ds
  | .dc kvs => .dict kvs
def OcOk (K : PySem.W.Frag) (S : AS) (H : Hp) : HO → Oc → Prop
  | .lst xs, .ls ds => DSs K S H xs ds
  | .dK l, .dc kvs => DKs K S H l kvs
  | .dT l, .dc kvs => DTs K S H l kvs
  | _, _ => False
inductive Sl where
  | un | val (d : D) | own (c : Oc) | io (c : Oc) | fz (ns : List Int)
abbrev Rho := List Sl
/-- where a def's run began; io: the object that it was handed to change -/
structure Base where
  S : AS
  H : Hp
  io : Option Addr

section
variable {K : PySem.W.Frag} {S S' O O' : AS} {H H' : Hp}
theorem OcOk.ext (e : Ext S H O S' H' O') {o : HO} {c : Oc} (h : OcOk K S H o c) : OcOk K S' H' o c := by
  cases o <;> cases c <;> first | exact (DSs.ext e h : DSs _ _ _ _ _) | exact (DKs.ext e h : DKs _ _ _ _ _) | exact (DTs.ext e h : DTs _ _ _ _ _) | exact False.elim h
theorem OcOk.ls {o : HO} {ds : List D} (h : OcOk K S H o (.ls ds)) : ∃ xs, o = .lst xs ∧ DSs K S H xs ds := by
  cases o <;> first | exact ⟨_, rfl, h⟩ | exact False.elim h
theorem OcOk.wr {o : HO} {c : Oc} (h : OcOk K S H o c) : HO.wr o = true := by
  cases o <;> cases c <;> first | rfl | exact False.elim h
theorem OcOk.share {o : HO} {c : Oc} {p : Addr} (h : OcOk K S H o c) (hS : S p) (hp : H p = some o) : DS K S H (.ref p) c.dat := by
  cases o <;> cases c <;> first | exact .lst hS hp h | exact .dk hS hp h | exact .dt hS hp h | exact False.elim h
theorem OcOk.sub (h1 : ∀ a, S a → S' a) {o : HO} {c : Oc} (h : OcOk K S H o c) : OcOk K S' H o c := by
  cases o <;> cases c <;> first
    | exact (DSs.map (fun _ _ z => z) (fun a o z1 z2 => ⟨h1 a z1, z2⟩) h : DSs _ _ _ _ _)
    | exact (DKs.map (fun _ _ z => z) (fun a o z1 z2 => ⟨h1 a z1, z2⟩) h : DKs _ _ _ _ _)
    | exact (DTs.map (fun _ _ z => z) (fun a o z1 z2 => ⟨h1 a z1, z2⟩) h : DTs _ _ _ _ _)
    | exact False.elim h
theorem set_same {α : Type} : ∀ {l : List α} {i : Nat} {x : α}, l[i]? = some x → l.set i x = l
  | [], _, _, h => by simp at h
  | y :: r, 0, x, h => by
    have e : y = x := by simpa using h
    subst e; rfl
  | y :: r, i + 1, x, h => by
    show y :: r.set i x = y :: r
    rw [set_same (by simpa using h)]
end

def SlOk (K : PySem.W.Frag) (B : Base) (S : AS) (H : Hp) : Option V → Sl → Prop
  | _, .un => True
  | v, .val d => ∃ x, v = some x ∧ DS K S H x d
  | v, .own c => ∃ a o, v = some (.ref a) ∧ ¬ S a ∧ B.H a = none ∧ H a = some o ∧ OcOk K S H o c
  | v, .io c => ∃ a o, v = some (.ref a) ∧ ¬ S a ∧ B.io = some a ∧ H a = some o ∧ OcOk K S H o c
  | v, .fz ns => ∃ a, v = some (.ref a) ∧ LsS K S H a (ns.map V.int)
/-- slot i holds an object of its own, at a -/
def Own (σ : L2.St) (ρ : Rho) (i : Nat) (a : Addr) : Prop := σ[i]? = some (some (.ref a)) ∧ ∃ c, ρ[i]? = some (.own c) ∨ ρ[i]? = some (.io c)

def OwnS (σ : L2.St) (ρ : Rho) : AS := fun a => ∃ i, Own σ ρ i a
structure EnvOk (K : PySem.W.Frag) (B : Base) (S : AS) (H : Hp) (σ : L2.St) (ρ : Rho) : Prop where
  len : σ.length = ρ.length
  slot : ∀ (i : Nat) (v : Option V) (s : Sl), σ[i]? = some v → ρ[i]? = some s → SlOk K B S H v s
  dis : ∀ (i j : Nat) (a : Addr), Own σ ρ i a → Own σ ρ j a → i = j
  sub : ∀ a, B.S a → S a
  new : ∀ a, S a → B.S a ∨ B.H a = none
  keep : ∀ a o, B.H a = some o → B.io ≠ some a → H a = some o
  iok : ∀ a, B.io = some a → ∃ (i : Nat) (c : Oc), ρ[i]? = some (.io c) ∧ σ[i]? = some (some (.ref a))
  sdom : ∀ a, S a → H a ≠ none

section
variable {K : PySem.W.Frag} {B : Base} {S S' : AS} {H H' : Hp} {σ : L2.St} {ρ : Rho}
theorem EnvOk.at (I : EnvOk K B S H σ ρ) {i : Nat} {s : Sl} (h : ρ[i]? = some s) : ∃ v, σ[i]? = some v ∧ SlOk K B S H v s := by
  have hi : i < ρ.length := (List.getElem?_eq_some_iff.mp h).1
  have hi2 : i < σ.length := by rw [I.len]; exact hi
  exact ⟨σ[i], List.getElem?_eq_getElem hi2, I.slot i _ s (List.getElem?_eq_getElem hi2) h⟩
theorem EnvOk.ownAt (I : EnvOk K B S H σ ρ) {i : Nat} {a : Addr} (h : Own σ ρ i a) : ¬ S a ∧ ∃ o c, H a = some o ∧ OcOk K S H o c := by
  obtain ⟨h1, ds, h2 | h2⟩ := h
  · obtain ⟨b, xs, e, n, _, q, z⟩ := I.slot i _ _ h1 h2
    cases e; exact ⟨n, xs, _, q, z⟩
  · obtain ⟨b, xs, e, n, _, q, z⟩ := I.slot i _ _ h1 h2
    cases e; exact ⟨n, xs, _, q, z⟩
theorem EnvOk.fresh (I : EnvOk K B S H σ ρ) {p : Addr} (h : H p = none) : ¬ S p ∧ B.H p = none ∧ (∀ i, ¬ Own σ ρ i p) ∧ B.io ≠ some p := by
  have no : ∀ i, ¬ Own σ ρ i p := fun i z => by
    obtain ⟨_, xs, _, q, _⟩ := I.ownAt z
    rw [h] at q; cases q
  have nio : B.io ≠ some p := fun z => by
    obtain ⟨i, ds, h1, h2⟩ := I.iok p z
    exact no i ⟨h2, ds, .inr h1⟩
  refine ⟨fun z => I.sdom p z h, ?_, no, nio⟩
  cases q : B.H p with
  | none => rfl
  | some o => rw [I.keep p o q nio] at h; cases h
theorem EnvOk.gd (I : EnvOk K B S H σ ρ) : ∀ a, OwnS σ ρ a → ¬ S a ∧ ∃ o, H a = some o ∧ HO.wr o = true := fun a ⟨i, h⟩ => by
  obtain ⟨h1, o, c, h2, h3⟩ := I.ownAt h
  exact ⟨h1, o, h2, h3.wr⟩
theorem EnvOk.refl (I : EnvOk K B S H σ ρ) : Ext S H (OwnS σ ρ) S H (OwnS σ ρ) := Ext.refl I.gd
/-- the heap goes on, what the slots own is kept -/
theorem EnvOk.ext {O' O0 : AS} (I : EnvOk K B S H σ ρ) (e : Ext S H O0 S' H' O') (ho : ∀ i a o, Own σ ρ i a → H a = some o → ¬ S' a ∧ H' a = some o) (hn : ∀ a, S' a → S a ∨ B.H a = none) (hk : ∀ a o, B.H a = some o → B.io ≠ some a → H a = some o → H' a = some o)
    (hd : ∀ a, S' a → ¬ S a → H' a ≠ none) : EnvOk K B S' H' σ ρ := by
  refine ⟨I.len, fun i v s h1 h2 => ?_, I.dis, fun a h => e.sub a (I.sub a h), fun a h => ?_, fun a o h1 h2 => hk a o h1 h2 (I.keep a o h1 h2), I.iok, fun a h => ?_⟩
  · have q := I.slot i v s h1 h2
    cases s with
    | un => trivial
    | val d => obtain ⟨x, q1, q2⟩ := q; exact ⟨x, q1, q2.ext e⟩
    | fz ns => obtain ⟨x, q1, q2⟩ := q; exact ⟨x, q1, e.ls q2⟩
    | own ds =>
      obtain ⟨a, xs, q1, q2, q3, q4, q5⟩ := q
      subst q1
      obtain ⟨z1, z2⟩ := ho i a _ ⟨h1, ds, .inl h2⟩ q4
      exact ⟨a, xs, rfl, z1, q3, z2, q5.ext e⟩
    | io ds =>
      obtain ⟨a, xs, q1, q2, q3, q4, q5⟩ := q
      subst q1
      obtain ⟨z1, z2⟩ := ho i a _ ⟨h1, ds, .inr h2⟩ q4
      exact ⟨a, xs, rfl, z1, q3, z2, q5.ext e⟩
  · rcases hn a h with z | z
    · exact I.new a z
    · exact .inr z
  · by_cases q : S a
    · exact e.dom a (I.sdom a q)
    · exact hd a h q
/-- behind a new object -/
theorem EnvOk.laid (I : EnvOk K B S H σ ρ) {p : Addr} {o : HO} (hp : H p = none) : EnvOk K B S (upd H p o) σ ρ :=
  I.ext (.laid I.gd hp) (fun i a u h q => ⟨(I.ownAt h).1, by rw [upd_ne (ne_of_none q hp)]; exact q⟩) (fun _ h => .inl h) (fun a u _ _ q => by rw [upd_ne (ne_of_none q hp)]; exact q) (fun a h n => absurd h n)
/-- an object of nobody's is shared from now on -/
theorem EnvOk.share (I : EnvOk K B S H σ ρ) {p : Addr} {u : HO} (hb : B.H p = none) (hp : H p = some u) (no : ∀ i, ¬ Own σ ρ i p) : EnvOk K B (fun a => S a ∨ a = p) H σ ρ := by
  refine ⟨I.len, fun i v s h1 h2 => ?_, I.dis, fun a h => .inl (I.sub a h), fun a h => h.elim (I.new a) fun e => .inr (e ▸ hb), I.keep, I.iok, fun a h => h.elim (I.sdom a) fun e => by rw [e, hp]; exact fun z => nomatch z⟩
  have q := I.slot i v s h1 h2
  have dm : ∀ a o, S a → H a = some o → (S a ∨ a = p) ∧ H a = some o := fun a o z1 z2 => ⟨.inl z1, z2⟩
  cases s with
  | un => trivial
  | val d => obtain ⟨x, q1, q2⟩ := q; exact ⟨x, q1, q2.map (fun _ _ z => z) dm⟩
  | fz ns =>
    obtain ⟨x, q1, q2⟩ := q
    exact ⟨x, q1, q2.elim (fun z => .inl ⟨.inl z.1, z.2⟩) .inr⟩
  | own c =>
    obtain ⟨a, xs, q1, q2, q3, q4, q5⟩ := q
    subst q1
    exact ⟨a, xs, rfl, fun z => z.elim q2 fun e => no i (by rw [← e]; exact ⟨h1, c, .inl h2⟩), q3, q4, q5.sub fun _ => .inl⟩
  | io c =>
    obtain ⟨a, xs, q1, q2, q3, q4, q5⟩ := q
    subst q1
    exact ⟨a, xs, rfl, fun z => z.elim q2 fun e => no i (by rw [← e]; exact ⟨h1, c, .inr h2⟩), q3, q4, q5.sub fun _ => .inl⟩

theorem Own.set_ne {i j : Nat} {a : Addr} {v : Option V} {s : Sl} (h : i ≠ j) : Own (σ.set i v) (ρ.set i s) j a ↔ Own σ ρ j a := by
  unfold Own
  rw [List.getElem?_set_ne h, List.getElem?_set_ne h]
/-- a slot is stored: a value -/
theorem EnvOk.setVal (I : EnvOk K B S H σ ρ) {i : Nat} {v : V} {d : D} (hd : DS K S H v d) (hio : ∀ ds, ρ[i]? ≠ some (.io ds)) : EnvOk K B S H (σ.set i (some v)) (ρ.set i (.val d)) := by
  have no : ∀ a, ¬ Own (σ.set i (some v)) (ρ.set i (.val d)) i a := fun a ⟨_, ds, z⟩ => by
    by_cases hi : i < ρ.length
    · rw [List.getElem?_set_self hi] at z; rcases z with z | z <;> cases z
    · rw [List.getElem?_eq_none (by simpa using hi)] at z; rcases z with z | z <;> cases z
  refine ⟨by simpa using I.len, fun j w s h1 h2 => ?_, fun j k a h1 h2 => ?_, I.sub, I.new, I.keep, fun a h => ?_, I.sdom⟩
  · by_cases hj : i = j
    · subst hj
      have hi : i < σ.length := by have := (List.getElem?_eq_some_iff.mp h1).1; simpa using this
      rw [List.getElem?_set_self hi] at h1
      rw [List.getElem?_set_self (by rw [← I.len]; exact hi)] at h2
      cases h1; cases h2
      exact ⟨v, rfl, hd⟩
    · rw [List.getElem?_set_ne hj] at h1 h2
      exact I.slot j w s h1 h2
  · have n1 : i ≠ j := fun e => no a (e ▸ h1)
    have n2 : i ≠ k := fun e => no a (e ▸ h2)
    exact I.dis j k a ((Own.set_ne n1).mp h1) ((Own.set_ne n2).mp h2)
  · obtain ⟨j, ds, h1, h2⟩ := I.iok a h
    have n1 : i ≠ j := fun e => hio ds (e ▸ h1)
    exact ⟨j, ds, by rw [List.getElem?_set_ne n1]; exact h1, by rw [List.getElem?_set_ne n1]; exact h2⟩
/-- a slot is stored: an object of its own -/
theorem EnvOk.setOwn (I : EnvOk K B S H σ ρ) {i : Nat} {p : Addr} {o : HO} {c : Oc} (hS : ¬ S p) (hB : B.H p = none) (hp : H p = some o) (hd : OcOk K S H o c) (no : ∀ j, j ≠ i → ¬ Own σ ρ j p) (hio : ∀ ds, ρ[i]? ≠ some (.io ds)) :
    EnvOk K B S H (σ.set i (some (.ref p))) (ρ.set i (.own c)) := by
  have at_ : ∀ a, Own (σ.set i (some (.ref p))) (ρ.set i (.own c)) i a → a = p := fun a ⟨z, _⟩ => by
    by_cases hi : i < σ.length
    · rw [List.getElem?_set_self hi] at z; cases z; rfl
    · rw [List.getElem?_eq_none (by simpa using hi)] at z; cases z
  refine ⟨by simpa using I.len, fun j w s h1 h2 => ?_, fun j k a h1 h2 => ?_, I.sub, I.new, I.keep, fun a h => ?_, I.sdom⟩
  · by_cases hj : i = j
    · subst hj
      have hi : i < σ.length := by have := (List.getElem?_eq_some_iff.mp h1).1; simpa using this
      rw [List.getElem?_set_self hi] at h1
      rw [List.getElem?_set_self (by rw [← I.len]; exact hi)] at h2
      cases h1; cases h2
      exact ⟨p, o, rfl, hS, hB, hp, hd⟩
    · rw [List.getElem?_set_ne hj] at h1 h2
      exact I.slot j w s h1 h2
  · by_cases e1 : i = j
    · by_cases e2 : i = k
      · rw [← e1, ← e2]
      · subst e1
        rw [at_ a h1] at h2
        exact absurd ((Own.set_ne e2).mp h2) (no k (Ne.symm e2))
    · by_cases e2 : i = k
      · subst e2
        rw [at_ a h2] at h1
        exact absurd ((Own.set_ne e1).mp h1) (no j (Ne.symm e1))
      · exact I.dis j k a ((Own.set_ne e1).mp h1) ((Own.set_ne e2).mp h2)
  · obtain ⟨j, ds', h1, h2⟩ := I.iok a h
    have n1 : i ≠ j := fun e => hio ds' (e ▸ h1)
    exact ⟨j, ds', by rw [List.getElem?_set_ne n1]; exact h1, by rw [List.getElem?_set_ne n1]; exact h2⟩
/-- a slot is forgotten -/
theorem EnvOk.setUn (I : EnvOk K B S H σ ρ) {i : Nat} {v : Option V} (hio : ∀ ds, ρ[i]? ≠ some (.io ds)) : EnvOk K B S H (σ.set i v) (ρ.set i .un) := by
  have no : ∀ a, ¬ Own (σ.set i v) (ρ.set i .un) i a := fun a ⟨_, ds, z⟩ => by
    by_cases hi : i < ρ.length
    · rw [List.getElem?_set_self hi] at z; rcases z with z | z <;> cases z
    · rw [List.getElem?_eq_none (by simpa using hi)] at z; rcases z with z | z <;> cases z
  refine ⟨by simpa using I.len, fun j w s h1 h2 => ?_, fun j k a h1 h2 => ?_, I.sub, I.new, I.keep, fun a h => ?_, I.sdom⟩
  · by_cases hj : i = j
    · subst hj
      have hi : i < σ.length := by have := (List.getElem?_eq_some_iff.mp h1).1; simpa using this
      rw [List.getElem?_set_self (by rw [← I.len]; exact hi)] at h2
      cases h2
      trivial
    · rw [List.getElem?_set_ne hj] at h1 h2
      exact I.slot j w s h1 h2
  · have n1 : i ≠ j := fun e => no a (e ▸ h1)
    have n2 : i ≠ k := fun e => no a (e ▸ h2)
    exact I.dis j k a ((Own.set_ne n1).mp h1) ((Own.set_ne n2).mp h2)
  · obtain ⟨j, ds, h1, h2⟩ := I.iok a h
    have n1 : i ≠ j := fun e => hio ds (e ▸ h1)
    exact ⟨j, ds, by rw [List.getElem?_set_ne n1]; exact h1, by rw [List.getElem?_set_ne n1]; exact h2⟩
theorem OwnS.setVal {i : Nat} {v : Option V} {d : D} {a : Addr} (h : OwnS (σ.set i v) (ρ.set i (.val d)) a) : OwnS σ ρ a := by
  obtain ⟨j, h⟩ := h
  by_cases e : i = j
  · subst e
    obtain ⟨_, c, z⟩ := h
    by_cases hi : i < ρ.length
    · rw [List.getElem?_set_self hi] at z; rcases z with z | z <;> cases z
    · rw [List.getElem?_eq_none (by simpa using hi)] at z; rcases z with z | z <;> cases z
  · exact ⟨j, (Own.set_ne e).mp h⟩
theorem OwnS.setUn {i : Nat} {v : Option V} {a : Addr} (h : OwnS (σ.set i v) (ρ.set i .un) a) : OwnS σ ρ a := by
  obtain ⟨j, h⟩ := h
  by_cases e : i = j
  · subst e
    obtain ⟨_, c, z⟩ := h
    by_cases hi : i < ρ.length
    · rw [List.getElem?_set_self hi] at z; rcases z with z | z <;> cases z
    · rw [List.getElem?_eq_none (by simpa using hi)] at z; rcases z with z | z <;> cases z
  · exact ⟨j, (Own.set_ne e).mp h⟩
theorem OwnS.setOwn {i : Nat} {p : Addr} {c : Oc} {a : Addr} (h : OwnS (σ.set i (some (.ref p))) (ρ.set i (.own c)) a) : OwnS σ ρ a ∨ a = p := by
  obtain ⟨j, h⟩ := h
  by_cases e : i = j
  · subst e
    obtain ⟨z, _⟩ := h
    by_cases hi : i < σ.length
    · rw [List.getElem?_set_self hi] at z; cases z; exact .inr rfl
    · rw [List.getElem?_eq_none (by simpa using hi)] at z; cases z
  · exact .inl ⟨j, (Own.set_ne e).mp h⟩
/-- a slot's own object leaves it -/
theorem EnvOk.leave (I : EnvOk K B S H σ ρ) {i : Nat} {p : Addr} {c : Oc} (h1 : ρ[i]? = some (.own c)) (h2 : σ[i]? = some (some (.ref p))) :
    EnvOk K B S H σ (ρ.set i .un) ∧ ¬ S p ∧ B.H p = none ∧ (∃ o, H p = some o ∧ OcOk K S H o c) ∧ ∀ j, ¬ Own σ (ρ.set i .un) j p := by
  obtain ⟨b, o, e, nS, nB, hp, hd⟩ := I.slot i _ _ h2 h1
  cases e
  have I1 : EnvOk K B S H σ (ρ.set i .un) := by
    have z := I.setUn (i := i) (v := some (.ref p)) (fun ds' q => by rw [h1] at q; cases q)
    rwa [set_same h2] at z
  refine ⟨I1, nS, nB, ⟨o, hp, hd⟩, fun j z => ?_⟩
  by_cases e : i = j
  · subst e
    obtain ⟨_, ds', z⟩ := z
    have hi : i < ρ.length := (List.getElem?_eq_some_iff.mp h1).1
    rw [List.getElem?_set_self hi] at z
    rcases z with z | z <;> cases z
  · have q : Own σ ρ j p := by
      unfold Own at z ⊢
      rwa [List.getElem?_set_ne e] at z
    exact e (I.dis i j p ⟨h2, c, .inl h1⟩ q)
/-- a slot's own object is shared from now on -/
theorem EnvOk.demote (I : EnvOk K B S H σ ρ) {i : Nat} {p : Addr} {c : Oc} (h1 : ρ[i]? = some (.own c)) (h2 : σ[i]? = some (some (.ref p))) :
    EnvOk K B (fun a => S a ∨ a = p) H σ (ρ.set i (.val c.dat)) ∧ DS K (fun a => S a ∨ a = p) H (.ref p) c.dat ∧ Ext S H (OwnS σ ρ) (fun a => S a ∨ a = p) H (OwnS σ (ρ.set i (.val c.dat))) := by
  obtain ⟨I1, nS, nB, ⟨o, hp, hd⟩, no⟩ := I.leave h1 h2
  have hD : DS K (fun a => S a ∨ a = p) H (.ref p) c.dat := (hd.sub fun _ => .inl).share (.inr rfl) hp
  have I2 := (I1.share nB hp no).setVal (i := i) hD (fun ds' q => by
    have hi : i < ρ.length := (List.getElem?_eq_some_iff.mp h1).1
    rw [List.getElem?_set_self hi] at q; cases q)
  rw [List.set_set, set_same h2] at I2
  refine ⟨I2, hD, (Ext.less I.gd fun a h => ?_).more (fun _ => .inl) fun a h => h.elim .inl fun e => .inr (.inl ?_)⟩
  · refine OwnS.setVal (i := i) (v := some (.ref p)) (d := c.dat) ?_
    rw [set_same h2]
    exact h
  · rw [e]
    exact ⟨i, h2, c, .inl h1⟩
/-- what the slot holds when its own object is changed -/
def Sl.put : Sl → Oc → Sl
  | .io _, c => .io c
  | _, c => .own c
def Sl.oc : Sl → Option Oc
  | .own c => some c
  | .io c => some c
  | _ => none
/-- a slot's own object is changed in place -/
theorem EnvOk.write (I : EnvOk K B S H σ ρ) {i : Nat} {s : Sl} {c c' : Oc} {o : HO} (h1 : ρ[i]? = some s) (hs : s.oc = some c) (ho : OcOk K S H o c') :
    ∃ p u, σ[i]? = some (some (.ref p)) ∧ H p = some u ∧ OcOk K S H u c ∧ EnvOk K B S (upd H p o) σ (ρ.set i (s.put c')) ∧ Ext S H (OwnS σ ρ) S (upd H p o) (OwnS σ (ρ.set i (s.put c'))) := by
  obtain ⟨v, h2, z⟩ := I.at h1
  have big : ∃ p u, v = some (.ref p) ∧ ¬ S p ∧ H p = some u ∧ OcOk K S H u c ∧ Own σ ρ i p ∧ ((∃ c, s = .io c) → B.io = some p) ∧ ((∃ c, s = .own c) → B.H p = none) := by
    cases s with
    | un => cases hs
    | val d => cases hs
    | fz d => cases hs
    | own c0 => cases hs; obtain ⟨a, u, e, n, nb, q, d⟩ := z; subst e; exact ⟨a, u, rfl, n, q, d, (⟨h2, c, .inl h1⟩ : Own σ ρ i a), fun ⟨_, z⟩ => (nomatch z), fun _ => nb⟩
    | io c0 => cases hs; obtain ⟨a, u, e, n, nb, q, d⟩ := z; subst e; exact ⟨a, u, rfl, n, q, d, (⟨h2, c, .inr h1⟩ : Own σ ρ i a), fun _ => nb, fun ⟨_, z⟩ => (nomatch z)⟩
  obtain ⟨p, u, rfl, nS, hp, hd, ow, hio, hb⟩ := big
  have E : Ext S H (OwnS σ ρ) S (upd H p o) (OwnS σ ρ) := .write I.gd ⟨i, ow⟩
  have hi : i < ρ.length := (List.getElem?_eq_some_iff.mp h1).1
  have owns : ∀ j a, Own σ (ρ.set i (s.put c')) j a → Own σ ρ j a := fun j a z => by
    by_cases e : i = j
    · subst e
      obtain ⟨z1, _⟩ := z
      rw [h2] at z1; cases z1
      exact ow
    · unfold Own at z ⊢
      rwa [List.getElem?_set_ne e] at z
  refine ⟨p, u, h2, hp, hd, ⟨by simpa using I.len, fun j w t q1 q2 => ?_, fun j k a z1 z2 => I.dis j k a (owns j a z1) (owns k a z2), I.sub, I.new, fun a w q1 q2 => ?_, fun a h => ?_, fun a h => E.dom a (I.sdom a h)⟩, E.owns fun a ⟨j, h⟩ => .inl ⟨j, owns j a h⟩⟩
  · by_cases e : i = j
    · subst e
      rw [List.getElem?_set_self hi] at q2
      rw [h2] at q1
      cases q1
      cases s with
      | un => cases hs
      | val d => cases hs
      | fz d => cases hs
      | own c0 => cases q2; exact ⟨p, o, rfl, nS, hb ⟨_, rfl⟩, upd_same, ho.ext E⟩
      | io c0 => cases q2; exact ⟨p, o, rfl, nS, hio ⟨_, rfl⟩, upd_same, ho.ext E⟩
    · rw [List.getElem?_set_ne e] at q2
      have z := I.slot j w t q1 q2
      cases t with
      | un => trivial
      | val d => obtain ⟨x, z1, z2⟩ := z; exact ⟨x, z1, z2.ext E⟩
      | fz d => obtain ⟨x, z1, z2⟩ := z; exact ⟨x, z1, E.ls z2⟩
      | own ds' =>
        obtain ⟨a, zs, z1, z2, z3, z4, z5⟩ := z
        subst z1
        have ne : a ≠ p := fun q => by subst q; exact e (I.dis i j a ow ⟨q1, ds', .inl q2⟩)
        exact ⟨a, zs, rfl, z2, z3, by rw [upd_ne ne]; exact z4, z5.ext E⟩
      | io ds' =>
        obtain ⟨a, zs, z1, z2, z3, z4, z5⟩ := z
        subst z1
        have ne : a ≠ p := fun q => by subst q; exact e (I.dis i j a ow ⟨q1, ds', .inr q2⟩)
        exact ⟨a, zs, rfl, z2, z3, by rw [upd_ne ne]; exact z4, z5.ext E⟩
  · have q3 := I.keep a w q1 q2
    have ne : a ≠ p := fun q => by
      subst q
      cases s with
      | un => cases hs
      | val d => cases hs
      | fz d => cases hs
      | own c0 => rw [hb ⟨_, rfl⟩] at q1; cases q1
      | io c0 => exact q2 (hio ⟨_, rfl⟩)
    rw [upd_ne ne]; exact q3
  · obtain ⟨j, ds', q1, q2⟩ := I.iok a h
    by_cases e : i = j
    · subst e
      rw [h1] at q1
      cases q1
      exact ⟨i, c', by rw [List.getElem?_set_self hi]; rfl, q2⟩
    · exact ⟨j, ds', by rw [List.getElem?_set_ne e]; exact q1, q2⟩
end
end DL
set_option Elab.async false
set_option linter.all false
set_option maxRecDepth 100000
set_option maxHeartbeats 1000000
namespace DL
open PySem PySem.Spec PyProof.Rows L2

/-! ### outcomes -/
inductive Rv where
  | val (d : D) | own (c : Oc)
def Rv.dat : Rv → D
  | .val d => d
  | .own c => c.dat
def Rv.sl : Rv → Sl
  | .val d => .val d
  | .own c => .own c
inductive Out (α : Type) where
  | ok (a : α) (ρ : Rho) | exc (c : Str) (ρ : Rho) | bad
def Out.bind {α β : Type} : Out α → (α → Rho → Out β) → Out β
  | .ok a ρ, f => f a ρ
  | .exc c ρ, _ => .exc c ρ
  | .bad, _ => .bad
inductive OS where
  | nx (ρ : Rho) | rt (r : Rv) (ρ : Rho) | bk (ρ : Rho) | ct (ρ : Rho) | exc (c : Str) (ρ : Rho) | bad
def Out.bindS {α : Type} : Out α → (α → Rho → OS) → OS
  | .ok a ρ, f => f a ρ
  | .exc c ρ, _ => .exc c ρ
  | .bad, _ => .bad
def OS.bind : OS → (Rho → OS) → OS
  | .nx ρ, f => f ρ
  | o, _ => o
abbrev M := Rho → Out Rv
abbrev MT := Rho → Out Bool
abbrev MS := Rho → OS

section
variable (K : PySem.W.Frag) (B : Base) (W : WX)
/-- an exception of the class c -/
def Wish (c : Str) (σ : L2.St) (H : Hp) : Prop := W (.ref (He.ga K c)) none σ H
def AfterG {α : Type} (σ : L2.St) (S : AS) (H : Hp) (O : AS) (R : Hp → α → Rho → AS → Hp → Prop) : Out α → Prop
  | .ok a ρ => ∀ S' H', EnvOk K B S' H' σ ρ → Ext S H O S' H' (OwnS σ ρ) → R H a ρ S' H'
  | .exc c ρ => ∀ S' H', EnvOk K B S' H' σ ρ → Ext S H O S' H' (OwnS σ ρ) → Wish K W c σ H'
  | .bad => False
/-- what is to be shown for a result; a new object is new since Hs -/
def RetR (σ : L2.St) (Q : VK) (Hs : Hp) (r : Rv) (ρ : Rho) (S' : AS) (H' : Hp) : Prop := match r with
  | .val d => ∀ v, DS K S' H' v d → Q v H'
  | .own c => ∀ p o, ¬ S' p → B.H p = none → Hs p = none → H' p = some o → OcOk K S' H' o c → (∀ i, ¬ Own σ ρ i p) → Q (.ref p) H'
abbrev After (σ : L2.St) (S : AS) (H : Hp) (O : AS) (Q : VK) : Out Rv → Prop := AfterG K B W σ S H O (RetR K B σ Q)
def rd (m : M) : TE := fun σ H Q => ∃ S ρ, EnvOk K B S H σ ρ ∧ After K B W σ S H (OwnS σ ρ) Q (m ρ)
def rdT (m : MT) : TT := fun σ H Q => ∃ S ρ, EnvOk K B S H σ ρ ∧ AfterG K B W σ S H (OwnS σ ρ) (fun _ b _ _ H' => Q b H') (m ρ)
/-- a statement's -/
def RetS (rt : VK) (r : Rv) (ρ : Rho) (S' : AS) (H' : Hp) (σ' : L2.St) : Prop := match r with
  | .val d => ∀ v, DS K S' H' v d → rt v H'
  | .own c => ∀ p o, ¬ S' p → B.H p = none → H' p = some o → OcOk K S' H' o c → (∀ i, ¬ Own σ' ρ i p) → rt (.ref p) H'
def AfterS (S : AS) (H : Hp) (O : AS) (D : Ends) : OS → Prop
  | .nx ρ => ∀ S' H' σ', EnvOk K B S' H' σ' ρ → Ext S H O S' H' (OwnS σ' ρ) → D.nx σ' H'
  | .rt r ρ => ∀ S' H' σ', EnvOk K B S' H' σ' ρ → Ext S H O S' H' (OwnS σ' ρ) → RetS K B D.rt r ρ S' H' σ'
  | .bk ρ => ∀ S' H' σ', EnvOk K B S' H' σ' ρ → Ext S H O S' H' (OwnS σ' ρ) → D.bk σ' H'
  | .ct ρ => ∀ S' H' σ', EnvOk K B S' H' σ' ρ → Ext S H O S' H' (OwnS σ' ρ) → D.ct σ' H'
  | .exc c ρ => ∀ S' H' σ', EnvOk K B S' H' σ' ρ → Ext S H O S' H' (OwnS σ' ρ) → Wish K W c σ' H'
  | .bad => False
def rdS (m : MS) : TS := fun D σ H => ∃ S ρ, EnvOk K B S H σ ρ ∧ AfterS K B W S H (OwnS σ ρ) D (m ρ)
end

/-- what holds of new things holds of later starts -/
def MonoR {α : Type} (R : Hp → α → Rho → AS → Hp → Prop) : Prop := ∀ (H H1 : Hp) (a : α) (ρ : Rho) (S' : AS) (H' : Hp), (∀ p, H1 p = none → H p = none) → R H a ρ S' H' → R H1 a ρ S' H'
section
variable {K : PySem.W.Frag} {B : Base} {W : WX} {σ : L2.St} {S S1 O O1 : AS} {H H1 : Hp} {ρ : Rho} {α β : Type}
theorem MonoR.c {P : α → Rho → AS → Hp → Prop} : MonoR (fun _ => P) := fun _ _ _ _ _ _ _ h => h
theorem MonoR.ret {Q : VK} : MonoR (RetR K B σ Q) := fun H H1 r ρ S' H' hp h => by
  cases r with
  | val d => exact h
  | own c => exact fun p o n1 n2 n3 => h p o n1 n2 (hp p n3)
theorem AfterG.mono {R : Hp → α → Rho → AS → Hp → Prop} {o : Out α} (hm : MonoR R) (e : Ext S H O S1 H1 O1) (h : AfterG K B W σ S H O R o) : AfterG K B W σ S1 H1 O1 R o := by
  cases o with
  | ok a ρ => exact fun S' H' I x => hm _ _ _ _ _ _ (fun p => e.dn) (h S' H' I (e.trans x))
  | exc c ρ => exact fun S' H' I x => h S' H' I (e.trans x)
  | bad => exact h
theorem AfterG.imp {R R' : Hp → α → Rho → AS → Hp → Prop} {o : Out α} (h : AfterG K B W σ S H O R o) (f : ∀ a ρ S' H', EnvOk K B S' H' σ ρ → Ext S H O S' H' (OwnS σ ρ) → R H a ρ S' H' → R' H a ρ S' H') : AfterG K B W σ S H O R' o := by
  cases o with
  | ok a ρ => exact fun S' H' I x => f a ρ S' H' I x (h S' H' I x)
  | exc c ρ => exact h
  | bad => exact h
/-- one behind another -/
theorem AfterG.bind {R : Hp → β → Rho → AS → Hp → Prop} {o : Out α} {f : α → Rho → Out β} (hm : MonoR R) (h : AfterG K B W σ S H O R (o.bind f)) : AfterG K B W σ S H O (fun _ a ρ S' H' => AfterG K B W σ S' H' (OwnS σ ρ) R (f a ρ)) o := by
  cases o with
  | ok a ρ => exact fun S' H' I x => AfterG.mono hm x h
  | exc c ρ => exact h
  | bad => exact h
theorem AfterS.mono {D : Ends} {o : OS} (e : Ext S H O S1 H1 O1) (h : AfterS K B W S H O D o) : AfterS K B W S1 H1 O1 D o := by
  cases o with
  | bad => exact h
  | _ => exact fun S' H' σ' I x => h S' H' σ' I (e.trans x)
theorem AfterS.bind {D : Ends} {o : OS} {f : MS} (h : AfterS K B W S H O D (o.bind f)) : AfterS K B W S H O { D with nx := rdS K B W f D } o := by
  cases o with
  | nx ρ => exact fun S' H' σ' I x => ⟨S', ρ, I, AfterS.mono x h⟩
  | _ => exact h
theorem AfterS.bindS {D : Ends} {o : Out α} {f : α → Rho → OS} (h : AfterS K B W S H O D (o.bindS f)) : AfterG K B W σ S H O (fun _ a ρ S' H' => AfterS K B W S' H' (OwnS σ ρ) D (f a ρ)) o := by
  cases o with
  | ok a ρ => exact fun S' H' I x => AfterS.mono x h
  | exc c ρ => exact fun S' H' I x => h S' H' σ I x
  | bad => exact h
/-- a value is wanted -/
theorem AfterG.ofV {Q : VK} {o : Out Rv} (h : AfterG K B W σ S H O (fun _ r ρ S' H' => ∀ v, DS K S' H' v r.dat → Q v H') o) : After K B W σ S H O Q o := by
  cases o with
  | exc c ρ => exact h
  | bad => exact h
  | ok r ρ =>
    intro S' H' I x
    cases r with
    | val d => exact fun v hv => h S' H' I x v hv
    | own c =>
      intro p o nS nB nH hp hc no
      exact h _ H' (I.share nB hp no) (x.more (fun _ => .inl) fun a z => z.elim .inl fun e => .inr (.inr (e ▸ nH))) (.ref p) ((hc.sub fun _ => .inl).share (.inr rfl) hp)
theorem RetR.own_new {Q : VK} {c : Oc} {o : HO} {p : Addr} (I : EnvOk K B S H σ ρ) (h : After K B W σ S H (OwnS σ ρ) Q (.ok (.own c) ρ)) (hp : H p = none) (ho : OcOk K S (upd H p o) o c) : Q (.ref p) (upd H p o) := by
  obtain ⟨q1, q2, q3, _⟩ := I.fresh hp
  exact h S _ (I.laid hp) (Ext.laid I.gd hp) p o q1 q2 hp upd_same ho q3
theorem RetR.tup_new {Q : VK} {ds : List D} {xs : List V} {p : Addr} (I : EnvOk K B S H σ ρ) (h : After K B W σ S H (OwnS σ ρ) Q (.ok (.val (.tuple ds)) ρ)) (hp : H p = none) (hd : DSs K S H xs ds) : Q (.ref p) (upd H p (.tup xs)) :=
  h S _ (I.laid hp) (Ext.laid I.gd hp) (.ref p) (.tup (.inl (.inl upd_same)) (hd.ext (Ext.laid I.gd hp)))
theorem RetR.here {Q : VK} {d : D} {v : V} (I : EnvOk K B S H σ ρ) (h : After K B W σ S H (OwnS σ ρ) Q (.ok (.val d) ρ)) (hd : DS K S H v d) : Q v H := h S H I I.refl v hd
end

/-! ### judgements -/
theorem _root_.L2.PE.imp {X : Cx} {e : Expr} {t t' : TE} (h : PE X e t) (w : ∀ σ H Q, t' σ H Q → t σ H Q) : PE X e t' := ⟨fun pins s σ H Q I q => h.run pins s σ H Q I (w _ _ _ q)⟩
theorem _root_.L2.PT.imp {X : Cx} {e : Expr} {t t' : TT} (h : PT X e t) (w : ∀ σ H Q, t' σ H Q → t σ H Q) : PT X e t' := ⟨fun pins s σ H Q I q => h.run pins s σ H Q I (w _ _ _ q)⟩
theorem _root_.L2.PW.imp {X : Cx} {e : Expr} {t t' : TT} (h : PW X e t) (w : ∀ σ H Q, t' σ H Q → t σ H Q) : PW X e t' := ⟨fun wh pins s σ H Q I q => h.run wh pins s σ H Q I (w _ _ _ q)⟩
theorem _root_.L2.PA.imp {X : Cx} {e : List Expr} {t t' : TA} (h : PA X e t) (w : ∀ σ H Q, t' σ H Q → t σ H Q) : PA X e t' := ⟨fun pos pins s σ H Q I q => h.run pos pins s σ H Q I (w _ _ _ q)⟩
theorem _root_.L2.PS.imp {X : Cx} {e : Stmt} {t t' : TS} (h : PS X e t) (w : ∀ D σ H, t' D σ H → t D σ H) : PS X e t' := ⟨fun pins s σ H D I q => h.run pins s σ H D I (w _ _ _ q)⟩
theorem _root_.L2.PSs.imp {X : Cx} {e : List Stmt} {t t' : TS} (h : PSs X e t) (w : ∀ D σ H, t' D σ H → t D σ H) : PSs X e t' := ⟨fun pins s σ H D I q => h.run pins s σ H D I (w _ _ _ q)⟩
theorem _root_.L2.PG.imp {X : Cx} {e : Expr} {t t' : TG} (h : PG X e t) (w : ∀ v σ H Q, t' v σ H Q → t v σ H Q) : PG X e t' := ⟨fun pins s σ H v u Q I r q => h.run pins s σ H v u Q I r (w _ _ _ _ q)⟩
theorem _root_.L2.PI.imp {X : Cx} {tg e : Expr} {t t' : TI} (h : PI X tg e t) (w : ∀ σ H R, t' σ H R → t σ H R) : PI X tg e t' := ⟨fun pins s σ H Q I q => h.run pins s σ H Q I (w _ _ _ q)⟩

structure XE (X : Cx) (B : Base) (W : WX) (e : Expr) (m : M) : Prop where
  pe : PE X e (rd X.K B W m)
structure XT (X : Cx) (B : Base) (W : WX) (e : Expr) (m : MT) : Prop where
  pt : PT X e (rdT X.K B W m)
structure XS (X : Cx) (B : Base) (W : WX) (st : Stmt) (m : MS) : Prop where
  ps : PS X st (rdS X.K B W m)
structure XSs (X : Cx) (B : Base) (W : WX) (st : List Stmt) (m : MS) : Prop where
  pss : PSs X st (rdS X.K B W m)

/-! ### operands: a name is read where it is used -/
inductive Opd where
  | nm (i : Nat) | ex (m : M)
inductive Hd where
  | nm (i : Nat) | dat (d : D)
def slD : Sl → Option D
  | .un => none
  | .val d => some d
  | .own c => some c.dat
  | .io c => some c.dat
  | .fz _ => none
def rhoD (ρ : Rho) (i : Nat) : Option D := match ρ[i]? with
  | some s => slD s
  | none => none
def Opd.ev : Opd → Rho → Out Hd
  | .nm i, ρ => match rhoD ρ i with
    | some _ => .ok (.nm i) ρ
    | none => .bad
  | .ex m, ρ => (m ρ).bind fun r ρ' => .ok (.dat r.dat) ρ'
def Hd.res (ρ : Rho) : Hd → Option D
  | .nm i => rhoD ρ i
  | .dat d => some d
/-- a name's value goes elsewhere -/
def mName (i : Nat) (ρ : Rho) : Out Rv := match ρ[i]? with
  | some (.val d) => .ok (.val d) ρ
  | some (.own c) => .ok (.val c.dat) (ρ.set i (.val c.dat))
  | _ => .bad
def Opd.esc : Opd → M
  | .nm i => mName i
  | .ex m => m
def XO (X : Cx) (B : Base) (W : WX) (e : Expr) : Opd → Prop
  | .nm i => PE X e (tVar i)
  | .ex m => XE X B W e m
def HdOk (K : PySem.W.Frag) (S : AS) (H : Hp) (σ : L2.St) (v : V) : Hd → Prop
  | .nm i => σ[i]? = some (some v)
  | .dat d => DS K S H v d
/-- a value that is read now -/
def DQ (K : PySem.W.Frag) (S : AS) (H : Hp) (v : V) (d : D) : Prop := DS K S H v d ∨ ∃ p o c, v = .ref p ∧ d = Oc.dat c ∧ H p = some o ∧ OcOk K S H o c
inductive DQs (K : PySem.W.Frag) (S : AS) (H : Hp) : List V → List D → Prop
  | nil : DQs K S H [] []
  | cons {v : V} {vs : List V} {d : D} {ds : List D} : DQ K S H v d → DQs K S H vs ds → DQs K S H (v :: vs) (d :: ds)
section
variable {K : PySem.W.Frag} {B : Base} {W : WX} {σ : L2.St} {S S1 O O1 : AS} {H H1 : Hp} {ρ : Rho} {v : V}
theorem HdOk.ext (e : Ext S H O S1 H1 O1) {h : Hd} (x : HdOk K S H σ v h) : HdOk K S1 H1 σ v h := by
  cases h with
  | nm i => exact x
  | dat d => exact DS.ext e x
theorem rhoD_some {i : Nat} {d : D} (h : rhoD ρ i = some d) : ∃ s, ρ[i]? = some s ∧ slD s = some d := by
  unfold rhoD at h
  cases q : ρ[i]? with
  | none => rw [q] at h; cases h
  | some s => rw [q] at h; exact ⟨s, rfl, h⟩
theorem EnvOk.read (I : EnvOk K B S H σ ρ) {i : Nat} {d : D} (h : rhoD ρ i = some d) : ∃ v, σ[i]? = some (some v) ∧ DQ K S H v d := by
  obtain ⟨s, h1, h2⟩ := rhoD_some h
  obtain ⟨v, e, z⟩ := I.at h1
  cases s with
  | un => cases h2
  | fz _ => cases h2
  | val d' => cases h2; obtain ⟨x, rfl, q⟩ := z; exact ⟨x, e, .inl q⟩
  | own c => cases h2; obtain ⟨a, o, rfl, _, _, q1, q2⟩ := z; exact ⟨_, e, .inr ⟨a, o, c, rfl, rfl, q1, q2⟩⟩
  | io c => cases h2; obtain ⟨a, o, rfl, _, _, q1, q2⟩ := z; exact ⟨_, e, .inr ⟨a, o, c, rfl, rfl, q1, q2⟩⟩
theorem HdOk.dq (I : EnvOk K B S H σ ρ) {h : Hd} {d : D} (x : HdOk K S H σ v h) (e : h.res ρ = some d) : DQ K S H v d := by
  cases h with
  | nm i =>
    obtain ⟨u, q1, q2⟩ := I.read e
    have x' : σ[i]? = some (some v) := x
    rw [x'] at q1; cases q1
    exact q2
  | dat d' => cases e; exact .inl x
theorem DQ.int {i : Int} (h : DQ K S H v (.int i)) : v = .int i := by
  rcases h with h | ⟨p, o, c, _, e, _⟩
  · cases h; rfl
  · cases c <;> cases e
theorem DQ.str {x : Str} (h : DQ K S H v (.str x)) : v = .str x := by
  rcases h with h | ⟨p, o, c, _, e, _⟩
  · cases h; rfl
  · cases c <;> cases e
theorem DQ.bool {b : Bool} (h : DQ K S H v (.bool b)) : v = .bl b := by
  rcases h with h | ⟨p, o, c, _, e, _⟩
  · cases h; rfl
  · cases c <;> cases e
theorem DQ.non (h : DQ K S H v .none) : v = .non := by
  rcases h with h | ⟨p, o, c, _, e, _⟩
  · cases h; rfl
  · cases c <;> cases e
theorem DQ.list {ds : List D} (h : DQ K S H v (.list ds)) : ∃ a xs, v = .ref a ∧ H a = some (.lst xs) ∧ DSs K S H xs ds := by
  rcases h with h | ⟨p, o, c, rfl, e, hp, hc⟩
  · cases h with | lst h1 h2 h3 => exact ⟨_, _, rfl, h2, h3⟩
  · cases c with
    | ls ds' => cases e; obtain ⟨xs, rfl, q⟩ := hc.ls; exact ⟨p, xs, rfl, hp, q⟩
    | dc _ => cases e
theorem DQ.tuple {ds : List D} (h : DQ K S H v (.tuple ds)) : ∃ a xs, v = .ref a ∧ SqT K H a xs ∧ DSs K S H xs ds := by
  rcases h with h | ⟨p, o, c, _, e, _⟩
  · cases h with | tup h1 h2 => exact ⟨_, _, rfl, h1, h2⟩
  · cases c <;> cases e
theorem DQ.dict {kvs : List (D × D)} (h : DQ K S H v (.dict kvs)) : ∃ a, v = .ref a ∧ ((∃ l, H a = some (.dK l) ∧ DKs K S H l kvs) ∨ ∃ l, H a = some (.dT l) ∧ DTs K S H l kvs) := by
  rcases h with h | ⟨p, o, c, rfl, e, hp, hc⟩
  · cases h with
    | dk h1 h2 h3 => exact ⟨_, rfl, .inl ⟨_, h2, h3⟩⟩
    | dt h1 h2 h3 => exact ⟨_, rfl, .inr ⟨_, h2, h3⟩⟩
  · cases c with
    | ls ds' => cases e
    | dc l =>
      cases e
      cases o <;> first | exact ⟨p, rfl, .inl ⟨_, hp, hc⟩⟩ | exact ⟨p, rfl, .inr ⟨_, hp, hc⟩⟩ | exact False.elim hc
theorem DQ.dp {d : D} (h : DQ K S H v d) (f : flatD d = true) : Dp K H v d := by
  rcases h with h | ⟨p, o, c, rfl, e, hp, hc⟩
  · exact h.dp _ _ f
  · cases c with
    | ls ds' =>
      cases e
      obtain ⟨xs, rfl, q⟩ := hc.ls
      exact .lst (.of hp) (q.dp _ _ (by simpa [flatD, Oc.dat] using f))
    | dc _ => subst e; simp [flatD, Oc.dat] at f
def rdO (K : PySem.W.Frag) (B : Base) (W : WX) (o : Opd) : TE := fun σ H Q => ∃ S ρ, EnvOk K B S H σ ρ ∧ AfterG K B W σ S H (OwnS σ ρ) (fun _ h ρ' S' H' => ∀ v, HdOk K S' H' σ v h → Q v H') (o.ev ρ)
end
section
variable {X : Cx} {B : Base} {W : WX} {e : Expr}
theorem XO.pe : ∀ {o : Opd}, XO X B W e o → PE X e (rdO X.K B W o)
  | .nm i, h => PE.imp h fun σ H Q ⟨S, ρ, I, q⟩ => by
    change AfterG _ _ _ _ _ _ _ _ (match rhoD ρ i with | some _ => Out.ok (Hd.nm i) ρ | none => .bad) at q
    cases hr : rhoD ρ i with
    | none => rw [hr] at q; exact q.elim
    | some d =>
      rw [hr] at q
      obtain ⟨v, h1, h2⟩ := I.read hr
      exact ⟨v, h1, q S H I I.refl v h1⟩
  | .ex m, h => PE.imp (XE.pe h) fun σ H Q ⟨S, ρ, I, q⟩ =>
    ⟨S, ρ, I, AfterG.ofV (AfterG.imp (AfterG.bind MonoR.c q) fun r ρ' S' H' I' x hr v hd => hr S' H' I' I'.refl v hd)⟩
theorem XO.xe : ∀ {o : Opd}, XO X B W e o → XE X B W e o.esc
  | .nm i, h => ⟨PE.imp h fun σ H Q ⟨S, ρ, I, q⟩ => by
    show ∃ v, _
    change AfterG _ _ _ _ _ _ _ _ (match ρ[i]? with
      | some (.val d) => Out.ok (Rv.val d) ρ
      | some (.own c) => Out.ok (Rv.val c.dat) (ρ.set i (.val c.dat))
      | _ => Out.bad) at q
    cases hr : ρ[i]? with
    | none => rw [hr] at q; exact q.elim
    | some s =>
      rw [hr] at q
      obtain ⟨v, e, z⟩ := I.at hr
      cases s with
      | un => exact q.elim
      | fz c => exact q.elim
      | io c => exact q.elim
      | val d => obtain ⟨x, rfl, z⟩ := z; exact ⟨x, e, q S H I I.refl x z⟩
      | own c =>
        obtain ⟨p, o, rfl, _, _, _, _⟩ := z
        obtain ⟨I2, hd, e2⟩ := I.demote hr e
        exact ⟨.ref p, e, q _ H I2 e2 _ hd⟩⟩
  | .ex m, h => h
end

/-! ### two operands -/
def mBin (f : D → D → Option Rv) (a b : Opd) (ρ : Rho) : Out Rv := (a.ev ρ).bind fun x ρ1 => (b.ev ρ1).bind fun y ρ2 => match x.res ρ2, y.res ρ2 with
  | some d, some e => (match f d e with
    | some r => .ok r ρ2
    | none => .bad)
  | _, _ => .bad
def mUn (f : D → Option Rv) (a : Opd) (ρ : Rho) : Out Rv := (a.ev ρ).bind fun x ρ1 => match x.res ρ1 with
  | some d => (match f d with
    | some r => .ok r ρ1
    | none => .bad)
  | _ => .bad
/-- what a rule by values asks is shown by data -/
def R2Spec (K : PySem.W.Frag) (r : R2) (f : D → D → Option Rv) : Prop :=
  ∀ (B : Base) (W : WX) (σ : L2.St) (S : AS) (H : Hp) (ρ : Rho) (x y : V) (d e : D) (rv : Rv) (Q : VK), EnvOk K B S H σ ρ → DQ K S H x d → DQ K S H y e → f d e = some rv → After K B W σ S H (OwnS σ ρ) Q (.ok rv ρ) → r x y H Q
def R1Spec (K : PySem.W.Frag) (r : V → Hp → VK → Prop) (f : D → Option Rv) : Prop :=
  ∀ (B : Base) (W : WX) (σ : L2.St) (S : AS) (H : Hp) (ρ : Rho) (x : V) (d : D) (rv : Rv) (Q : VK), EnvOk K B S H σ ρ → DQ K S H x d → f d = some rv → After K B W σ S H (OwnS σ ρ) Q (.ok rv ρ) → r x H Q
section
variable {K : PySem.W.Frag} {B : Base} {W : WX} {f : D → D → Option Rv} {a b : Opd} {r : R2}
theorem pull2 (hs : R2Spec K r f) : ∀ σ H Q, rd K B W (mBin f a b) σ H Q → tOp r (rdO K B W a) (rdO K B W b) σ H Q := fun σ H Q ⟨S, ρ, I, q⟩ => by
  refine ⟨S, ρ, I, AfterG.imp (AfterG.bind MonoR.ret q) fun x ρ1 S1 H1 I1 e1 q1 v hv => ?_⟩
  refine ⟨S1, ρ1, I1, AfterG.imp (AfterG.bind MonoR.ret q1) fun y ρ2 S3 H3 I3 e3 q3 u hu => ?_⟩
  have hv3 := hv.ext e3
  cases hx : x.res ρ2 with
  | none => rw [hx] at q3; exact q3.elim
  | some d =>
    cases hy : y.res ρ2 with
    | none => rw [hx, hy] at q3; exact q3.elim
    | some e =>
      rw [hx, hy] at q3
      dsimp only at q3
      cases hf : f d e with
      | none => rw [hf] at q3; exact q3.elim
      | some rv =>
        rw [hf] at q3
        exact hs B W σ S3 H3 ρ2 v u d e rv Q I3 (hv3.dq I3 hx) (hu.dq I3 hy) hf q3
theorem pull1 {f : D → Option Rv} {r : V → Hp → VK → Prop} (hs : R1Spec K r f) : ∀ σ H Q, rd K B W (mUn f a) σ H Q → tUn r (rdO K B W a) σ H Q := fun σ H Q ⟨S, ρ, I, q⟩ => by
  refine ⟨S, ρ, I, AfterG.imp (AfterG.bind MonoR.ret q) fun x ρ1 S1 H1 I1 e1 q1 v hv => ?_⟩
  cases hx : x.res ρ1 with
  | none => rw [hx] at q1; exact q1.elim
  | some d =>
    rw [hx] at q1
    dsimp only at q1
    cases hf : f d with
    | none => rw [hf] at q1; exact q1.elim
    | some rv =>
      rw [hf] at q1
      exact hs B W σ S1 H1 ρ1 v d rv Q I1 (hv.dq I1 hx) hf q1
end
section
variable {X : Cx} {B : Base} {W : WX} {f : D → D → Option Rv} {oa ob : Opd} {r : R2} {a b : Expr} {pos : Pos}
theorem xe_op {op : Operator} (ho : OpR X (binaryOp op) r) (hs : R2Spec X.K r f) (ha : XO X B W a oa) (hb : XO X B W b ob) : XE X B W (.BinOp a op b pos) (mBin f oa ob) :=
  ⟨(pe_op ho ha.pe hb.pe).imp (pull2 hs)⟩
theorem xe_cmp {op : CmpOp} (ho : OpR X (compareOp op) r) (hs : R2Spec X.K r f) (ha : XO X B W a oa) (hb : XO X B W b ob) (hm : behindInMarks op b = false) : XE X B W (.Compare a [op] [b] pos) (mBin f oa ob) :=
  ⟨(pe_cmpR ho ha.pe hb.pe hm).imp (pull2 hs)⟩
theorem xe_ix (ho : IxR X r) (hs : R2Spec X.K r f) (ha : XO X B W a oa) (hb : XO X B W b ob) (hp : PlainIx b) : XE X B W (.Subscript a b pos) (mBin f oa ob) :=
  ⟨(pe_ix ho ha.pe hb.pe hp).imp (pull2 hs)⟩
theorem xe_un {op : UnaryOp} {f : D → Option Rv} {r : V → Hp → VK → Prop} (ho : UnR X (unaryOp op) r) (hs : R1Spec X.K r f) (ha : XO X B W a oa) : XE X B W (.UnaryOp op a pos) (mUn f oa) :=
  ⟨(pe_un ho ha.pe).imp (pull1 hs)⟩
end

/-! ### constants -/
def mC (d : D) (ρ : Rho) : Out Rv := .ok (.val d) ρ
section
variable {X : Cx} {B : Base} {W : WX}
theorem xe_const {e : Expr} {v : V} {d : D} (h : PE X e (tC v)) (hd : ∀ S H, DS X.K S H v d) : XE X B W e (mC d) := ⟨h.imp fun σ H Q ⟨S, ρ, I, q⟩ => q S H I I.refl v (hd S H)⟩
theorem xe_int {i j pos} : XE X B W (.Constant (.int i) j pos) (mC (.int i)) := xe_const pe_int fun _ _ => .int i
theorem xe_bl {b j pos} : XE X B W (.Constant (.bool b) j pos) (mC (.bool b)) := xe_const pe_bl fun _ _ => .bl b
theorem xe_non {j pos} : XE X B W (.Constant .none j pos) (mC .none) := xe_const pe_non fun _ _ => .non
theorem xe_str {x j pos} : XE X B W (.Constant (.str x) j pos) (mC (.str x)) := xe_const pe_str fun _ _ => .str x
/-- a module's constant -/
theorem xe_glob {x : Str} {v : V} {u : Value} {d : D} {pos : Pos} (hg : Gl X x) (hm : X.mg x = some u) (r : RelV v u) (hd : ∀ S H, DS X.K S H v d) (hdb : (x == ("__debug__" : Str)) = false := by decide) : XE X B W (.Name x pos) (mC d) := xe_const (pe_glob hg hm r hdb) hd
end

/-! ### tests -/
def mTB (m : M) (ρ : Rho) : Out Bool := (m ρ).bind fun r ρ1 => match r with
  | .val (.bool b) => .ok b ρ1
  | _ => .bad
def mAnd (a b : MT) (ρ : Rho) : Out Bool := (a ρ).bind fun x ρ1 => if x then b ρ1 else .ok false ρ1
def mOr (a b : MT) (ρ : Rho) : Out Bool := (a ρ).bind fun x ρ1 => if x then .ok true ρ1 else b ρ1
def mNot (a : MT) (ρ : Rho) : Out Bool := (a ρ).bind fun x ρ1 => .ok (!x) ρ1
/-- a test as a value -/
def mV (a : MT) (ρ : Rho) : Out Rv := (a ρ).bind fun x ρ1 => .ok (.val (.bool x)) ρ1
def mIf (c : MT) (a b : M) (ρ : Rho) : Out Rv := (c ρ).bind fun x ρ1 => if x then a ρ1 else b ρ1
def truD : D → Option Bool
  | .none => some false
  | .bool b => some b
  | .int i => some (i != 0)
  | .str x => if x.length ≤ sizeLine then some ((x.length : Int) != 0) else none
  | .list ds => some (!ds.isEmpty)
  | .tuple ds => some (!ds.isEmpty)
  | .dict _ => none
def mTru (a : Opd) (ρ : Rho) : Out Bool := (a.ev ρ).bind fun x ρ1 => match x.res ρ1 with
  | some d => (match truD d with
    | some b => .ok b ρ1
    | none => .bad)
  | none => .bad
section
variable {X : Cx} {B : Base} {W : WX} {a b c : Expr} {ma mb : MT} {pos : Pos} {rest : List Expr}
/-- a comparison as a test -/
theorem xt_cmp {op : CmpOp} {r : R2} {f : D → D → Option Rv} {oa ob : Opd} (ho : OpR X (compareOp op) r) (hs : R2Spec X.K r f) (ha : XO X B W a oa) (hb : XO X B W b ob) (hm : behindInMarks op b = false) : XT X B W (.Compare a [op] [b] pos) (mTB (mBin f oa ob)) := by
  refine ⟨(pt_cmpR ho ha.pe hb.pe hm).imp fun σ H Q ⟨S, ρ, I, q⟩ => ?_⟩
  refine pull2 hs σ H _ ⟨S, ρ, I, AfterG.imp (AfterG.bind MonoR.c q) fun rv ρ1 S1 H1 I1 e1 q1 => ?_⟩
  cases rv with
  | own c => exact q1.elim
  | val d =>
    cases d <;> first
      | exact False.elim q1
      | (intro v hv; cases hv; exact ⟨_, rfl, q1 S1 H1 I1 I1.refl⟩)
theorem xt_not (h : XT X B W a ma) : XT X B W (.UnaryOp .Not a pos) (mNot ma) :=
  ⟨(pt_not h.pt).imp fun σ H Q ⟨S, ρ, I, q⟩ => ⟨S, ρ, I, AfterG.imp (AfterG.bind MonoR.c q) fun x ρ1 S1 H1 I1 e1 q1 => q1 S1 H1 I1 I1.refl⟩⟩
structure XW (X : Cx) (B : Base) (W : WX) (e : Expr) (m : MT) : Prop where
  pw : PW X e (rdT X.K B W m)
theorem xw_and1 (h : XT X B W a ma) : XW X B W (.BoolOp .And [a] pos) ma := ⟨pw_and1 h.pt⟩
theorem xw_or1 (h : XT X B W a ma) : XW X B W (.BoolOp .Or [a] pos) ma := ⟨pw_or1 h.pt⟩
theorem xw_and (h : XT X B W a ma) (g : XW X B W (.BoolOp .And (b :: rest) pos) mb) : XW X B W (.BoolOp .And (a :: b :: rest) pos) (mAnd ma mb) := by
  refine ⟨(pw_and h.pt g.pw).imp fun σ H Q ⟨S, ρ, I, q⟩ => ⟨S, ρ, I, AfterG.imp (AfterG.bind MonoR.c q) fun x ρ1 S1 H1 I1 e1 q1 => ?_⟩⟩
  cases x with
  | true => exact ⟨S1, ρ1, I1, q1⟩
  | false => exact q1 S1 H1 I1 I1.refl
theorem xw_or (h : XT X B W a ma) (g : XW X B W (.BoolOp .Or (b :: rest) pos) mb) : XW X B W (.BoolOp .Or (a :: b :: rest) pos) (mOr ma mb) := by
  refine ⟨(pw_or h.pt g.pw).imp fun σ H Q ⟨S, ρ, I, q⟩ => ⟨S, ρ, I, AfterG.imp (AfterG.bind MonoR.c q) fun x ρ1 S1 H1 I1 e1 q1 => ?_⟩⟩
  cases x with
  | true => exact q1 S1 H1 I1 I1.refl
  | false => exact ⟨S1, ρ1, I1, q1⟩
theorem XW.xt {e : Expr} {m : MT} (h : XW X B W e m) : XT X B W e m := ⟨h.pw.pt⟩
/-- and, or, not as values: of bools -/
theorem xe_one {op} {m : M} (h : XE X B W a m) : XE X B W (.BoolOp op [a] pos) m := ⟨pe_one h.pe⟩
def mAndV (a b : M) (ρ : Rho) : Out Rv := (a ρ).bind fun r ρ1 => match r with
  | .val (.bool x) => if x then b ρ1 else .ok (.val (.bool false)) ρ1
  | _ => .bad
def mOrV (a b : M) (ρ : Rho) : Out Rv := (a ρ).bind fun r ρ1 => match r with
  | .val (.bool x) => if x then .ok (.val (.bool true)) ρ1 else b ρ1
  | _ => .bad
def mNotV (a : M) (ρ : Rho) : Out Rv := (a ρ).bind fun r ρ1 => match r with
  | .val (.bool x) => .ok (.val (.bool (!x))) ρ1
  | _ => .bad
theorem xe_and {ma mb : M} (h : XE X B W a ma) (g : XE X B W (.BoolOp .And (b :: rest) pos) mb) : XE X B W (.BoolOp .And (a :: b :: rest) pos) (mAndV ma mb) := by
  refine ⟨(pe_and h.pe g.pe).imp fun σ H Q ⟨S, ρ, I, q⟩ => ⟨S, ρ, I, AfterG.imp (AfterG.bind MonoR.ret q) fun r ρ1 S1 H1 I1 e1 q1 => ?_⟩⟩
  cases r with
  | own c => exact q1.elim
  | val d =>
    cases d <;> try exact False.elim q1
    rename_i x
    intro v hv
    cases hv
    refine ⟨x, rfl, ?_⟩
    cases x with
    | true => exact ⟨S1, ρ1, I1, q1⟩
    | false => exact q1 S1 H1 I1 I1.refl _ (.bl false)
theorem xe_or {ma mb : M} (h : XE X B W a ma) (g : XE X B W (.BoolOp .Or (b :: rest) pos) mb) : XE X B W (.BoolOp .Or (a :: b :: rest) pos) (mOrV ma mb) := by
  refine ⟨(pe_or h.pe g.pe).imp fun σ H Q ⟨S, ρ, I, q⟩ => ⟨S, ρ, I, AfterG.imp (AfterG.bind MonoR.ret q) fun r ρ1 S1 H1 I1 e1 q1 => ?_⟩⟩
  cases r with
  | own c => exact q1.elim
  | val d =>
    cases d <;> try exact False.elim q1
    rename_i x
    intro v hv
    cases hv
    refine ⟨x, rfl, ?_⟩
    cases x with
    | true => exact q1 S1 H1 I1 I1.refl _ (.bl true)
    | false => exact ⟨S1, ρ1, I1, q1⟩
theorem xe_not {ma : M} (h : XE X B W a ma) : XE X B W (.UnaryOp .Not a pos) (mNotV ma) := by
  refine ⟨(pe_not h.pe).imp fun σ H Q ⟨S, ρ, I, q⟩ => ⟨S, ρ, I, AfterG.imp (AfterG.bind MonoR.ret q) fun r ρ1 S1 H1 I1 e1 q1 => ?_⟩⟩
  cases r with
  | own c => exact q1.elim
  | val d =>
    cases d <;> try exact False.elim q1
    rename_i x
    intro v hv
    cases hv
    exact ⟨x, rfl, q1 S1 H1 I1 I1.refl _ (.bl _)⟩
/-- a if t else b -/
theorem xe_ifExp {mc : MT} {ma mb : M} (hc : XT X B W c mc) (ha : XE X B W a ma) (hb : XE X B W b mb) : XE X B W (.IfExp c a b pos) (mIf mc ma mb) := by
  refine ⟨(pe_ifExp hc.pt ha.pe hb.pe).imp fun σ H Q ⟨S, ρ, I, q⟩ => ⟨S, ρ, I, AfterG.imp (AfterG.bind MonoR.ret q) fun x ρ1 S1 H1 I1 e1 q1 => ?_⟩⟩
  cases x with
  | true => exact ⟨S1, ρ1, I1, q1⟩
  | false => exact ⟨S1, ρ1, I1, q1⟩
theorem DSs.empty {K : PySem.W.Frag} {S : AS} {H : Hp} {xs : List V} {ds : List D} (h : DSs K S H xs ds) : xs.isEmpty = ds.isEmpty := by cases h <;> rfl
theorem xt_truth {o : Opd} (ha : XO X B W a o) (he : ∀ whole, isTrue a X.env whole = (do let v ← whole; standAt a.pos; holding [v] (truthy v)) := by intro _; rfl) : XT X B W a (mTru o) := by
  refine ⟨(pt_truth ha.pe he).imp fun σ H Q ⟨S, ρ, I, q⟩ => ⟨S, ρ, I, AfterG.imp (AfterG.bind MonoR.c q) fun x ρ1 S1 H1 I1 e1 q1 v hv => ?_⟩⟩
  cases hx : x.res ρ1 with
  | none => rw [hx] at q1; exact q1.elim
  | some d =>
    rw [hx] at q1
    dsimp only at q1
    cases hf : truD d with
    | none => rw [hf] at q1; exact q1.elim
    | some b =>
      rw [hf] at q1
      refine ⟨b, ?_, q1 S1 H1 I1 I1.refl⟩
      have hd := hv.dq I1 hx
      cases d with
      | none => cases hf; rw [hd.non]; rfl
      | bool c => cases hf; rw [hd.bool]; rfl
      | int i => cases hf; rw [hd.int]; rfl
      | str z =>
        rw [hd.str]
        change (if z.length ≤ sizeLine then some ((z.length : Int) != 0) else none) = some b at hf
        by_cases hz : z.length ≤ sizeLine
        · rw [if_pos hz] at hf; cases hf; exact ⟨hz, rfl⟩
        · rw [if_neg hz] at hf; cases hf
      | list ds => cases hf; obtain ⟨p, xs, rfl, h1, h2⟩ := hd.list; exact .inl ⟨xs, .of h1, by rw [h2.empty]⟩
      | tuple ds => cases hf; obtain ⟨p, xs, rfl, h1, h2⟩ := hd.tuple; exact .inr (.inl ⟨xs, h1, by rw [h2.empty]⟩)
      | dict _ => cases hf
theorem DKs.empty {K : PySem.W.Frag} {S : AS} {H : Hp} {xs : List (Key × V)} {ds : List (D × D)} (h : DKs K S H xs ds) : xs.isEmpty = ds.isEmpty := by cases h <;> rfl
theorem DTs.empty {K : PySem.W.Frag} {S : AS} {H : Hp} {xs : List (List Key × V)} {ds : List (D × D)} (h : DTs K S H xs ds) : xs.isEmpty = ds.isEmpty := by cases h <;> rfl
end
end DL
set_option Elab.async false
set_option linter.all false
set_option maxRecDepth 100000
set_option maxHeartbeats 1000000
namespace DL
open PySem PySem.Spec PyProof.Rows L2

/-! ### ints: bounds whose kernel value stops at an unknown -/
def leN (j : Int) (m : Nat) : Bool := Nat.ble j.natAbs m
def posN : Int → Bool
  | .ofNat n => Nat.ble 1 n
  | .negSucc _ => false
def nonN : Int → Bool
  | .ofNat _ => true
  | .negSucc _ => false
theorem leN_iff {j : Int} {m : Nat} : leN j m = true ↔ j.natAbs ≤ m := by unfold leN; exact ⟨Nat.le_of_ble_eq_true, Nat.ble_eq_true_of_le⟩
theorem posN_iff : ∀ {j : Int}, posN j = true ↔ 0 < j
  | .ofNat n => by
    have e : posN (.ofNat n) = Nat.ble 1 n := rfl
    rw [e]
    constructor
    · intro h; have := Nat.le_of_ble_eq_true h; show (0 : Int) < (n : Int); omega
    · intro h; have h : (0 : Int) < (n : Int) := h; exact Nat.ble_eq_true_of_le (by omega)
  | .negSucc n => ⟨fun h => (by cases h), fun h => (by have h : (0 : Int) < Int.negSucc n := h; omega)⟩
theorem nonN_iff : ∀ {j : Int}, nonN j = true ↔ 0 ≤ j
  | .ofNat n => ⟨fun _ => Int.natCast_nonneg n, fun _ => rfl⟩
  | .negSucc n => ⟨fun h => (by cases h), fun h => (by have h : (0 : Int) ≤ Int.negSucc n := h; omega)⟩
/-! ### ints -/
def fI (c : Int → Int → Bool) (g : Int → Int → Int) : D → D → Option Rv
  | .int i, .int j => if c i j then some (.val (.int (g i j))) else none
  | _, _ => none
theorem fI_some {c : Int → Int → Bool} {g : Int → Int → Int} {d e : D} {rv : Rv} (h : fI c g d e = some rv) : ∃ i j, d = .int i ∧ e = .int j ∧ c i j = true ∧ rv = .val (.int (g i j)) := by
  unfold fI at h
  split at h
  · rename_i i j
    split at h
    · rename_i hc; cases h; exact ⟨i, j, rfl, rfl, hc, rfl⟩
    · cases h
  · cases h
section
variable {K : PySem.W.Frag} {B : Base} {W : WX} {σ : L2.St} {S : AS} {H : Hp} {ρ : Rho} {Q : VK}
theorem sp_int {C : Int → Int → Prop} {c : Int → Int → Bool} {g g' : Int → Int → Int} (hc : ∀ i j, c i j = true → C i j ∧ g i j = g' i j) : R2Spec K (rI C fun i j => .int (g' i j)) (fI c g) := by
  intro B W σ S H ρ x y d e rv Q I hx hy hf q
  obtain ⟨i, j, rfl, rfl, h1, rfl⟩ := fI_some hf
  obtain ⟨h2, h3⟩ := hc i j h1
  refine ⟨i, j, hx.int, hy.int, h2, ?_⟩
  show Q (.int (g' i j)) H
  rw [← h3]
  exact RetR.here I q (.int _)
theorem sp_int0 {c : Int → Int → Bool} {g : Int → Int → Int} : R2Spec K (rI0 fun i j => .int (g i j)) (fI c g) := by
  intro B W σ S H ρ x y d e rv Q I hx hy hf q
  obtain ⟨i, j, rfl, rfl, h1, rfl⟩ := fI_some hf
  exact ⟨i, j, hx.int, hy.int, RetR.here I q (.int _)⟩
/-- two rules, two functions -/
def fOr (f g : D → D → Option Rv) : D → D → Option Rv := fun d e => match f d e with
  | some r => some r
  | none => g d e
theorem R2Spec.or {r r' : R2} {f g : D → D → Option Rv} (h : R2Spec K r f) (h' : R2Spec K r' g) : R2Spec K (fun x y H Q => r x y H Q ∨ r' x y H Q) (fOr f g) := by
  intro B W σ S H ρ x y d e rv Q I hx hy hf q
  unfold fOr at hf
  cases hq : f d e with
  | some r1 => rw [hq] at hf; cases hf; exact .inl (h B W σ S H ρ x y d e _ Q I hx hy hq q)
  | none => rw [hq] at hf; exact .inr (h' B W σ S H ρ x y d e _ Q I hx hy hf q)
end

abbrev fSub := fI (fun _ _ => true) (fun i j => i - j)
def cMul (i j : Int) : Bool := leN i 18446744073709551615 || leN j 18446744073709551615
abbrev fMulI := fI cMul (fun i j => i * j)
def cDiv (i j : Int) : Bool := posN j && leN j 1073741823
abbrev fDivP := fI cDiv (fun i j => i / j)
def cDivN (i j : Int) : Bool := !leN j 0 && leN j 1073741823
abbrev fDivN := fI cDivN (fun i j => i.fdiv j)
abbrev fModP := fI (fun _ j => posN j) (fun i j => i % j)
abbrev fModN := fI (fun _ j => !leN j 0) (fun i j => i.fmod j)
def cPow (i j : Int) : Bool := nonN j && leN j 1000000 && leN i 18446744073709551615
abbrev fPow := fI cPow (fun i j => i ^ j.toNat)
abbrev fShl := fI cPow (fun i j => i * 2 ^ j.toNat)
abbrev fShr := fI (fun _ j => nonN j) (fun i j => i / 2 ^ j.toNat)
abbrev fAnd := fI (fun _ _ => true) Builtin.bitAnd
abbrev fOrB := fI (fun _ _ => true) Builtin.bitOr
abbrev fXor := fI (fun _ _ => true) Builtin.bitXor
section
variable {K : PySem.W.Frag}
theorem sp_sub : R2Spec K (rI0 fun i j => .int (i - j)) fSub := sp_int0
theorem ba2 {a b : Bool} (h : (a && b) = true) : a = true ∧ b = true := Bool.and_eq_true_iff.mp h
theorem sp_mulI : R2Spec K (rI CMul fun i j => .int (i * j)) fMulI := sp_int fun i j h => ⟨by
  unfold cMul at h
  rw [Bool.or_eq_true, leN_iff, leN_iff] at h
  exact h.imp (fun h => ⟨by omega, by omega⟩) (fun h => ⟨by omega, by omega⟩), rfl⟩
theorem cDiv_ok {i j : Int} (h : cDiv i j = true) : CDiv i j := by
  obtain ⟨h1, h2⟩ := ba2 h
  rw [posN_iff] at h1
  rw [leN_iff] at h2
  exact ⟨h1, by omega⟩
theorem cDivN_ok {i j : Int} (h : cDivN i j = true) : CDivN i j := by
  obtain ⟨h1, h2⟩ := ba2 h
  rw [leN_iff] at h2
  refine ⟨fun e => ?_, by omega⟩
  subst e
  cases h1
theorem ne0_ok {j : Int} (h : (!leN j 0) = true) : j ≠ 0 := fun e => by subst e; cases h
theorem cPow_ok {i j : Int} (h : cPow i j = true) : CPow i j := by
  obtain ⟨h1, h3⟩ := ba2 h
  obtain ⟨h1, h2⟩ := ba2 h1
  rw [nonN_iff] at h1
  rw [leN_iff] at h2 h3
  exact ⟨h1, by omega, by omega⟩
theorem sp_div : R2Spec K (fun x y H Q => (rI CDiv fun i j => .int (i / j)) x y H Q ∨ (rI CDivN fun i j => .int (i.fdiv j)) x y H Q) (fOr fDivP fDivN) :=
  .or (sp_int fun i j h => ⟨cDiv_ok h, rfl⟩) (sp_int fun i j h => ⟨cDivN_ok h, rfl⟩)
theorem sp_mod : R2Spec K (fun x y H Q => (rI (fun _ j => 0 < j) fun i j => .int (i % j)) x y H Q ∨ (rI (fun _ j => j ≠ 0) fun i j => .int (i.fmod j)) x y H Q) (fOr fModP fModN) :=
  .or (sp_int fun i j h => ⟨posN_iff.mp h, rfl⟩) (sp_int fun i j h => ⟨ne0_ok h, rfl⟩)
theorem sp_pow : R2Spec K (rI CPow fun i j => .int (i ^ j.toNat)) fPow := sp_int fun i j h => ⟨cPow_ok h, rfl⟩
theorem sp_shl : R2Spec K (rI CPow fun i j => .int (i * 2 ^ j.toNat)) fShl := sp_int fun i j h => ⟨cPow_ok h, rfl⟩
theorem sp_shr : R2Spec K (rI (fun _ j => 0 ≤ j) fun i j => .int (i / 2 ^ j.toNat)) fShr := sp_int fun i j h => ⟨nonN_iff.mp h, rfl⟩
theorem sp_and : R2Spec K (rI0 fun i j => .int (Builtin.bitAnd i j)) fAnd := sp_int0
theorem sp_orb : R2Spec K (rI0 fun i j => .int (Builtin.bitOr i j)) fOrB := sp_int0
theorem sp_xor : R2Spec K (rI0 fun i j => .int (Builtin.bitXor i j)) fXor := sp_int0
end
section
variable {X : Cx}
theorem o_div : OpR X (binaryOp .FloorDiv) (fun x y H Q => (rI CDiv fun i j => .int (i / j)) x y H Q ∨ (rI CDivN fun i j => .int (i.fdiv j)) x y H Q) := op_fdiv.or op_fdivN
theorem o_mod : OpR X (binaryOp .Mod) (fun x y H Q => (rI (fun _ j => 0 < j) fun i j => .int (i % j)) x y H Q ∨ (rI (fun _ j => j ≠ 0) fun i j => .int (i.fmod j)) x y H Q) := op_mod.or op_modN
end

/-! ### + of texts, tuples, lists -/
abbrev fAddI := fI (fun _ _ => true) (fun i j => i + j)
def fAddS : D → D → Option Rv
  | .str x, .str y => if x.length + y.length ≤ sizeLine then some (.val (.str (x ++ y))) else none
  | _, _ => none
def fAddT : D → D → Option Rv
  | .tuple a, .tuple b => if a.length + b.length ≤ sizeLine then some (.val (.tuple (a ++ b))) else none
  | _, _ => none
def fAddL : D → D → Option Rv
  | .list a, .list b => if a.length + b.length ≤ sizeLine then some (.own (.ls (a ++ b))) else none
  | _, _ => none
def rCatS : R2 := fun x y H Q => ∃ i j, x = .str i ∧ y = .str j ∧ i.length + j.length ≤ sizeLine ∧ Q (.str (i ++ j)) H
section
variable {K : PySem.W.Frag}
theorem sp_addI : R2Spec K (rI0 fun i j => .int (i + j)) fAddI := sp_int0
theorem sp_addS : R2Spec K rCatS fAddS := by
  intro B W σ S H ρ x y d e rv Q I hx hy hf q
  unfold fAddS at hf
  split at hf
  · rename_i i j
    split at hf
    · rename_i hl; cases hf; exact ⟨i, j, hx.str, hy.str, hl, RetR.here I q (.str _)⟩
    · cases hf
  · cases hf
theorem sp_addT : R2Spec K (rCatA K) fAddT := by
  intro B W σ S H ρ x y d e rv Q I hx hy hf q
  unfold fAddT at hf
  split at hf
  · rename_i i j
    split at hf
    · rename_i hl
      cases hf
      obtain ⟨a, xs, rfl, ha, da⟩ := hx.tuple
      obtain ⟨b, ys, rfl, hb, db⟩ := hy.tuple
      refine ⟨a, b, xs, ys, rfl, rfl, ha, hb, by rw [da.length, db.length]; exact hl, fun e => ?_, fun _ e => ?_, fun _ _ p hp => RetR.tup_new I q hp (da.append db)⟩
      · subst e
        cases da
        exact RetR.here I q (.tup hb db)
      · subst e
        cases db
        rw [List.append_nil] at q
        exact RetR.here I q (.tup ha da)
    · cases hf
  · cases hf
theorem sp_addL : R2Spec K rCat fAddL := by
  intro B W σ S H ρ x y d e rv Q I hx hy hf q
  unfold fAddL at hf
  split at hf
  · rename_i i j
    split at hf
    · rename_i hl
      cases hf
      obtain ⟨a, xs, rfl, ha, da⟩ := hx.list
      obtain ⟨b, ys, rfl, hb, db⟩ := hy.list
      exact ⟨a, b, xs, ys, rfl, rfl, ha, hb, by rw [da.length, db.length]; exact hl, fun p hp => RetR.own_new I q hp ((da.append db).ext (Ext.laid I.gd hp))⟩
    · cases hf
  · cases hf
end
abbrev fAdd : D → D → Option Rv := fOr fAddI (fOr fAddS (fOr fAddT fAddL))
abbrev rAddA (K : PySem.W.Frag) : R2 := fun x y H Q => (rI0 fun i j => .int (i + j)) x y H Q ∨ (rCatS x y H Q ∨ (rCatA K x y H Q ∨ rCat x y H Q))
theorem sp_add {K : PySem.W.Frag} : R2Spec K (rAddA K) fAdd := .or sp_addI (.or sp_addS (.or sp_addT sp_addL))
theorem o_add {X : Cx} : OpR X (binaryOp .Add) (rAddA X.K) := op_add.or (op_add_str.or (op_catA.or op_cat))

/-! ### * of lists, tuples -/
def fRepL : D → D → Option Rv
  | .list a, .int k => if leN k 9223372036854775807 = true ∧ a.length * k.toNat ≤ sizeLine then some (.own (.ls (List.replicate k.toNat a).flatten)) else none
  | _, _ => none
def fRepT : D → D → Option Rv
  | .tuple a, .int k => if a ≠ [] ∧ posN (k - 1) = true ∧ leN k 1000 = true ∧ a.length ≤ 1000 then some (.val (.tuple (List.replicate k.toNat a).flatten)) else none
  | _, _ => none
theorem DSs.rep {K : PySem.W.Frag} {S : AS} {H : Hp} {xs : List V} {ds : List D} (h : DSs K S H xs ds) : ∀ k : Nat, DSs K S H (List.replicate k xs).flatten (List.replicate k ds).flatten
  | 0 => .nil
  | k + 1 => by
    rw [List.replicate_succ, List.replicate_succ, List.flatten_cons, List.flatten_cons]
    exact h.append (DSs.rep h k)
section
variable {K : PySem.W.Frag}
theorem sp_repL : R2Spec K rRep fRepL := by
  intro B W σ S H ρ x y d e rv Q I hx hy hf q
  unfold fRepL at hf
  split at hf
  · rename_i i j
    split at hf
    · rename_i hl
      cases hf
      obtain ⟨a, xs, rfl, ha, da⟩ := hx.list
      exact ⟨a, j, xs, rfl, hy.int, ha, by have := leN_iff.mp hl.1; omega, by have := leN_iff.mp hl.1; omega, by rw [da.length]; exact hl.2, fun p hp => RetR.own_new I q hp ((da.rep _).ext (Ext.laid I.gd hp))⟩
    · cases hf
  · cases hf
theorem sp_repT : R2Spec K (rRepT K) fRepT := by
  intro B W σ S H ρ x y d e rv Q I hx hy hf q
  unfold fRepT at hf
  split at hf
  · rename_i i j
    split at hf
    · rename_i hl
      cases hf
      obtain ⟨a, xs, rfl, ha, da⟩ := hx.tuple
      refine ⟨a, j, xs, rfl, hy.int, ha, fun z => ?_, by have := posN_iff.mp hl.2.1; omega, by have := leN_iff.mp hl.2.2.1; omega, by rw [da.length]; exact hl.2.2.2, fun p hp => RetR.tup_new I q hp (da.rep _)⟩
      subst z
      cases da
      exact hl.1 rfl
    · cases hf
  · cases hf
end
abbrev fMul : D → D → Option Rv := fOr fMulI (fOr fRepL fRepT)
abbrev rMulA (K : PySem.W.Frag) : R2 := fun x y H Q => (rI CMul fun i j => .int (i * j)) x y H Q ∨ (rRep x y H Q ∨ rRepT K x y H Q)
theorem sp_mul {K : PySem.W.Frag} : R2Spec K (rMulA K) fMul := .or sp_mulI (.or sp_repL sp_repT)
theorem o_mul {X : Cx} : OpR X (binaryOp .Mult) (rMulA X.K) := op_mul.or (op_rep.or op_repT)

/-! ### -x -/
def fNeg : D → Option Rv
  | .int i => some (.val (.int (-i)))
  | _ => none
theorem sp_neg {K : PySem.W.Frag} : R1Spec K (rU fun i => .int (-i)) fNeg := by
  intro B W σ S H ρ x d rv Q I hx hf q
  unfold fNeg at hf
  split at hf
  · cases hf; exact ⟨_, hx.int, RetR.here I q (.int _)⟩
  · cases hf

/-! ### == and != -/
def scD : D → Bool
  | .none => true
  | .bool _ => true
  | .int _ => true
  | .str _ => true
  | _ => false
def eqS : D → D → Option Bool
  | .none, .none => some true
  | .bool a, .bool b => some (decide (a = b))
  | .int a, .int b => some (decide (a = b))
  | .str a, .str b => some (decide (a = b))
  | _, _ => none
def eqB (d e : D) : Option Bool := match eqS d e with
  | some b => some b
  | none => if SeqAt.shaped d && SeqAt.shaped e then some (PyData.eqv d e) else none
def fEq (d e : D) : Option Rv := (eqB d e).map fun b => .val (.bool b)
def fNe (d e : D) : Option Rv := (eqB d e).map fun b => .val (.bool (!b))
mutual
theorem flat_of_lay : ∀ d : D, d.canLay0 = true → flatD d = true
  | .none, _ => rfl
  | .bool _, _ => rfl
  | .int _, _ => rfl
  | .str _, _ => rfl
  | .list ds, h => by
    have h2 : PyData.canLayAll0 ds = true := by simpa [PyData.canLay0] using h
    simpa [flatD] using flat_of_layAll ds h2
  | .tuple ds, h => by
    have h2 : PyData.canLayAll0 ds = true := by simpa [PyData.canLay0] using h
    simpa [flatD] using flat_of_layAll ds h2
  | .dict _, h => by simp [PyData.canLay0] at h
theorem flat_of_layAll : ∀ ds : List D, PyData.canLayAll0 ds = true → flatDs ds = true
  | [], _ => rfl
  | d :: ds, h => by
    have h2 : d.canLay0 = true ∧ PyData.canLayAll0 ds = true := by simpa [PyData.canLayAll0] using h
    simp only [flatDs, Bool.and_eq_true]
    exact ⟨flat_of_lay d h2.1, flat_of_layAll ds h2.2⟩
end
theorem flat_of_shaped {d : D} (h : SeqAt.shaped d = true) : flatD d = true := flat_of_lay d (SeqAt.canLay_of_shaped h)
section
variable {K : PySem.W.Frag} {S : AS} {H : Hp} {x y : V} {d e : D} {b : Bool}
theorem eqS_scal (h : eqS d e = some b) (hx : DQ K S H x d) (hy : DQ K S H y e) : scal x y = true ∧ decide (x = y) = b := by
  unfold eqS at h
  split at h <;> cases h
  · rw [hx.non, hy.non]; exact ⟨rfl, rfl⟩
  · rw [hx.bool, hy.bool]; exact ⟨rfl, by simp⟩
  · rw [hx.int, hy.int]; exact ⟨rfl, by simp⟩
  · rw [hx.str, hy.str]; exact ⟨rfl, by simp⟩
theorem eqB_or (h : eqB d e = some b) (hx : DQ K S H x d) (hy : DQ K S H y e) : (scal x y = true ∧ decide (x = y) = b) ∨ (Dp K H x d ∧ Dp K H y e ∧ SeqAt.shaped d = true ∧ SeqAt.shaped e = true ∧ PyData.eqv d e = b) := by
  unfold eqB at h
  split at h
  · rename_i z hz; cases h; exact .inl (eqS_scal hz hx hy)
  · split at h
    · rename_i hs
      cases h
      rw [Bool.and_eq_true] at hs
      exact .inr ⟨hx.dp (flat_of_shaped hs.1), hy.dp (flat_of_shaped hs.2), hs.1, hs.2, rfl⟩
    · cases h
end
abbrev rEqA (K : PySem.W.Frag) : R2 := fun x y H Q => rEq x y H Q ∨ rEqD K x y H Q
abbrev rNeA (K : PySem.W.Frag) : R2 := fun x y H Q => rNe x y H Q ∨ rNeD K x y H Q
theorem sp_eq {K : PySem.W.Frag} : R2Spec K (rEqA K) fEq := by
  intro B W σ S H ρ x y d e rv Q I hx hy hf q
  unfold fEq at hf
  cases hb : eqB d e with
  | none => rw [hb] at hf; cases hf
  | some b =>
    rw [hb] at hf
    cases hf
    have z := RetR.here I q (.bl b)
    rcases eqB_or hb hx hy with ⟨h1, h2⟩ | ⟨h1, h2, h3, h4, h5⟩
    · exact .inl ⟨h1, by rw [h2]; exact z⟩
    · exact .inr ⟨d, e, h1, h2, h3, h4, by rw [h5]; exact z⟩
theorem sp_ne {K : PySem.W.Frag} : R2Spec K (rNeA K) fNe := by
  intro B W σ S H ρ x y d e rv Q I hx hy hf q
  unfold fNe at hf
  cases hb : eqB d e with
  | none => rw [hb] at hf; cases hf
  | some b =>
    rw [hb] at hf
    cases hf
    have z := RetR.here I q (.bl (!b))
    rcases eqB_or hb hx hy with ⟨h1, h2⟩ | ⟨h1, h2, h3, h4, h5⟩
    · exact .inl ⟨h1, by rw [h2]; exact z⟩
    · exact .inr ⟨d, e, h1, h2, h3, h4, by rw [h5]; exact z⟩
theorem room64 {A : Around} {k : Nat} (hr : Room k A) : A.units + 65 < cLine := by have := hr.un; omega
theorem o_eq {X : Cx} {k : Nat} (hr : Room k X.A) : OpR X (compareOp .Eq) (rEqA X.K) := op_eq.or (op_eqD hr.units)
theorem o_ne {X : Cx} {k : Nat} (hr : Room k X.A) : OpR X (compareOp .NotEq) (rNeA X.K) := op_ne.or (op_neD hr.units)

/-! ### < and its like, of ints -/
def fCmp (p : Int → Int → Bool) : D → D → Option Rv
  | .int i, .int j => some (.val (.bool (p i j)))
  | _, _ => none
theorem sp_cmp {K : PySem.W.Frag} {p : Int → Int → Bool} : R2Spec K (rI0 fun i j => .bl (p i j)) (fCmp p) := by
  intro B W σ S H ρ x y d e rv Q I hx hy hf q
  unfold fCmp at hf
  split at hf
  · cases hf; exact ⟨_, _, hx.int, hy.int, RetR.here I q (.bl _)⟩
  · cases hf
abbrev fLt := fCmp fun i j => decide (i < j)
abbrev fLe := fCmp fun i j => decide (i ≤ j)
abbrev fGt := fCmp fun i j => decide (j < i)
abbrev fGe := fCmp fun i j => decide (j ≤ i)

/-! ### is, is not: of None and of bools -/
def noneB : D → Bool
  | .none => true
  | _ => false
def isB : D → D → Option Bool
  | d, .none => some (noneB d)
  | .bool a, .bool b => some (decide (a = b))
  | _, _ => none
def fIs (d e : D) : Option Rv := (isB d e).map fun b => .val (.bool b)
def fIsNot (d e : D) : Option Rv := (isB d e).map fun b => .val (.bool (!b))
def rIsB : R2 := fun x y H Q => ∃ a b, x = .bl a ∧ y = .bl b ∧ Q (.bl (decide (a = b))) H
def rIsNB : R2 := fun x y H Q => ∃ a b, x = .bl a ∧ y = .bl b ∧ Q (.bl (!decide (a = b))) H
def rIsN : R2 := fun x y H Q => y = .non ∧ Q (.bl (decide (x = .non))) H
def rIsNN : R2 := fun x y H Q => y = .non ∧ Q (.bl (!decide (x = .non))) H
section
variable {K : PySem.W.Frag} {S : AS} {H : Hp} {x y : V} {d e : D} {b : Bool}
theorem DQ.isNone (h : DQ K S H x d) : decide (x = .non) = noneB d := by
  cases d with
  | none => rw [h.non]; rfl
  | bool b => rw [h.bool]; rfl
  | int b => rw [h.int]; rfl
  | str b => rw [h.str]; rfl
  | list b => obtain ⟨a, _, rfl, _⟩ := h.list; rfl
  | tuple b => obtain ⟨a, _, rfl, _⟩ := h.tuple; rfl
  | dict b => obtain ⟨a, rfl, _⟩ := h.dict; rfl
theorem isB_or (h : isB d e = some b) (hx : DQ K S H x d) (hy : DQ K S H y e) : (∃ p q, x = .bl p ∧ y = .bl q ∧ decide (p = q) = b) ∨ (y = .non ∧ decide (x = .non) = b) := by
  unfold isB at h
  split at h
  · cases h; exact .inr ⟨hy.non, hx.isNone⟩
  · cases h; exact .inl ⟨_, _, hx.bool, hy.bool, rfl⟩
  · cases h
end
theorem sp_is {K : PySem.W.Frag} : R2Spec K (fun x y H Q => rIsB x y H Q ∨ rIsN x y H Q) fIs := by
  intro B W σ S H ρ x y d e rv Q I hx hy hf q
  unfold fIs at hf
  cases hb : isB d e with
  | none => rw [hb] at hf; cases hf
  | some b =>
    rw [hb] at hf
    cases hf
    have z := RetR.here I q (.bl b)
    rcases isB_or hb hx hy with ⟨p, r, h1, h2, h3⟩ | ⟨h1, h2⟩
    · exact .inl ⟨p, r, h1, h2, by rw [h3]; exact z⟩
    · exact .inr ⟨h1, by rw [h2]; exact z⟩
theorem sp_isnot {K : PySem.W.Frag} : R2Spec K (fun x y H Q => rIsNB x y H Q ∨ rIsNN x y H Q) fIsNot := by
  intro B W σ S H ρ x y d e rv Q I hx hy hf q
  unfold fIsNot at hf
  cases hb : isB d e with
  | none => rw [hb] at hf; cases hf
  | some b =>
    rw [hb] at hf
    cases hf
    have z := RetR.here I q (.bl (!b))
    rcases isB_or hb hx hy with ⟨p, r, h1, h2, h3⟩ | ⟨h1, h2⟩
    · exact .inl ⟨p, r, h1, h2, by rw [h3]; exact z⟩
    · exact .inr ⟨h1, by rw [h2]; exact z⟩
theorem o_is {X : Cx} : OpR X (compareOp .Is) (fun x y H Q => rIsB x y H Q ∨ rIsN x y H Q) := op_is_bl.or op_isN
theorem o_isnot {X : Cx} : OpR X (compareOp .IsNot) (fun x y H Q => rIsNB x y H Q ∨ rIsNN x y H Q) := op_isnot_bl.or op_notN

/-! ### in, not in -/
def scV : D → V
  | .bool b => .bl b
  | .int i => .int i
  | .str x => .str x
  | _ => .non
theorem DQ.sc {K : PySem.W.Frag} {S : AS} {H : Hp} {x : V} {d : D} (hx : DQ K S H x d) (h : scD d = true) : x = scV d := by
  cases d with
  | none => exact hx.non
  | bool b => exact hx.bool
  | int b => exact hx.int
  | str b => exact hx.str
  | _ => cases h
theorem scV_flat {d : D} (h : scD d = true) : flatV (scV d) = true := by
  cases d <;> first | rfl | cases h
theorem scV_eq {d e : D} (h : scD d = true) (g : scD e = true) : eqV (scV d) (scV e) = PyData.eqv d e := by
  cases d with
  | none => cases e <;> first | (simp only [scV, eqV, PyData.eqv]; done) | cases g
  | bool b => cases e <;> first | (simp only [scV, eqV, PyData.eqv]; done) | cases g
  | int b => cases e <;> first | (simp only [scV, eqV, PyData.eqv]; done) | cases g
  | str b => cases e <;> first | (simp only [scV, eqV, PyData.eqv]; done) | cases g
  | _ => cases h
/-- the items of a list or tuple -/
def itD : D → Option (List D)
  | .list ds => some ds
  | .tuple ds => some ds
  | _ => none
def inFlat (d e : D) : Option Bool := match itD e with
  | some ds => if scD d && ds.all scD then some (ds.any fun z => PyData.eqv z d) else none
  | none => none
def inData (d e : D) : Option Bool := match itD e with
  | some ds => if SeqAt.shaped d && SeqAt.shaped e then some (ds.any fun z => PyData.eqv z d) else none
  | none => none
def inSign : D → D → Option Bool
  | .str x, .str y => match x.cps.toList with
    | [c] => some (decide (c ∈ y.cps.toList))
    | _ => none
  | _, _ => none
def ofB (f : D → D → Option Bool) : D → D → Option Rv := fun d e => (f d e).map fun b => .val (.bool b)
def ofNB (f : D → D → Option Bool) : D → D → Option Rv := fun d e => (f d e).map fun b => .val (.bool (!b))
/-- a rule that answers with a bool -/
theorem sp_ofB {K : PySem.W.Frag} {f : D → D → Option Bool} {r : R2} (h : ∀ S H x y d e b (Q : VK), DQ K S H x d → DQ K S H y e → f d e = some b → Q (.bl b) H → r x y H Q) : R2Spec K r (ofB f) := by
  intro B W σ S H ρ x y d e rv Q I hx hy hf q
  unfold ofB at hf
  cases hb : f d e with
  | none => rw [hb] at hf; cases hf
  | some b =>
    rw [hb] at hf
    cases hf
    exact h S H x y d e b Q hx hy hb (RetR.here I q (.bl b))
theorem sp_ofNB {K : PySem.W.Frag} {f : D → D → Option Bool} {r : R2} (h : ∀ S H x y d e b (Q : VK), DQ K S H x d → DQ K S H y e → f d e = some b → Q (.bl (!b)) H → r x y H Q) : R2Spec K r (ofNB f) := by
  intro B W σ S H ρ x y d e rv Q I hx hy hf q
  unfold ofNB at hf
  cases hb : f d e with
  | none => rw [hb] at hf; cases hf
  | some b =>
    rw [hb] at hf
    cases hf
    exact h S H x y d e b Q hx hy hb (RetR.here I q (.bl (!b)))
section
variable {K : PySem.W.Frag} {S : AS} {H : Hp} {x y : V} {d e : D} {b : Bool}
theorem sc_flat {x y : V} {d e : D} (h : scD d = true) (g : scD e = true) (hx : DQ K S H x d) (hy : DQ K S H y e) : flatV x = true ∧ flatV y = true ∧ eqV x y = PyData.eqv d e := by
  rw [hx.sc h, hy.sc g]
  exact ⟨scV_flat h, scV_flat g, scV_eq h g⟩
theorem scs_flat {x : V} {d : D} (h : scD d = true) (hx : DQ K S H x d) : ∀ {xs : List V} {ds : List D}, DSs K S H xs ds → ds.all scD = true → xs.all flatV = true ∧ inV x xs = ds.any fun z => PyData.eqv z d
  | _, _, .nil, _ => ⟨rfl, rfl⟩
  | v :: vs, c :: cs, .cons r t, g => by
    rw [List.all_cons, Bool.and_eq_true] at g
    obtain ⟨f1, f2, f3⟩ := sc_flat g.1 h (.inl r) hx
    obtain ⟨t1, t2⟩ := scs_flat h hx t g.2
    refine ⟨by rw [List.all_cons, f1, t1]; rfl, ?_⟩
    unfold inV at t2 ⊢
    rw [List.any_cons, List.any_cons, f3, t2]
theorem itD_dq {ds : List D} (h : itD e = some ds) (hy : DQ K S H y e) : ∃ p xs, y = .ref p ∧ (SqL K H p xs ∨ SqT K H p xs) ∧ DSs K S H xs ds := by
  cases e <;> cases h
  · obtain ⟨a, xs, rfl, h1, h2⟩ := hy.list; exact ⟨a, xs, rfl, .inl (.of h1), h2⟩
  · obtain ⟨a, xs, rfl, h1, h2⟩ := hy.tuple; exact ⟨a, xs, rfl, .inr h1, h2⟩
theorem inFlat_ok (h : inFlat d e = some b) (hx : DQ K S H x d) (hy : DQ K S H y e) : ∃ p xs, y = .ref p ∧ (SqL K H p xs ∨ SqT K H p xs) ∧ flatV x = true ∧ xs.all flatV = true ∧ inV x xs = b := by
  unfold inFlat at h
  split at h
  · rename_i ds hd
    split at h
    · rename_i hs
      cases h
      rw [Bool.and_eq_true] at hs
      obtain ⟨p, xs, rfl, h1, h2⟩ := itD_dq hd hy
      obtain ⟨g1, g2⟩ := scs_flat hs.1 hx h2 hs.2
      exact ⟨p, xs, rfl, h1, (sc_flat hs.1 hs.1 hx hx).1, g1, g2⟩
    · cases h
  · cases h
end
/-- x in data, in a list or in a tuple -/
def rInA (K : PySem.W.Frag) (neg : Bool) : R2 := fun x y H Q => ∃ d e ds, Dp K H x d ∧ Dp K H y e ∧ itD e = some ds ∧ SeqAt.shaped d = true ∧ SeqAt.shaped e = true ∧ Q (.bl (if neg then !(ds.any fun z => PyData.eqv z d) else ds.any fun z => PyData.eqv z d)) H
section
variable {X : Cx} {k : Nat}
theorem o_inA (hr : Room k X.A) : OpR X (compareOp .In) (rInA X.K false) := by
  intro pins s σ H x y v u Q I rx ry h
  obtain ⟨d, e, ds, hd, he, hi, sd, se, q⟩ := h
  obtain ⟨as, r1⟩ := Dp.reads I d x v hd rx
  obtain ⟨bs, r2⟩ := Dp.reads I e y u he ry
  cases e <;> cases hi
  · exact SeqAt.in_list_reads r2 r1 (SeqAt.canLay_of_shaped se) (SeqAt.canLay_of_shaped sd) (room_in_shaped sd (room64 hr)) ⟨.bl _, H, I, rfl, q⟩
  · exact SeqAt.in_tuple_reads r2 r1 (SeqAt.canLay_of_shaped se) (SeqAt.canLay_of_shaped sd) (room_in_shaped sd (room64 hr)) ⟨.bl _, H, I, rfl, q⟩
theorem o_ninA (hr : Room k X.A) : OpR X (compareOp .NotIn) (rInA X.K true) := by
  intro pins s σ H x y v u Q I rx ry h
  obtain ⟨d, e, ds, hd, he, hi, sd, se, q⟩ := h
  obtain ⟨as, r1⟩ := Dp.reads I d x v hd rx
  obtain ⟨bs, r2⟩ := Dp.reads I e y u he ry
  cases e <;> cases hi
  · exact SeqAt.notIn_list_reads r2 r1 (SeqAt.canLay_of_shaped se) (SeqAt.canLay_of_shaped sd) (room_in_shaped sd (room64 hr)) ⟨.bl _, H, I, rfl, q⟩
  · exact SeqAt.notIn_tuple_reads r2 r1 (SeqAt.canLay_of_shaped se) (SeqAt.canLay_of_shaped sd) (room_in_shaped sd (room64 hr)) ⟨.bl _, H, I, rfl, q⟩
end
section
variable {K : PySem.W.Frag}
theorem inData_ok {S : AS} {H : Hp} {x y : V} {d e : D} {b : Bool} (h : inData d e = some b) (hx : DQ K S H x d) (hy : DQ K S H y e) : ∃ ds, Dp K H x d ∧ Dp K H y e ∧ itD e = some ds ∧ SeqAt.shaped d = true ∧ SeqAt.shaped e = true ∧ (ds.any fun z => PyData.eqv z d) = b := by
  unfold inData at h
  split at h
  · rename_i ds hd
    split at h
    · rename_i hs
      cases h
      rw [Bool.and_eq_true] at hs
      exact ⟨ds, hx.dp (flat_of_shaped hs.1), hy.dp (flat_of_shaped hs.2), hd, hs.1, hs.2, rfl⟩
    · cases h
  · cases h
theorem inSign_ok {S : AS} {H : Hp} {x y : V} {d e : D} {b : Bool} (h : inSign d e = some b) (hx : DQ K S H x d) (hy : DQ K S H y e) : ∃ c z, x = .str ⟨#[c]⟩ ∧ y = .str z ∧ decide (c ∈ z.cps.toList) = b := by
  unfold inSign at h
  split at h
  · rename_i p q
    split at h
    · rename_i c hc
      cases h
      refine ⟨c, q, ?_, hy.str, rfl⟩
      rw [hx.str]
      obtain ⟨⟨l⟩⟩ := p
      have hc' : l = [c] := hc
      rw [hc']
    · cases h
  · cases h
end
abbrev fInB (d e : D) : Option Bool := match inFlat d e with
  | some b => some b
  | none => match inData d e with
    | some b => some b
    | none => inSign d e
def rSignIn : R2 := fun x y H Q => ∃ (c : Nat) (z : Str), x = .str ⟨#[c]⟩ ∧ y = .str z ∧ Q (.bl (decide (c ∈ z.cps.toList))) H
def rSignNin : R2 := fun x y H Q => ∃ (c : Nat) (z : Str), x = .str ⟨#[c]⟩ ∧ y = .str z ∧ Q (.bl (!decide (c ∈ z.cps.toList))) H
abbrev rInAll (K : PySem.W.Frag) : R2 := fun x y H Q => rIn K false x y H Q ∨ (rInA K false x y H Q ∨ rSignIn x y H Q)
abbrev rNinAll (K : PySem.W.Frag) : R2 := fun x y H Q => rIn K true x y H Q ∨ (rInA K true x y H Q ∨ rSignNin x y H Q)
theorem fInB_or {K : PySem.W.Frag} {S : AS} {H : Hp} {x y : V} {d e : D} {b : Bool} (h : fInB d e = some b) : inFlat d e = some b ∨ inData d e = some b ∨ inSign d e = some b := by
  unfold fInB at h
  split at h
  · rename_i z hz; cases h; exact .inl hz
  · split at h
    · rename_i z hz; cases h; exact .inr (.inl hz)
    · exact .inr (.inr h)
theorem sp_in {K : PySem.W.Frag} : R2Spec K (rInAll K) (ofB fInB) := sp_ofB fun S H x y d e b Q hx hy hf q => by
  rcases fInB_or (K := K) (S := S) (H := H) (x := x) (y := y) hf with h | h | h
  · obtain ⟨p, xs, h1, h2, h3, h4, h5⟩ := inFlat_ok h hx hy
    exact .inl ⟨p, xs, h1, h2, h3, h4, by rw [h5]; exact q⟩
  · obtain ⟨ds, h1, h2, h3, h4, h5, h6⟩ := inData_ok h hx hy
    exact .inr (.inl ⟨d, e, ds, h1, h2, h3, h4, h5, by rw [h6]; exact q⟩)
  · obtain ⟨c, z, h1, h2, h3⟩ := inSign_ok h hx hy
    exact .inr (.inr ⟨c, z, h1, h2, by rw [h3]; exact q⟩)
theorem sp_nin {K : PySem.W.Frag} : R2Spec K (rNinAll K) (ofNB fInB) := sp_ofNB fun S H x y d e b Q hx hy hf q => by
  rcases fInB_or (K := K) (S := S) (H := H) (x := x) (y := y) hf with h | h | h
  · obtain ⟨p, xs, h1, h2, h3, h4, h5⟩ := inFlat_ok h hx hy
    exact .inl ⟨p, xs, h1, h2, h3, h4, by rw [h5]; exact q⟩
  · obtain ⟨ds, h1, h2, h3, h4, h5, h6⟩ := inData_ok h hx hy
    exact .inr (.inl ⟨d, e, ds, h1, h2, h3, h4, h5, by rw [h6]; exact q⟩)
  · obtain ⟨c, z, h1, h2, h3⟩ := inSign_ok h hx hy
    exact .inr (.inr ⟨c, z, h1, h2, by rw [h3]; exact q⟩)
theorem o_in {X : Cx} {k : Nat} (hr : Room k X.A) : OpR X (compareOp .In) (rInAll X.K) := op_in_seq.or ((o_inA hr).or op_in_sign)
theorem o_nin {X : Cx} {k : Nat} (hr : Room k X.A) : OpR X (compareOp .NotIn) (rNinAll X.K) := op_notIn_seq.or ((o_ninA hr).or op_notIn_sign)

/-! ### items -/
def fIx : D → D → Option Rv
  | .list ds, .int i => (atI ds i).map .val
  | .tuple ds, .int i => (atI ds i).map .val
  | .str z, .int i => if z.length ≤ sizeLine then (atI z.cps.toList i).map fun c => .val (.str ⟨#[c]⟩) else none
  | _, _ => none
theorem DSs.atI {K : PySem.W.Frag} {S : AS} {H : Hp} {xs : List V} {ds : List D} {i : Int} {d : D} (h : DSs K S H xs ds) (e : atI ds i = some d) : ∃ v, L2.atI xs i = some v ∧ DS K S H v d := by
  unfold L2.atI at e ⊢
  rw [h.length]
  cases q : ixN ds.length i with
  | none => rw [q] at e; cases e
  | some j =>
    rw [q] at e
    exact h.get e
theorem sp_ix {K : PySem.W.Frag} : R2Spec K (rIx K) fIx := by
  intro B W σ S H ρ x y d e rv Q I hx hy hf q
  unfold fIx at hf
  split at hf
  · rename_i ds i
    cases hd : atI ds i with
    | none => rw [hd] at hf; cases hf
    | some z =>
      rw [hd] at hf
      cases hf
      obtain ⟨a, xs, rfl, h1, h2⟩ := hx.list
      obtain ⟨v, h3, h4⟩ := h2.atI hd
      exact .inl ⟨a, xs, i, v, rfl, hy.int, .of h1, h3, RetR.here I q h4⟩
  · rename_i ds i
    cases hd : atI ds i with
    | none => rw [hd] at hf; cases hf
    | some z =>
      rw [hd] at hf
      cases hf
      obtain ⟨a, xs, rfl, h1, h2⟩ := hx.tuple
      obtain ⟨v, h3, h4⟩ := h2.atI hd
      exact .inr (.inl ⟨a, xs, i, v, rfl, hy.int, h1, h3, RetR.here I q h4⟩)
  · rename_i z i
    split at hf
    · rename_i hz
      cases hd : atI z.cps.toList i with
      | none => rw [hd] at hf; cases hf
      | some c =>
        rw [hd] at hf
        cases hf
        exact .inr (.inr ⟨z, i, c, hx.str, hy.int, hz, hd, RetR.here I q (.str _)⟩)
    · cases hf
  · cases hf
end DL
set_option Elab.async false
set_option linter.all false
set_option maxRecDepth 100000
set_option maxHeartbeats 1000000
namespace DL
open PySem PySem.Spec PyProof.Rows L2 StX

/-! ### arguments that are read -/
inductive XOs (X : Cx) (B : Base) (W : WX) : List Expr → List Opd → Prop
  | nil : XOs X B W [] []
  | cons {e : Expr} {es : List Expr} {o : Opd} {os : List Opd} : XO X B W e o → XOs X B W es os → starEach (e :: es) X.env = (false, eval e X.env) :: starEach es X.env → XOs X B W (e :: es) (o :: os)
def tOs (K : PySem.W.Frag) (B : Base) (W : WX) : List Opd → TA
  | [] => tNil
  | o :: os => tCons (rdO K B W o) (tOs K B W os)
theorem XOs.pa {X : Cx} {B : Base} {W : WX} : ∀ {es : List Expr} {os : List Opd}, XOs X B W es os → PA X es (tOs X.K B W os)
  | _, _, .nil => pa_nil
  | _, _, .cons h t s => pa_cons h.pe t.pa s
def evAll : List Opd → Rho → Out (List Hd)
  | [], ρ => .ok [] ρ
  | o :: os, ρ => (o.ev ρ).bind fun h ρ1 => (evAll os ρ1).bind fun hs ρ2 => .ok (h :: hs) ρ2
def resAll (ρ : Rho) : List Hd → Option (List D)
  | [] => some []
  | h :: hs => match h.res ρ, resAll ρ hs with
    | some d, some ds => some (d :: ds)
    | _, _ => none
inductive HdsOk (K : PySem.W.Frag) (S : AS) (H : Hp) (σ : L2.St) : List V → List Hd → Prop
  | nil : HdsOk K S H σ [] []
  | cons {v : V} {vs : List V} {h : Hd} {hs : List Hd} : HdOk K S H σ v h → HdsOk K S H σ vs hs → HdsOk K S H σ (v :: vs) (h :: hs)
section
variable {K : PySem.W.Frag} {B : Base} {W : WX} {σ : L2.St} {S S1 O O1 : AS} {H H1 : Hp} {ρ : Rho}
theorem HdsOk.ext (e : Ext S H O S1 H1 O1) : ∀ {vs : List V} {hs : List Hd}, HdsOk K S H σ vs hs → HdsOk K S1 H1 σ vs hs
  | _, _, .nil => .nil
  | _, _, .cons h t => .cons (h.ext e) (t.ext e)
theorem HdsOk.dqs (I : EnvOk K B S H σ ρ) : ∀ {vs : List V} {hs : List Hd} {ds : List D}, HdsOk K S H σ vs hs → resAll ρ hs = some ds → DQs K S H vs ds
  | _, _, _, .nil, e => by cases e; exact .nil
  | _, h :: hs, ds, .cons x t, e => by
    unfold resAll at e
    cases q1 : h.res ρ with
    | none => rw [q1] at e; cases e
    | some d =>
      cases q2 : resAll ρ hs with
      | none => rw [q1, q2] at e; cases e
      | some es =>
        rw [q1, q2] at e
        cases e
        exact .cons (x.dq I q1) (t.dqs I q2)
theorem tOs_of {R : List V → Hp → Prop} : ∀ {os : List Opd} {S : AS} {H : Hp} {ρ : Rho}, EnvOk K B S H σ ρ → AfterG K B W σ S H (OwnS σ ρ) (fun _ hs ρ' S' H' => ∀ vs, HdsOk K S' H' σ vs hs → R vs H') (evAll os ρ) → tOs K B W os σ H R
  | [], S, H, ρ, I, q => q S H I I.refl [] .nil
  | o :: os, S, H, ρ, I, q => by
    refine ⟨S, ρ, I, AfterG.imp (AfterG.bind MonoR.c q) fun h ρ1 S1 H1 I1 e1 q1 v hv => ?_⟩
    refine tOs_of I1 (AfterG.imp (AfterG.bind MonoR.c q1) fun hs ρ2 S3 H3 I3 e3 q3 vs hvs => ?_)
    exact q3 S3 H3 I3 I3.refl (v :: vs) (.cons (hv.ext e3) hvs)
end
def mCall (f : List D → Option Rv) (os : List Opd) (ρ : Rho) : Out Rv := (evAll os ρ).bind fun hs ρ1 => match resAll ρ1 hs with
  | some ds => (match f ds with
    | some r => .ok r ρ1
    | none => .bad)
  | none => .bad
def CSpec (K : PySem.W.Frag) (r : List V → Hp → VK → Prop) (f : List D → Option Rv) : Prop :=
  ∀ (B : Base) (W : WX) (σ : L2.St) (S : AS) (H : Hp) (ρ : Rho) (xs : List V) (ds : List D) (rv : Rv) (Q : VK), EnvOk K B S H σ ρ → DQs K S H xs ds → f ds = some rv → After K B W σ S H (OwnS σ ρ) Q (.ok rv ρ) → r xs H Q
section
variable {K : PySem.W.Frag} {B : Base} {W : WX} {f : List D → Option Rv} {os : List Opd} {r : List V → Hp → VK → Prop}
theorem pullC (hs : CSpec K r f) : ∀ σ H Q, rd K B W (mCall f os) σ H Q → tCB r (tOs K B W os) σ H Q := fun σ H Q ⟨S, ρ, I, q⟩ => by
  refine tOs_of I (AfterG.imp (AfterG.bind MonoR.ret q) fun hds ρ1 S1 H1 I1 e1 q1 vs hv => ?_)
  cases hx : resAll ρ1 hds with
  | none => rw [hx] at q1; exact q1.elim
  | some ds =>
    rw [hx] at q1
    dsimp only at q1
    cases hf : f ds with
    | none => rw [hf] at q1; exact q1.elim
    | some rv =>
      rw [hf] at q1
      exact hs B W σ S1 H1 ρ1 vs ds rv Q I1 (hv.dqs I1 hx) hf q1
theorem CSpec.or {r' : List V → Hp → VK → Prop} {g : List D → Option Rv} (h : CSpec K r f) (h' : CSpec K r' g) : CSpec K (fun xs H Q => r xs H Q ∨ r' xs H Q) (fun ds => match f ds with
    | some x => some x
    | none => g ds) := by
  intro B W σ S H ρ xs ds rv Q I hx hf q
  dsimp only at hf
  cases hq : f ds with
  | some r1 => rw [hq] at hf; cases hf; exact .inl (h B W σ S H ρ xs ds _ Q I hx hq q)
  | none => rw [hq] at hf; exact .inr (h' B W σ S H ρ xs ds _ Q I hx hf q)
end
section
variable {X : Cx} {B : Base} {W : WX} {f : List D → Option Rv} {o : Opd} {os : List Opd} {r : List V → Hp → VK → Prop} {x : Str} {e : Expr} {es : List Expr} {p pos : Pos}
/-- a built-in function by its name -/
theorem xe_callB {id : String} (hc : CallR X (.builtin id) r) (hs : CSpec X.K r f) (hg : Gl X x) (hm : X.mg x = none) (hv : bootBuiltins x = some (.builtin id)) (ha : XOs X B W (e :: es) os)
    (hn : x ≠ "__name__" := by decide) (hdb : (x == ("__debug__" : Str)) = false := by decide) (he : starEach (e :: es) X.env = (false, eval e X.env) :: starEach es X.env := by rfl) (hpl : (backTo pos (starEach es X.env)).any (·.1) = false := by rfl) :
    XE X B W (.Call (.Name x p) (e :: es) [] pos) (mCall f os) := ⟨(pe_callB hc hg hm hv ha.pa hn hdb he hpl).imp (pullC hs)⟩
/-- a built-in class by its name -/
theorem xe_callT {T : String} (hc : CallR X (.type T) r) (hs : CSpec X.K r f) (hg : Gl X x) (hm : X.mg x = none) (hv : bootBuiltins x = some (.type T)) (ha : XOs X B W (e :: es) os)
    (hn : x ≠ "__name__" := by decide) (hdb : (x == ("__debug__" : Str)) = false := by decide) (he : starEach (e :: es) X.env = (false, eval e X.env) :: starEach es X.env := by rfl) (hpl : (backTo pos (starEach es X.env)).any (·.1) = false := by rfl) :
    XE X B W (.Call (.Name x p) (e :: es) [] pos) (mCall f os) := ⟨(pe_callTy hc hg hm hv ha.pa hn hdb he hpl).imp (pullC hs)⟩
/-- a module's name for a built-in function -/
theorem xe_callF {id : String} (hc : CallR X (.builtin id) r) (hs : CSpec X.K r f) (hg : Gl X x) (hm : X.mg x = some (.builtin id)) (ha : XOs X B W (e :: es) os)
    (hdb : (x == ("__debug__" : Str)) = false := by decide) (he : starEach (e :: es) X.env = (false, eval e X.env) :: starEach es X.env := by rfl) (hpl : (backTo pos (starEach es X.env)).any (·.1) = false := by rfl) :
    XE X B W (.Call (.Name x p) (e :: es) [] pos) (mCall f os) := ⟨(pe_callBfun hc hg hm ha.pa hdb he hpl).imp (pullC hs)⟩
end

/-! ### single answers -/
def c1 (g : D → Option Rv) : List D → Option Rv
  | [d] => g d
  | _ => none
def c2 (g : D → D → Option Rv) : List D → Option Rv
  | [d, e] => g d e
  | _ => none
theorem c1_some {g : D → Option Rv} {ds : List D} {rv : Rv} (h : c1 g ds = some rv) : ∃ d, ds = [d] ∧ g d = some rv := by
  match ds, h with
  | [d], h => exact ⟨d, rfl, h⟩
theorem c2_some {g : D → D → Option Rv} {ds : List D} {rv : Rv} (h : c2 g ds = some rv) : ∃ d e, ds = [d, e] ∧ g d e = some rv := by
  match ds, h with
  | [d, e], h => exact ⟨d, e, rfl, h⟩
section
variable {K : PySem.W.Frag} {S : AS} {H : Hp}
theorem DQs.one {xs : List V} {d : D} (h : DQs K S H xs [d]) : ∃ x, xs = [x] ∧ DQ K S H x d := by
  cases h with | cons h1 h2 => cases h2; exact ⟨_, rfl, h1⟩
theorem DQs.two {xs : List V} {d e : D} (h : DQs K S H xs [d, e]) : ∃ x y, xs = [x, y] ∧ DQ K S H x d ∧ DQ K S H y e := by
  cases h with | cons h1 h2 => cases h2 with | cons h3 h4 => cases h4; exact ⟨_, _, rfl, h1, h3⟩
end

/-- len -/
def gLen : D → Option Rv
  | .list ds => some (.val (.int ds.length))
  | .tuple ds => some (.val (.int ds.length))
  | .str z => if z.length ≤ sizeLine then some (.val (.int z.length)) else none
  | _ => none
abbrev rLenS (K : PySem.W.Frag) : List V → Hp → VK → Prop := fun xs H Q => ∃ p ys, xs = [.ref p] ∧ (SqL K H p ys ∨ SqT K H p ys) ∧ Q (.int ys.length) H
abbrev rLenZ : List V → Hp → VK → Prop := fun xs H Q => ∃ z, xs = [.str z] ∧ z.length ≤ sizeLine ∧ Q (.int z.length) H
abbrev rLenA (K : PySem.W.Frag) : List V → Hp → VK → Prop := fun xs H Q => rLenS K xs H Q ∨ rLenZ xs H Q
theorem cs_len {K : PySem.W.Frag} : CSpec K (rLenA K) (c1 gLen) := by
  intro B W σ S H ρ xs ds rv Q I hx hf q
  replace hf := c1_some hf
  obtain ⟨d, rfl, hf⟩ := hf
  replace hx := hx.one
  obtain ⟨x, rfl, hx⟩ := hx
  unfold gLen at hf
  split at hf
  · cases hf
    obtain ⟨a, ys, rfl, h1, h2⟩ := hx.list
    exact .inl ⟨a, ys, rfl, .inl (.of h1), by rw [h2.length]; exact RetR.here I q (.int _)⟩
  · cases hf
    obtain ⟨a, ys, rfl, h1, h2⟩ := hx.tuple
    exact .inl ⟨a, ys, rfl, .inr h1, by rw [h2.length]; exact RetR.here I q (.int _)⟩
  · split at hf
    · rename_i z hz
      cases hf
      exact .inr ⟨z, by rw [hx.str], hz, RetR.here I q (.int _)⟩
    · cases hf
  · cases hf
theorem b_len {X : Cx} : CallR X (.builtin "len") (rLenA X.K) := call_len_seq.or call_len_str
/-- abs -/
def gAbs : D → Option Rv
  | .int i => some (.val (.int (if i < 0 then -i else i)))
  | _ => none
abbrev rAbs : List V → Hp → VK → Prop := fun xs H Q => ∃ i, xs = [.int i] ∧ Q (.int (if i < 0 then -i else i)) H
theorem cs_abs {K : PySem.W.Frag} : CSpec K rAbs (c1 gAbs) := by
  intro B W σ S H ρ xs ds rv Q I hx hf q
  replace hf := c1_some hf
  obtain ⟨d, rfl, hf⟩ := hf
  replace hx := hx.one
  obtain ⟨x, rfl, hx⟩ := hx
  unfold gAbs at hf
  split at hf
  · cases hf; exact ⟨_, by rw [hx.int], RetR.here I q (.int _)⟩
  · cases hf
/-- int -/
def gInt : D → Option Rv
  | .int i => some (.val (.int i))
  | .bool b => some (.val (.int (if b then 1 else 0)))
  | _ => none
abbrev rInt1 : List V → Hp → VK → Prop := fun xs H Q => (∃ i, xs = [.int i] ∧ Q (.int i) H) ∨ ∃ k, xs = [.bl k] ∧ Q (.int (if k then 1 else 0)) H
theorem cs_int {K : PySem.W.Frag} : CSpec K rInt1 (c1 gInt) := by
  intro B W σ S H ρ xs ds rv Q I hx hf q
  replace hf := c1_some hf
  obtain ⟨d, rfl, hf⟩ := hf
  replace hx := hx.one
  obtain ⟨x, rfl, hx⟩ := hx
  unfold gInt at hf
  split at hf
  · cases hf; exact .inl ⟨_, by rw [hx.int], RetR.here I q (.int _)⟩
  · cases hf; exact .inr ⟨_, by rw [hx.bool], RetR.here I q (.int _)⟩
  · cases hf
/-- min, max of two -/
def gMax2 : D → D → Option Rv
  | .int i, .int j => some (.val (.int (if j > i then j else i)))
  | _, _ => none
def gMin2 : D → D → Option Rv
  | .int i, .int j => some (.val (.int (if j < i then j else i)))
  | _, _ => none
abbrev rMax2 : List V → Hp → VK → Prop := fun xs H Q => ∃ i j, xs = [.int i, .int j] ∧ Q (.int (if j > i then j else i)) H
abbrev rMin2 : List V → Hp → VK → Prop := fun xs H Q => ∃ i j, xs = [.int i, .int j] ∧ Q (.int (if j < i then j else i)) H
theorem cs_max2 {K : PySem.W.Frag} : CSpec K rMax2 (c2 gMax2) := by
  intro B W σ S H ρ xs ds rv Q I hx hf q
  replace hf := c2_some hf
  obtain ⟨d, e, rfl, hf⟩ := hf
  replace hx := hx.two
  obtain ⟨x, y, rfl, hx, hy⟩ := hx
  unfold gMax2 at hf
  split at hf
  · cases hf; exact ⟨_, _, by rw [hx.int, hy.int], RetR.here I q (.int _)⟩
  · cases hf
theorem cs_min2 {K : PySem.W.Frag} : CSpec K rMin2 (c2 gMin2) := by
  intro B W σ S H ρ xs ds rv Q I hx hf q
  replace hf := c2_some hf
  obtain ⟨d, e, rfl, hf⟩ := hf
  replace hx := hx.two
  obtain ⟨x, y, rfl, hx, hy⟩ := hx
  unfold gMin2 at hf
  split at hf
  · cases hf; exact ⟨_, _, by rw [hx.int, hy.int], RetR.here I q (.int _)⟩
  · cases hf
/-- list(x), tuple(x) -/
def gList (d : D) : Option Rv := (itD d).map fun ds => .own (.ls ds)
def gTup (d : D) : Option Rv := (itD d).map fun ds => .val (.tuple ds)
abbrev rListOf (K : PySem.W.Frag) : List V → Hp → VK → Prop := fun xs H Q => ∃ p ys, xs = [.ref p] ∧ (SqL K H p ys ∨ SqT K H p ys) ∧ ∀ l, H l = none → Q (.ref l) (upd H l (.lst ys))
abbrev rTupOf (K : PySem.W.Frag) : List V → Hp → VK → Prop := fun xs H Q => ∃ p ys, xs = [.ref p] ∧ ((SqL K H p ys ∧ ∀ l, H l = none → Q (.ref l) (upd H l (.tup ys))) ∨ (SqT K H p ys ∧ Q (.ref p) H))
theorem cs_list {K : PySem.W.Frag} : CSpec K (rListOf K) (c1 gList) := by
  intro B W σ S H ρ xs ds rv Q I hx hf q
  replace hf := c1_some hf
  obtain ⟨d, rfl, hf⟩ := hf
  replace hx := hx.one
  obtain ⟨x, rfl, hx⟩ := hx
  unfold gList at hf
  cases hd : itD d with
  | none => rw [hd] at hf; cases hf
  | some es =>
    rw [hd] at hf
    cases hf
    obtain ⟨p, ys, rfl, h1, h2⟩ := itD_dq hd hx
    exact ⟨p, ys, rfl, h1, fun l hl => RetR.own_new I q hl (h2.ext (Ext.laid I.gd hl))⟩
theorem cs_tup {K : PySem.W.Frag} : CSpec K (rTupOf K) (c1 gTup) := by
  intro B W σ S H ρ xs ds rv Q I hx hf q
  replace hf := c1_some hf
  obtain ⟨d, rfl, hf⟩ := hf
  replace hx := hx.one
  obtain ⟨x, rfl, hx⟩ := hx
  unfold gTup at hf
  cases d <;> cases hf
  · obtain ⟨p, ys, rfl, h1, h2⟩ := hx.list
    exact ⟨p, ys, rfl, .inl ⟨.of h1, fun l hl => RetR.tup_new I q hl h2⟩⟩
  · obtain ⟨p, ys, rfl, h1, h2⟩ := hx.tuple
    exact ⟨p, ys, rfl, .inr ⟨h1, RetR.here I q (.tup h1 h2)⟩⟩
/-- ints of a list -/
def intsD : List D → Option (List Int)
  | [] => some []
  | .int i :: ds => (intsD ds).map fun r => i :: r
  | _ => none
theorem intsD_map : ∀ {ds : List D} {ns : List Int}, intsD ds = some ns → ds = ns.map PyData.int
  | [], _, h => by cases h; rfl
  | d :: ds, ns, h => by
    cases d <;> first
      | (cases h; done)
      | skip
    rename_i i
    have h2 : (intsD ds).map (fun r => i :: r) = some ns := h
    cases q : intsD ds with
    | none => rw [q] at h2; cases h2
    | some r => rw [q] at h2; cases h2; rw [intsD_map q]; rfl
theorem intsD_of (ns : List Int) : intsD (ns.map PyData.int) = some ns := by
  induction ns with
  | nil => rfl
  | cons n ns ih =>
    show (intsD (ns.map PyData.int)).map (fun r => n :: r) = some (n :: ns)
    rw [ih]; rfl
/-- sum of a list of ints -/
def gSum : D → Option Rv
  | .list ds => (intsD ds).map fun ns => .val (.int ns.sum)
  | _ => none
theorem cs_sum {K : PySem.W.Frag} : CSpec K (rSum K) (c1 gSum) := by
  intro B W σ S H ρ xs ds rv Q I hx hf q
  replace hf := c1_some hf
  obtain ⟨d, rfl, hf⟩ := hf
  replace hx := hx.one
  obtain ⟨x, rfl, hx⟩ := hx
  unfold gSum at hf
  split at hf
  · rename_i es
    cases hn : intsD es with
    | none => rw [hn] at hf; cases hf
    | some ns =>
      rw [hn] at hf
      cases hf
      obtain ⟨a, ys, rfl, h1, h2⟩ := hx.list
      rw [intsD_map hn] at h2
      rw [h2.ints] at h1
      exact ⟨a, ns, rfl, .of h1, RetR.here I q (.int _)⟩
  · cases hf
/-- the greatest of a list of ints -/
def topI : List Int → Option Int
  | [] => none
  | n :: ns => some (ns.foldl (fun a b => if b > a then b else a) n)
theorem foldl_top : ∀ (ns : List Int) (n : Int), (ns.foldl (fun a b => if b > a then b else a) n = n ∨ ns.foldl (fun a b => if b > a then b else a) n ∈ ns) ∧ n ≤ ns.foldl (fun a b => if b > a then b else a) n ∧ ∀ y ∈ ns, y ≤ ns.foldl (fun a b => if b > a then b else a) n
  | [], n => ⟨.inl rfl, Int.le_refl _, fun _ h => by cases h⟩
  | m :: ns, n => by
    rw [List.foldl_cons]
    obtain ⟨h1, h2, h3⟩ := foldl_top ns (if m > n then m else n)
    have e1 : n ≤ (if m > n then m else n) := by split <;> omega
    have e2 : m ≤ (if m > n then m else n) := by split <;> omega
    refine ⟨?_, Int.le_trans e1 h2, fun y hy => ?_⟩
    · rcases h1 with h1 | h1
      · by_cases hm : m > n
        · rw [if_pos hm] at h1 ⊢; exact .inr (by rw [h1]; exact List.mem_cons_self)
        · rw [if_neg hm] at h1 ⊢; exact .inl h1
      · exact .inr (List.mem_cons_of_mem _ h1)
    · rcases List.mem_cons.mp hy with rfl | hy
      · exact Int.le_trans e2 h2
      · exact h3 y hy
def gMax1 : D → Option Rv
  | .list ds => (intsD ds).bind fun ns => (topI ns).map fun m => .val (.int m)
  | _ => none
theorem cs_max1 {K : PySem.W.Frag} : CSpec K (rMax K) (c1 gMax1) := by
  intro B W σ S H ρ xs ds rv Q I hx hf q
  replace hf := c1_some hf
  obtain ⟨d, rfl, hf⟩ := hf
  replace hx := hx.one
  obtain ⟨x, rfl, hx⟩ := hx
  unfold gMax1 at hf
  split at hf
  · rename_i es
    cases hn : intsD es with
    | none => rw [hn] at hf; cases hf
    | some ns =>
      rw [hn] at hf
      obtain ⟨a, ys, rfl, h1, h2⟩ := hx.list
      rw [intsD_map hn] at h2
      rw [h2.ints] at h1
      cases ns with
      | nil => cases hf
      | cons n ns =>
        cases hf
        refine ⟨a, n :: ns, rfl, .of h1, by simp, fun m hm hle => ?_⟩
        obtain ⟨g1, g2, g3⟩ := foldl_top ns n
        have e : m = ns.foldl (fun a b => if b > a then b else a) n := by
          refine Int.le_antisymm ?_ (hle _ ?_)
          · rcases List.mem_cons.mp hm with rfl | hm
            · exact g2
            · exact g3 m hm
          · rcases g1 with g1 | g1
            · rw [g1]; exact List.mem_cons_self
            · exact List.mem_cons_of_mem _ g1
        rw [e]
        exact RetR.here I q (.int _)
  · cases hf
/-- divmod -/
def gDivmod : D → D → Option Rv
  | .int i, .int j => if cDiv i j = true then some (.val (.tuple [.int (i / j), .int (i % j)])) else none
  | _, _ => none
abbrev rDivmod : List V → Hp → VK → Prop := fun xs H Q => ∃ i j, xs = [.int i, .int j] ∧ CDiv i j ∧ ∀ p, H p = none → Q (.ref p) (upd H p (.tup [.int (i / j), .int (i % j)]))
theorem cs_divmod {K : PySem.W.Frag} : CSpec K rDivmod (c2 gDivmod) := by
  intro B W σ S H ρ xs ds rv Q I hx hf q
  replace hf := c2_some hf
  obtain ⟨d, e, rfl, hf⟩ := hf
  replace hx := hx.two
  obtain ⟨x, y, rfl, hx, hy⟩ := hx
  unfold gDivmod at hf
  split at hf
  · split at hf
    · rename_i hc
      cases hf
      exact ⟨_, _, by rw [hx.int, hy.int], cDiv_ok hc, fun p hp => RetR.tup_new I q hp (.cons (.int _) (.cons (.int _) .nil))⟩
    · cases hf
  · cases hf
/-- gcd -/
def gGcd : D → D → Option Rv
  | .int i, .int j => some (.val (.int ((Nat.gcd i.natAbs j.natAbs : Nat) : Int)))
  | _, _ => none
theorem cs_gcd {K : PySem.W.Frag} : CSpec K rGcd (c2 gGcd) := by
  intro B W σ S H ρ xs ds rv Q I hx hf q
  replace hf := c2_some hf
  obtain ⟨d, e, rfl, hf⟩ := hf
  replace hx := hx.two
  obtain ⟨x, y, rfl, hx, hy⟩ := hx
  unfold gGcd at hf
  split at hf
  · cases hf; exact ⟨_, _, by rw [hx.int, hy.int], RetR.here I q (.int _)⟩
  · cases hf

/-! ### elements that are kept: displays, arguments of defs -/
inductive El where
  | one (o : Opd) | star (o : Opd)
inductive XEls (X : Cx) (B : Base) (W : WX) : List Expr → List El → Prop
  | nil : XEls X B W [] []
  | one {e : Expr} {es : List Expr} {o : Opd} {os : List El} : XO X B W e o → XEls X B W es os → starEach (e :: es) X.env = (false, eval e X.env) :: starEach es X.env → XEls X B W (e :: es) (.one o :: os)
  | star {e : Expr} {es : List Expr} {o : Opd} {os : List El} {p : Pos} : XO X B W e o → XEls X B W es os → starEach (.Starred e p :: es) X.env = (true, eval e X.env) :: starEach es X.env → XEls X B W (.Starred e p :: es) (.star o :: os)
def tEls (K : PySem.W.Frag) (B : Base) (W : WX) : List El → TA
  | [] => tNil
  | .one o :: os => tCons (rd K B W o.esc) (tEls K B W os)
  | .star o :: os => tStar K (rdO K B W o) (tEls K B W os)
theorem XEls.pa {X : Cx} {B : Base} {W : WX} : ∀ {es : List Expr} {os : List El}, XEls X B W es os → PA X es (tEls X.K B W os)
  | _, _, .nil => pa_nil
  | _, _, .one h t s => pa_cons h.xe.pe t.pa s
  | _, _, .star h t s => pa_star h.pe t.pa s
def evEls : List El → Rho → Out (List D)
  | [], ρ => .ok [] ρ
  | .one o :: os, ρ => (o.esc ρ).bind fun r ρ1 => (evEls os ρ1).bind fun ds ρ2 => .ok (r.dat :: ds) ρ2
  | .star o :: os, ρ => (o.ev ρ).bind fun h ρ1 => match (h.res ρ1).bind itD with
    | some es => (evEls os ρ1).bind fun ds ρ2 => .ok (es ++ ds) ρ2
    | none => .bad
section
variable {K : PySem.W.Frag} {B : Base} {W : WX} {σ : L2.St}
theorem tEls_of {R : List V → Hp → Prop} : ∀ {os : List El} {S : AS} {H : Hp} {ρ : Rho}, EnvOk K B S H σ ρ → AfterG K B W σ S H (OwnS σ ρ) (fun _ ds ρ' S' H' => ∀ vs, DSs K S' H' vs ds → R vs H') (evEls os ρ) → tEls K B W os σ H R
  | [], S, H, ρ, I, q => q S H I I.refl [] .nil
  | .one o :: os, S, H, ρ, I, q => by
    refine ⟨S, ρ, I, AfterG.ofV (AfterG.imp (AfterG.bind MonoR.c q) fun r ρ1 S1 H1 I1 e1 q1 v hv => ?_)⟩
    refine tEls_of I1 (AfterG.imp (AfterG.bind MonoR.c q1) fun ds ρ2 S3 H3 I3 e3 q3 vs hvs => ?_)
    exact q3 S3 H3 I3 I3.refl (v :: vs) (.cons (hv.ext e3) hvs)
  | .star o :: os, S, H, ρ, I, q => by
    refine ⟨S, ρ, I, AfterG.imp (AfterG.bind MonoR.c q) fun h ρ1 S1 H1 I1 e1 q1 v hv => ?_⟩
    cases hr : h.res ρ1 with
    | none => rw [hr] at q1; exact q1.elim
    | some d =>
      rw [hr] at q1
      cases hd : itD d with
      | none => rw [Option.bind_some, hd] at q1; exact q1.elim
      | some es =>
        rw [Option.bind_some, hd] at q1
        obtain ⟨p, xs, rfl, h1, h2⟩ := itD_dq hd (hv.dq I1 hr)
        refine ⟨p, xs, rfl, h1.symm, ?_⟩
        refine tEls_of I1 (AfterG.imp (AfterG.bind MonoR.c q1) fun ds ρ2 S3 H3 I3 e3 q3 vs hvs => ?_)
        exact q3 S3 H3 I3 I3.refl (xs ++ vs) ((h2.ext e3).append hvs)
end
def mTup (os : List El) (ρ : Rho) : Out Rv := (evEls os ρ).bind fun ds ρ1 => if ds.length ≤ sizeLine then .ok (.val (.tuple ds)) ρ1 else .bad
def mLst (os : List El) (ρ : Rho) : Out Rv := (evEls os ρ).bind fun ds ρ1 => if ds.length ≤ sizeLine then .ok (.own (.ls ds)) ρ1 else .bad
section
variable {X : Cx} {B : Base} {W : WX} {es : List Expr} {os : List El} {pos : Pos}
theorem xe_tup {k} (h : XEls X B W es os) : XE X B W (.Tuple es k pos) (mTup os) := by
  refine ⟨(pe_tup h.pa).imp fun σ H Q ⟨S, ρ, I, q⟩ => tEls_of I (AfterG.imp (AfterG.bind MonoR.ret q) fun ds ρ1 S1 H1 I1 e1 q1 vs hvs => ?_)⟩
  by_cases hl : ds.length ≤ sizeLine
  · rw [if_pos hl] at q1
    exact ⟨by rw [hvs.length]; exact hl, fun p hp => RetR.tup_new I1 q1 hp hvs⟩
  · rw [if_neg hl] at q1; exact q1.elim
theorem xe_lst (h : XEls X B W es os) : XE X B W (.List es pos) (mLst os) := by
  refine ⟨(pe_lst h.pa).imp fun σ H Q ⟨S, ρ, I, q⟩ => tEls_of I (AfterG.imp (AfterG.bind MonoR.ret q) fun ds ρ1 S1 H1 I1 e1 q1 vs hvs => ?_)⟩
  by_cases hl : ds.length ≤ sizeLine
  · rw [if_pos hl] at q1
    exact ⟨by rw [hvs.length]; exact hl, fun p hp => RetR.own_new I1 q1 hp (hvs.ext (Ext.laid I1.gd hp))⟩
  · rw [if_neg hl] at q1; exact q1.elim
end

/-! ### slices -/
inductive XP (X : Cx) (B : Base) (W : WX) : Option Expr → Option Opd → Prop
  | none : XP X B W none none
  | some {e : Expr} {o : Opd} : XO X B W e o → XP X B W (some e) (some o)
def tP (K : PySem.W.Frag) (B : Base) (W : WX) : Option Opd → TO
  | none => tNoPart
  | some o => tPart (rdO K B W o)
theorem XP.po {X : Cx} {B : Base} {W : WX} {e : Option Expr} {o : Option Opd} (h : XP X B W e o) : PO X e (tP X.K B W o) := by
  cases h with
  | none => exact po_none
  | some h => exact po_some h.pe
def evP : Option Opd → Rho → Out (Option Int)
  | none, ρ => .ok none ρ
  | some o, ρ => (o.ev ρ).bind fun h ρ1 => match h.res ρ1 with
    | some (.int i) => .ok (some i) ρ1
    | _ => .bad
def cutD {α : Type} (xs : List α) (lo hi : Option Int) : List α := (xs.drop (HT.sIx xs.length 0 lo)).take (HT.sIx xs.length xs.length hi - HT.sIx xs.length 0 lo)
def gCut (lo hi : Option Int) : D → Option Rv
  | .list ds => some (.own (.ls (cutD ds lo hi)))
  | .tuple ds => some (.val (.tuple (cutD ds lo hi)))
  | .str z => if z.length ≤ sizeLine then some (.val (.str (cutS z lo hi))) else none
  | _ => none
def mCut (a : Opd) (lo hi : Option Opd) (ρ : Rho) : Out Rv := (a.ev ρ).bind fun h ρ1 => (evP lo ρ1).bind fun l ρ2 => (evP hi ρ2).bind fun u ρ3 => match h.res ρ3 with
  | some d => (match gCut l u d with
    | some r => .ok r ρ3
    | none => .bad)
  | none => .bad
theorem DSs.cut {K : PySem.W.Frag} {S : AS} {H : Hp} {xs : List V} {ds : List D} (h : DSs K S H xs ds) (lo hi : Option Int) : DSs K S H (cutV xs lo hi) (cutD ds lo hi) := by
  unfold cutV cutD
  rw [h.length]
  exact (h.drop _).take _
theorem cutD_whole {α : Type} {xs : List α} {lo hi : Option Int} (h : HT.sIx xs.length 0 lo = 0 ∧ HT.sIx xs.length xs.length hi = xs.length) : cutD xs lo hi = xs := by
  unfold cutD
  rw [h.1, h.2, List.drop_zero, Nat.sub_zero, List.take_length]
theorem tP_of {K : PySem.W.Frag} {B : Base} {W : WX} {σ : L2.St} {R : Option Int → Hp → Prop} {o : Option Opd} {S : AS} {H : Hp} {ρ : Rho} (I : EnvOk K B S H σ ρ) (q : AfterG K B W σ S H (OwnS σ ρ) (fun _ l _ _ H' => R l H') (evP o ρ)) : tP K B W o σ H R := by
  cases o with
  | none => exact q S H I I.refl
  | some o =>
    refine ⟨S, ρ, I, AfterG.imp (AfterG.bind MonoR.c q) fun h ρ1 S1 H1 I1 e1 q1 v hv => ?_⟩
    cases hr : h.res ρ1 with
    | none => rw [hr] at q1; exact q1.elim
    | some d =>
      rw [hr] at q1
      cases d <;> first
        | exact False.elim q1
        | skip
      rename_i i
      exact ⟨i, (hv.dq I1 hr).int, q1 S1 H1 I1 I1.refl⟩
abbrev rCutA (K : PySem.W.Frag) : V → Option Int → Option Int → Hp → VK → Prop := fun x lo hi H Q => rSlL K x lo hi H Q ∨ (rSlA K x lo hi H Q ∨ rSlS x lo hi H Q)
theorem o_cut {X : Cx} : SlR X (rCutA X.K) := sl_list.or (sl_tupA.or sl_str)
theorem sp_cut {K : PySem.W.Frag} {B : Base} {W : WX} {σ : L2.St} {S : AS} {H : Hp} {ρ : Rho} {x : V} {lo hi : Option Int} {d : D} {rv : Rv} {Q : VK} (I : EnvOk K B S H σ ρ) (hx : DQ K S H x d) (hf : gCut lo hi d = some rv) (q : After K B W σ S H (OwnS σ ρ) Q (.ok rv ρ)) : rCutA K x lo hi H Q := by
  unfold gCut at hf
  split at hf
  · cases hf
    obtain ⟨a, xs, rfl, h1, h2⟩ := hx.list
    exact .inl ⟨a, xs, rfl, .of h1, fun p hp => RetR.own_new I q hp ((h2.cut lo hi).ext (Ext.laid I.gd hp))⟩
  · cases hf
    obtain ⟨a, xs, rfl, h1, h2⟩ := hx.tuple
    refine .inr (.inl ⟨a, xs, rfl, h1, fun hw => ?_, fun _ p hp => RetR.tup_new I q hp (h2.cut lo hi)⟩)
    rw [h2.length] at hw
    rw [cutD_whole hw] at q
    exact RetR.here I q (.tup h1 h2)
  · split at hf
    · rename_i z hz
      cases hf
      exact .inr (.inr ⟨z, hx.str, hz, RetR.here I q (.str _)⟩)
    · cases hf
  · cases hf
/-- a value that was shown can be looked at where more is known -/
theorem AfterG.at {α : Type} {K : PySem.W.Frag} {B : Base} {W : WX} {σ : L2.St} {S O : AS} {H : Hp} {R : Hp → α → Rho → AS → Hp → Prop} {o : Out α} (h : AfterG K B W σ S H O R o) : AfterG K B W σ S H O (fun Hs a ρ S' H' => EnvOk K B S' H' σ ρ ∧ Ext S H O S' H' (OwnS σ ρ) ∧ R Hs a ρ S' H') o :=
  AfterG.imp h fun _ _ _ _ I e r => ⟨I, e, r⟩
theorem xe_cut {X : Cx} {B : Base} {W : WX} {e : Expr} {lo hi : Option Expr} {o : Opd} {l u : Option Opd} {p2 pos : Pos} (he : XO X B W e o) (hl : XP X B W lo l) (hu : XP X B W hi u) : XE X B W (.Subscript e (.Slice lo hi none p2) pos) (mCut o l u) := by
  refine ⟨(pe_slice o_cut he.pe hl.po hu.po).imp fun σ H Q ⟨S, ρ, I, q⟩ => ⟨S, ρ, I, AfterG.imp (AfterG.bind MonoR.ret q) fun h ρ1 S1 H1 I1 e1 q1 v hv => ?_⟩⟩
  refine tP_of I1 (AfterG.imp (AfterG.bind MonoR.ret q1) fun a ρ2 S3 H3 I3 e3 q3 => ?_)
  refine tP_of I3 (AfterG.imp (AfterG.bind MonoR.ret q3) fun b ρ3 S5 H5 I5 e5 q5 => ?_)
  have hv5 := (hv.ext e3).ext e5
  cases hr : h.res ρ3 with
  | none => rw [hr] at q5; exact q5.elim
  | some d =>
    rw [hr] at q5
    dsimp only at q5
    cases hf : gCut a b d with
    | none => rw [hf] at q5; exact q5.elim
    | some rv =>
      rw [hf] at q5
      exact sp_cut I5 (hv5.dq I5 hr) hf q5

/-! ### isinstance of data -/
def tyN : D → String
  | .none => "NoneType"
  | .bool _ => "bool"
  | .int _ => "int"
  | .str _ => "str"
  | .list _ => "list"
  | .tuple _ => "tuple"
  | .dict _ => "dict"
def isT (T : String) (d : D) : Option Bool := kitB (tyN d) T
theorem DQ.ty {K : PySem.W.Frag} {S : AS} {H : Hp} {x : V} {d : D} (h : DQ K S H x d) : TyX K H x (.type (tyN d)) := by
  cases d with
  | none => rw [h.non]; exact .base .non
  | bool b => rw [h.bool]; exact .base (.bl b)
  | int b => rw [h.int]; exact .base (.int b)
  | str b => rw [h.str]; exact .base (.str b)
  | list b => obtain ⟨a, xs, rfl, h1, _⟩ := h.list; exact .base (.lst h1)
  | tuple b =>
    obtain ⟨a, xs, rfl, h1, _⟩ := h.tuple
    rcases h1 with (h1 | ⟨o, h1⟩) | ⟨o, its, n, h1, h2, _⟩
    · exact .base (.tup h1)
    · exact .fTuple h1
    · exact .kTuple h1 h2
  | dict b =>
    obtain ⟨a, rfl, ⟨l, h1, _⟩ | ⟨l, h1, _⟩⟩ := h.dict
    · exact .base (.dK h1)
    · exact .base (.dT h1)
def mIsT (T : String) (a : Opd) : M := mUn (fun d => (isT T d).map fun b => .val (.bool b)) a
section
variable {X : Cx} {B : Base} {W : WX} {e : Expr} {o : Opd} {x c : Str} {p pc pos : Pos} {T : String}
theorem xe_isT (hg : Gl X "isinstance") (hm : X.mg "isinstance" = none) (he : XO X B W e o) (hgc : Gl X c) (hmc : X.mg c = none) (hvc : bootBuiltins c = some (.type T)) (hv : bootBuiltins "isinstance" = some (.builtin "isinstance")) (hnc : c ≠ "__name__" := by decide) (hdc : (c == ("__debug__" : Str)) = false := by decide)
    (hs1 : starEach [e, .Name c pc] X.env = (false, eval e X.env) :: starEach [.Name c pc] X.env := by rfl) (hs2 : starEach [.Name c pc] X.env = (false, eval (.Name c pc) X.env) :: starEach [] X.env := by rfl) (hpl : (backTo pos (starEach [.Name c pc] X.env)).any (·.1) = false := by rfl) :
    XE X B W (.Call (.Name "isinstance" p) [e, .Name c pc] [] pos) (mIsT T o) := by
  refine ⟨(pe_callB call_isi hg hm hv (pa_cons he.pe (pa_cons (pe_bltn (v := .ty T) hgc hmc hvc rfl hnc hdc) pa_nil hs2) hs1) (he := hs1) (hpl := hpl)).imp fun σ H Q ⟨S, ρ, I, q⟩ => ?_⟩
  refine ⟨S, ρ, I, AfterG.imp (AfterG.bind MonoR.ret q) fun h ρ1 S1 H1 I1 e1 q1 v hv => ?_⟩
  cases hr : h.res ρ1 with
  | none => rw [hr] at q1; exact q1.elim
  | some d =>
    rw [hr] at q1
    dsimp only at q1
    cases hf : isT T d with
    | none => rw [hf] at q1; exact q1.elim
    | some b =>
      rw [hf] at q1
      exact ⟨v, .ty T, _, _, b, rfl, .ty T, (hv.dq I1 hr).ty, kit_ty hf, RetR.here I1 q1 (.bl b)⟩
end
end DL
set_option Elab.async false
set_option linter.all false
set_option maxRecDepth 100000
set_option maxHeartbeats 1000000
namespace DL
open PySem PySem.Spec PyProof.Rows L2

/-! ### blocks -/
def mSk (ρ : Rho) : OS := .nx ρ
section
variable {X : Cx} {B : Base} {W : WX} {st : Stmt} {rest : List Stmt} {m r : MS} {pos : Pos}
theorem xss_nil : XSs X B W [] mSk := ⟨pss_nil.imp fun D σ H ⟨S, ρ, I, q⟩ => q S H σ I I.refl⟩
def mSeq (m r : MS) (ρ : Rho) : OS := (m ρ).bind r
theorem xss_cons (h : XS X B W st m) (g : XSs X B W rest r) : XSs X B W (st :: rest) (mSeq m r) :=
  ⟨(pss_cons h.ps g.pss).imp fun D σ H ⟨S, ρ, I, q⟩ => ⟨S, ρ, I, AfterS.bind q⟩⟩
theorem xss_one (h : XS X B W st m) : XSs X B W [st] m := ⟨pss_one h.ps⟩
def mBad (ρ : Rho) : OS := .bad
theorem xs_never : XS X B W st mBad := ⟨ps_never.imp fun D σ H ⟨S, ρ, I, q⟩ => q.elim⟩
theorem xss_never {sts : List Stmt} : XSs X B W sts mBad := ⟨pss_never.imp fun D σ H ⟨S, ρ, I, q⟩ => q.elim⟩
theorem xs_pass : XS X B W (.Pass pos) mSk := ⟨ps_pass.imp fun D σ H ⟨S, ρ, I, q⟩ => q S H σ I I.refl⟩
def mBk (ρ : Rho) : OS := .bk ρ
def mCt (ρ : Rho) : OS := .ct ρ
theorem xs_break : XS X B W (.Break pos) mBk := ⟨ps_break.imp fun D σ H ⟨S, ρ, I, q⟩ => q S H σ I I.refl⟩
theorem xs_continue : XS X B W (.Continue pos) mCt := ⟨ps_continue.imp fun D σ H ⟨S, ρ, I, q⟩ => q S H σ I I.refl⟩
end

/-! ### stores -/
def Sl.free : Sl → Bool
  | .io _ => false
  | _ => true
theorem Sl.free_io {s : Sl} (h : s.free = true) : ∀ c, s ≠ .io c := fun c e => by subst e; cases h
theorem free_at {ρ : Rho} {i : Nat} {s : Sl} (hr : ρ[i]? = some s) (h : s.free = true) : ∀ c, ρ[i]? ≠ some (.io c) := fun c z => by rw [hr] at z; cases z; cases h
def setSl (i : Nat) (s : Sl) (ρ : Rho) : OS := match ρ[i]? with
  | some t => if t.free = true then .nx (ρ.set i s) else .bad
  | none => .bad
def mSet (i : Nat) (m : M) (ρ : Rho) : OS := (m ρ).bindS fun r ρ1 => setSl i r.sl ρ1
section
variable {K : PySem.W.Frag} {B : Base} {W : WX} {σ : L2.St} {S O : AS} {H : Hp} {ρ : Rho} {E : Ends} {i : Nat}
theorem setSl_val {v : V} {d : D} (I : EnvOk K B S H σ ρ) (hd : DS K S H v d) (q : AfterS K B W S H (OwnS σ ρ) E (setSl i (.val d) ρ)) : E.nx (σ.set i (some v)) H := by
  unfold setSl at q
  cases hr : ρ[i]? with
  | none => rw [hr] at q; exact q.elim
  | some s =>
    rw [hr] at q
    dsimp only at q
    by_cases hf : s.free = true
    · rw [if_pos hf] at q
      exact q S H _ (I.setVal hd (free_at hr hf)) (Ext.less I.gd fun a h => h.setVal)
    · rw [if_neg hf] at q; exact q.elim
theorem setSl_own {p : Addr} {o : HO} {c : Oc} (I : EnvOk K B S H σ ρ) (nS : ¬ S p) (nB : B.H p = none) (hp : H p = some o) (hc : OcOk K S H o c) (no : ∀ i, ¬ Own σ ρ i p) {S0 O0 : AS} {H0 : Hp} (e : Ext S0 H0 O0 S H (OwnS σ ρ)) (n0 : H0 p = none)
    (q : AfterS K B W S0 H0 O0 E (setSl i (.own c) ρ)) : E.nx (σ.set i (some (.ref p))) H := by
  unfold setSl at q
  cases hr : ρ[i]? with
  | none => rw [hr] at q; exact q.elim
  | some s =>
    rw [hr] at q
    dsimp only at q
    by_cases hf : s.free = true
    · rw [if_pos hf] at q
      exact q S H _ (I.setOwn nS nB hp hc (fun j _ => no j) (free_at hr hf)) (e.owns fun a h => h.setOwn.elim .inl fun z => .inr (z ▸ n0))
    · rw [if_neg hf] at q; exact q.elim
end
section
variable {X : Cx} {B : Base} {W : WX} {e : Expr} {m : M} {i : Nat} {x : Str} {pos pos' : Pos}
/-- an outcome behind which a statement goes on, from the start of the statement -/
theorem AfterS.bindS0 {α : Type} {K : PySem.W.Frag} {σ : L2.St} {S O : AS} {H : Hp} {D : Ends} {o : Out α} {f : α → Rho → OS} (h : AfterS K B W S H O D (o.bindS f)) : AfterG K B W σ S H O (fun _ a ρ S' H' => AfterS K B W S H O D (f a ρ) ∧ EnvOk K B S' H' σ ρ ∧ Ext S H O S' H' (OwnS σ ρ)) o := by
  cases o with
  | ok a ρ => exact fun S' H' I x => ⟨h, I, x⟩
  | exc c ρ => exact fun S' H' I x => h S' H' σ I x
  | bad => exact h
theorem set_of {K : PySem.W.Frag} {D : Ends} {σ : L2.St} {S : AS} {H : Hp} {ρ : Rho} (q : AfterS K B W S H (OwnS σ ρ) D (mSet i m ρ)) : After K B W σ S H (OwnS σ ρ) (fun x H1 => D.nx (σ.set i (some x)) H1) (m ρ) := by
  have z := AfterS.bindS0 (σ := σ) q
  cases hm : m ρ with
  | bad => rw [hm] at z; exact z
  | exc c ρ1 => rw [hm] at z; exact z
  | ok r ρ1 =>
    rw [hm] at z
    intro S' H' I' x'
    obtain ⟨z1, z2, z3⟩ := z S' H' I' x'
    cases r with
    | val d => exact fun v hv => setSl_val I' hv (AfterS.mono x' z1)
    | own c => exact fun p o nS nB nH hp hc no => setSl_own I' nS nB hp hc no x' nH z1
theorem xs_set (hN : X.N.Nodup) (hi : X.N[i]? = some x) (hx : Loc X.env.scope x) (he : XE X B W e m) (hs : swapsWith e (some (.Name x pos')) pos.line X.env = pure false := by rfl) (hf : X.fn x = true ∨ X.env.scope.names.lookup x = some .local := by first | exact .inl rfl | exact .inr rfl | assumption) :
    XS X B W (.Assign [.Name x pos'] e pos) (mSet i m) :=
  ⟨(ps_set hN hi hx he.pe hs hf).imp fun D σ H ⟨S, ρ, I, q⟩ => ⟨S, ρ, I, set_of q⟩⟩
/-- an expression whose value is dropped -/
def mDrop (m : M) (ρ : Rho) : OS := (m ρ).bindS fun _ ρ1 => .nx ρ1
theorem xs_expr (he : XE X B W e m) (hs : swapsWith e none pos.line X.env = pure false := by rfl) : XS X B W (.Expr e pos) (mDrop m) :=
  ⟨(ps_expr he.pe hs).imp fun D σ H ⟨S, ρ, I, q⟩ => ⟨S, ρ, I, AfterG.ofV (AfterG.imp (AfterS.bindS (σ := σ) q) fun r ρ1 S1 H1 I1 e1 q1 v hv => q1 S1 H1 σ I1 I1.refl)⟩⟩
def mRet (m : M) (ρ : Rho) : OS := (m ρ).bindS fun r ρ1 => .rt r ρ1
theorem xs_ret (he : XE X B W e m) : XS X B W (.Return (some e) pos) (mRet m) := by
  refine ⟨(ps_ret he.pe).imp fun D σ H ⟨S, ρ, I, q⟩ => ⟨S, ρ, I, AfterG.imp (AfterS.bindS (σ := σ) q) fun r ρ1 S1 H1 I1 e1 q1 => ?_⟩⟩
  have z := q1 S1 H1 σ I1 I1.refl
  cases r with
  | val d => exact z
  | own c => exact fun p o n1 n2 _ n4 n5 n6 => z p o n1 n2 n4 n5 n6
/-- return of a name: what it owns leaves -/
def mRetN (i : Nat) (ρ : Rho) : OS := match ρ[i]? with
  | some (.val d) => .rt (.val d) ρ
  | some (.own c) => .rt (.own c) (ρ.set i .un)
  | _ => .bad
theorem xs_retN (he : PE X e (tVar i)) : XS X B W (.Return (some e) pos) (mRetN i) := by
  refine ⟨(ps_ret he).imp fun D σ H ⟨S, ρ, I, q⟩ => ?_⟩
  unfold mRetN at q
  cases hr : ρ[i]? with
  | none => rw [hr] at q; exact q.elim
  | some s =>
    rw [hr] at q
    obtain ⟨v, e, z⟩ := I.at hr
    cases s with
    | un => exact q.elim
    | fz c => exact q.elim
    | io c => exact q.elim
    | val d => obtain ⟨x, rfl, z⟩ := z; exact ⟨x, e, q S H σ I I.refl x z⟩
    | own c =>
      obtain ⟨p, o, rfl, nS, nB, hp, hc⟩ := z
      obtain ⟨I1, _, _, _, no⟩ := I.leave hr e
      refine ⟨.ref p, e, q S H σ I1 (Ext.less I.gd fun a h => ?_) p o nS nB hp hc no⟩
      refine OwnS.setUn (i := i) (v := some (.ref p)) ?_
      rw [set_same e]
      exact h
def mRetNone (ρ : Rho) : OS := .rt (.val .none) ρ
theorem xs_retNone : XS X B W (.Return none pos) mRetNone := ⟨ps_retN.imp fun D σ H ⟨S, ρ, I, q⟩ => q S H σ I I.refl _ .non⟩
def mIte (c : MT) (a b : MS) (ρ : Rho) : OS := (c ρ).bindS fun t ρ1 => if t then a ρ1 else b ρ1
theorem xs_if {c : Expr} {a b : List Stmt} {mc : MT} {ma mb : MS} (hc : XT X B W c mc) (ha : XSs X B W a ma) (hb : XSs X B W b mb) : XS X B W (.If c a b pos) (mIte mc ma mb) := by
  refine ⟨(ps_if hc.pt ha.pss hb.pss).imp fun D σ H ⟨S, ρ, I, q⟩ => ⟨S, ρ, I, AfterG.imp (AfterS.bindS (σ := σ) q) fun t ρ1 S1 H1 I1 e1 q1 => ?_⟩⟩
  cases t with
  | true => exact ⟨S1, ρ1, I1, q1⟩
  | false => exact ⟨S1, ρ1, I1, q1⟩
/-- name op= e -/
def mAug (f : D → D → Option Rv) (i : Nat) (o : Opd) (ρ : Rho) : OS := match rhoD ρ i with
  | some _ => (o.ev ρ).bindS fun h ρ1 => match rhoD ρ1 i, h.res ρ1 with
    | some d, some e => (match f d e with
      | some (.val z) => setSl i (.val z) ρ1
      | _ => .bad)
    | _, _ => .bad
  | none => .bad
theorem xs_aug {op : Operator} {r : R2} {f : D → D → Option Rv} {o : Opd} (hN : X.N.Nodup) (hi : X.N[i]? = some x) (hx : Loc X.env.scope x) (he : XO X B W e o) (ho : OpR X (inplaceOp op) r) (hs : R2Spec X.K r f) (hf : X.fn x = true ∨ X.env.scope.names.lookup x = some .local := by first | exact .inl rfl | exact .inr rfl | assumption) :
    XS X B W (.AugAssign (.Name x pos') op e pos) (mAug f i o) := by
  refine ⟨(ps_aug (ti := r) hN hi hx he.pe ho hf).imp fun D σ H ⟨S, ρ, I, q⟩ => ?_⟩
  unfold mAug at q
  cases h0 : rhoD ρ i with
  | none => rw [h0] at q; exact q.elim
  | some d0 =>
    rw [h0] at q
    obtain ⟨v, e1, _⟩ := I.read h0
    refine ⟨v, e1, S, ρ, I, AfterG.imp (AfterS.bindS (σ := σ) q) fun h ρ1 S1 H1 I1 e1' q1 y hy => ?_⟩
    cases h1 : rhoD ρ1 i with
    | none => rw [h1] at q1; exact q1.elim
    | some d =>
      cases h2 : h.res ρ1 with
      | none => rw [h1, h2] at q1; exact q1.elim
      | some d2 =>
        rw [h1, h2] at q1
        dsimp only at q1
        cases hf : f d d2 with
        | none => rw [hf] at q1; exact q1.elim
        | some rv =>
          rw [hf] at q1
          cases rv with
          | own c => exact q1.elim
          | val z =>
            obtain ⟨v', e2, hv⟩ := I1.read h1
            rw [e1] at e2; cases e2
            exact hs B W σ S1 H1 ρ1 v y d d2 _ _ I1 hv (hy.dq I1 h2) hf fun S3 H3 I3 e3 w hw => setSl_val I3 hw (AfterS.mono e3 q1)
end

/-! ### targets -/
def noW : WX := fun _ _ _ _ => False
inductive CT where
  | nm (i : Nat) | tu (l : List CT)
mutual
def bindCT : CT → D → Rho → Option Rho
  | .nm i, d, ρ => match ρ[i]? with
    | some t => if t.free = true then some (ρ.set i (.val d)) else none
    | none => none
  | .tu l, .tuple ds, ρ => bindCTs l ds ρ
  | .tu _, _, _ => none
def bindCTs : List CT → List D → Rho → Option Rho
  | [], [], ρ => some ρ
  | c :: cs, d :: ds, ρ => (bindCT c d ρ).bind fun ρ1 => bindCTs cs ds ρ1
  | _, _, _ => none
end
mutual
def ctG (K : PySem.W.Frag) : CT → TG
  | .nm i => gName i
  | .tu l => L2.gTup K l.length (ctGs K l)
def ctGs (K : PySem.W.Frag) : List CT → TGs
  | [] => gNil
  | c :: cs => gCons (ctG K c) (ctGs K cs)
end
mutual
/-- the slots that are stored -/
def slotsCT : CT → List Nat
  | .nm i => [i]
  | .tu l => slotsCTs l
def slotsCTs : List CT → List Nat
  | [] => []
  | c :: cs => slotsCT c ++ slotsCTs cs
end
def XG (X : Cx) (e : Expr) (c : CT) : Prop := PG X e (ctG X.K c)
def XGs (X : Cx) (es : List Expr) (cs : List CT) : Prop := PGs X es (ctGs X.K cs)
section
variable {X : Cx} {i : Nat} {x : Str} {pos : Pos} {e : Expr} {es : List Expr} {c : CT} {cs : List CT}
theorem xg_name (hN : X.N.Nodup) (hi : X.N[i]? = some x) (hx : Loc X.env.scope x) (hf : X.fn x = true ∨ X.env.scope.names.lookup x = some .local := by first | exact .inl rfl | exact .inr rfl | assumption) : XG X (.Name x pos) (.nm i) := pg_name hN hi hx hf
theorem xgs_nil : XGs X [] [] := pgs_nil
theorem xgs_cons (h1 : XG X e c) (h2 : XGs X es cs) (hs : (assignEach (e :: es) X.env).map (·.2) = assign e X.env :: (assignEach es X.env).map (·.2) := by rfl) : XGs X (e :: es) (c :: cs) := pgs_cons h1 h2 hs
theorem xg_tup {k : Nat} (hc : X.calm = true) (h : XGs X es cs) (hn : (assignEach es X.env).length = cs.length := by rfl) (hst : (assignEach es X.env).findIdx? (·.1) = none := by rfl) : XG X (.Tuple es k pos) (.tu cs) := pg_tup hc h hn hst
end
theorem wipe_set {σ : L2.St} {i : Nat} {v : V} : ∀ {vs : List Nat}, i ∈ vs → wipe (σ.set i (some v)) vs = wipe σ vs
  | [], h => by cases h
  | j :: vs, h => by
    show (wipe (σ.set i (some v)) vs).set j none = (wipe σ vs).set j none
    by_cases hv : i ∈ vs
    · rw [wipe_set hv]
    · have e : i = j := by
        rcases List.mem_cons.mp h with h | h
        · exact h
        · exact absurd h hv
      subst e
      have : ∀ (us : List Nat), i ∉ us → wipe (σ.set i (some v)) us = (wipe σ us).set i (some v) := by
        intro us
        induction us with
        | nil => intro _; rfl
        | cons u us ih =>
          intro hu
          show (wipe (σ.set i (some v)) us).set u none = ((wipe σ us).set u none).set i (some v)
          rw [ih fun z => hu (List.mem_cons_of_mem _ z), List.set_comm _ _ (fun z => hu (by rw [z]; exact List.mem_cons_self))]
      rw [this vs hv, List.set_set]
section
variable {K : PySem.W.Frag} {B : Base} {S : AS} {H : Hp}
mutual
theorem ctG_of : ∀ {vs : List Nat} {c : CT} {d : D} {v : V} {σ : L2.St} {ρ ρ' : Rho} {Q : L2.St → Hp → Prop}, EnvOk K B S H σ ρ → DS K S H v d → bindCT c d ρ = some ρ' → (∀ i ∈ slotsCT c, i ∈ vs) →
    (∀ σ', EnvOk K B S H σ' ρ' → Ext S H (OwnS σ ρ) S H (OwnS σ' ρ') → wipe σ' vs = wipe σ vs → Q σ' H) → ctG K c v σ H Q
  | vs, .nm i, d, v, σ, ρ, ρ', Q, I, hd, hb, hs, q => by
    unfold bindCT at hb
    cases hr : ρ[i]? with
    | none => rw [hr] at hb; cases hb
    | some s =>
      rw [hr] at hb
      dsimp only at hb
      by_cases hf : s.free = true
      case neg => rw [if_neg hf] at hb; cases hb
      rw [if_pos hf] at hb
      cases hb
      exact q _ (I.setVal hd (free_at hr hf)) (Ext.less I.gd fun a h => h.setVal) (wipe_set (hs i (by simp [slotsCT])))
  | vs, .tu l, d, v, σ, ρ, ρ', Q, I, hd, hb, hs, q => by
    cases d <;> first
      | (simp only [bindCT] at hb; cases hb; done)
      | skip
    rename_i ds
    simp only [bindCT] at hb
    cases hd with
    | tup h1 h2 =>
      obtain ⟨hl, hg⟩ := ctGs_of (vs' := vs) (cs := l) I h2 hb (fun i hi => hs i (by simpa [slotsCT] using hi)) q
      exact ⟨_, _, rfl, h1, by rw [h2.length]; exact hl, hg⟩
theorem ctGs_of : ∀ {vs' : List Nat} {cs : List CT} {ds : List D} {xs : List V} {σ : L2.St} {ρ ρ' : Rho} {Q : L2.St → Hp → Prop}, EnvOk K B S H σ ρ → DSs K S H xs ds → bindCTs cs ds ρ = some ρ' → (∀ i ∈ slotsCTs cs, i ∈ vs') →
    (∀ σ', EnvOk K B S H σ' ρ' → Ext S H (OwnS σ ρ) S H (OwnS σ' ρ') → wipe σ' vs' = wipe σ vs' → Q σ' H) → ds.length = cs.length ∧ ctGs K cs xs σ H Q
  | _, [], [], xs, σ, ρ, ρ', Q, I, hd, hb, hs, q => by
    cases hd
    cases hb
    exact ⟨rfl, rfl, q σ I I.refl rfl⟩
  | vs', c :: cs, d :: ds, xs, σ, ρ, ρ', Q, I, hd, hb, hs, q => by
    simp only [bindCTs] at hb
    cases h1 : bindCT c d ρ with
    | none => rw [h1] at hb; cases hb
    | some ρ1 =>
      rw [h1, Option.bind_some] at hb
      cases hd with
      | cons g1 g2 =>
        rename_i v xs
        have hl : ds.length = cs.length := by
          have : ∀ (cs : List CT) (ds : List D) (ρ ρ' : Rho), bindCTs cs ds ρ = some ρ' → ds.length = cs.length := by
            intro cs
            induction cs with
            | nil => intro ds ρ ρ' h; cases ds with
              | nil => rfl
              | cons _ _ => simp [bindCTs] at h
            | cons c cs ih => intro ds ρ ρ' h; cases ds with
              | nil => simp [bindCTs] at h
              | cons d ds =>
                simp only [bindCTs] at h
                cases hh : bindCT c d ρ with
                | none => rw [hh] at h; cases h
                | some ρ1 => rw [hh, Option.bind_some] at h; rw [List.length_cons, List.length_cons, ih ds ρ1 ρ' h]
          exact this cs ds ρ1 ρ' hb
        refine ⟨by rw [List.length_cons, List.length_cons, hl], v, xs, rfl, ?_⟩
        refine ctG_of (vs := vs') (c := c) I g1 h1 (fun i hi => hs i (by simp [slotsCTs, hi])) fun σ1 I1 e1 w1 => ?_
        exact (ctGs_of I1 g2 hb (fun i hi => hs i (by simp [slotsCTs, hi])) fun σ2 I2 e2 w2 => q σ2 I2 (e1.trans e2) (w2.trans w1)).2
  | _, [], _ :: _, _, _, _, _, _, _, _, hb, _, _ => by simp [bindCTs] at hb
  | _, _ :: _, [], _, _, _, _, _, _, _, hb, _, _ => by simp [bindCTs] at hb
end
end
def mAsg (c : CT) (m : M) (ρ : Rho) : OS := (m ρ).bindS fun r ρ1 => match bindCT c r.dat ρ1 with
  | some ρ2 => .nx ρ2
  | none => .bad
theorem xs_asg {X : Cx} {B : Base} {W : WX} {tg e : Expr} {c : CT} {m : M} {pos : Pos} (hg : XG X tg c) (he : XE X B W e m) (hs : swapsWithSole [tg] e pos.line X.env = pure false := by rfl) (hw : swappedStores [tg] e X.env = pure none := by rfl)
    (h1 : (assignEach [tg] X.env).map (·.2) = [assign tg X.env] := by rfl) : XS X B W (.Assign [tg] e pos) (mAsg c m) := by
  refine ⟨(ps_asg he.pe hg hs hw h1).imp fun D σ H ⟨S, ρ, I, q⟩ => ⟨S, ρ, I, AfterG.ofV (AfterG.imp (AfterS.bindS (σ := σ) q) fun r ρ1 S1 H1 I1 e1 q1 v hv => ?_)⟩⟩
  -- where the value is shared, the slots' ownership stands in S1
  cases hb : bindCT c r.dat ρ1 with
  | none => rw [hb] at q1; exact q1.elim
  | some ρ2 =>
    rw [hb] at q1
    exact ctG_of (vs := slotsCT c) I1 hv hb (fun i hi => hi) fun σ' I' e' _ => q1 S1 H1 σ' I' e'
end DL
set_option Elab.async false
set_option linter.all false
set_option maxRecDepth 100000
set_option maxHeartbeats 1000000
namespace DL
open PySem PySem.Spec PyProof.Rows L2

/-! ### lists of one's own, changed in place -/
def lsAt (ρ : Rho) (i : Nat) : Option (List D) := match ρ[i]? with
  | some s => (match s.oc with
    | some (.ls ds) => some ds
    | _ => none)
  | none => none
def putLs (ρ : Rho) (i : Nat) (ds : List D) : Rho := match ρ[i]? with
  | some s => ρ.set i (s.put (.ls ds))
  | none => ρ
theorem lsAt_some {ρ : Rho} {i : Nat} {ds : List D} (h : lsAt ρ i = some ds) : ∃ s, ρ[i]? = some s ∧ s.oc = some (.ls ds) ∧ ∀ ds', putLs ρ i ds' = ρ.set i (s.put (.ls ds')) := by
  unfold lsAt at h
  cases hr : ρ[i]? with
  | none => rw [hr] at h; cases h
  | some s =>
    rw [hr] at h
    dsimp only at h
    refine ⟨s, rfl, ?_, fun ds' => by unfold putLs; rw [hr]⟩
    cases ho : s.oc with
    | none => rw [ho] at h; cases h
    | some c =>
      rw [ho] at h
      cases c with
      | ls l => cases h; rfl
      | dc _ => cases h
section
variable {K : PySem.W.Frag} {B : Base} {S : AS} {H : Hp} {σ : L2.St} {ρ : Rho}
theorem EnvOk.mine (I : EnvOk K B S H σ ρ) {i : Nat} {ds : List D} (h : lsAt ρ i = some ds) : ∃ p xs, σ[i]? = some (some (.ref p)) ∧ H p = some (.lst xs) ∧ DSs K S H xs ds ∧
    ∀ xs' ds', DSs K S H xs' ds' → EnvOk K B S (upd H p (.lst xs')) σ (putLs ρ i ds') ∧ Ext S H (OwnS σ ρ) S (upd H p (.lst xs')) (OwnS σ (putLs ρ i ds')) := by
  obtain ⟨s, h1, h2, h3⟩ := lsAt_some h
  obtain ⟨p, u, e1, e2, e3, _⟩ := I.write (o := .lst []) (c' := .ls []) h1 h2 .nil
  obtain ⟨xs, rfl, hx⟩ := e3.ls
  refine ⟨p, xs, e1, e2, hx, fun xs' ds' hd => ?_⟩
  rw [h3]
  obtain ⟨p', _, f1, _, _, f4, f5⟩ := I.write (o := .lst xs') (c' := .ls ds') h1 h2 hd
  rw [e1] at f1
  cases f1
  exact ⟨f4, f5⟩
end
def mApp (i : Nat) (m : M) (ρ : Rho) : Out Rv := match lsAt ρ i with
  | some _ => (m ρ).bind fun r ρ1 => (match lsAt ρ1 i with
    | some ds => if ds.length < sizeLine then .ok (.val .none) (putLs ρ1 i (ds ++ [r.dat])) else .bad
    | none => .bad)
  | none => .bad
def mPop (i : Nat) (ρ : Rho) : Out Rv := match lsAt ρ i with
  | some ds => (match ds[ds.length - 1]? with
    | some d => .ok (.val d) (putLs ρ i ds.dropLast)
    | none => .bad)
  | none => .bad
section
variable {X : Cx} {B : Base} {W : WX} {e o : Expr} {m : M} {i : Nat} {apos cpos pos : Pos}
theorem xe_app (ho : PE X o (tVar i)) (he : XE X B W e m) (hbase : attributeBase o "append" X.env (eval o X.env) = eval o X.env := by rfl)
    (hfew : ((backTo cpos (starEach [e] X.env)).all (fun x => !x.1) && (backToKw cpos (keywordEach [] X.env)).all (fun x => x.1.isSome)
      && decide ([e].length + ([] : List Keyword).length + (if ([] : List Keyword).isEmpty then 0 else 1) < 30)) = true := by rfl)
    (hline : (apos.endLine == cpos.line) = true := by rfl) (hs : starEach [e] X.env = (false, eval e X.env) :: starEach [] X.env := by rfl) (hplain : (backTo cpos (starEach [] X.env)).any (·.1) = false := by rfl) :
    XE X B W (.Call (.Attribute o "append" apos) [e] [] cpos) (mApp i m) := by
  refine ⟨(pe_bm PySem.F.plainAttrs_list PySem.F.slot_list_append PySem.F.type_list_append mt_append ho (pa_cons he.pe pa_nil hs) hbase hfew hline hs hplain).imp fun σ H Q ⟨S, ρ, I, q⟩ => ?_⟩
  unfold mApp at q
  cases h0 : lsAt ρ i with
  | none => rw [h0] at q; exact q.elim
  | some d0 =>
    rw [h0] at q
    obtain ⟨p, x0, e1, e2, _, _⟩ := I.mine h0
    refine ⟨.ref p, e1, .inl ⟨rfl, x0, .of e2⟩, ⟨S, ρ, I, AfterG.ofV (AfterG.imp (AfterG.bind MonoR.ret q) fun r ρ1 S1 H1 I1 x1 q1 v hv => ?_)⟩⟩
    cases h1 : lsAt ρ1 i with
    | none => rw [h1] at q1; exact q1.elim
    | some ds =>
      rw [h1] at q1
      dsimp only at q1
      by_cases hl : ds.length < sizeLine
      · rw [if_pos hl] at q1
        obtain ⟨p', xs, f1, f2, f3, f4⟩ := I1.mine h1
        rw [e1] at f1; cases f1
        obtain ⟨g1, g2⟩ := f4 (xs ++ [v]) (ds ++ [r.dat]) (f3.append (.cons hv .nil))
        exact ⟨p, xs, v, rfl, rfl, f2, by rw [f3.length]; exact hl, q1 _ _ g1 g2 .non .non⟩
      · rw [if_neg hl] at q1; exact q1.elim
theorem xe_pop (ho : PE X o (tVar i)) (hbase : attributeBase o "pop" X.env (eval o X.env) = eval o X.env := by rfl) (hline : (apos.endLine == cpos.line) = true := by rfl) :
    XE X B W (.Call (.Attribute o "pop" apos) [] [] cpos) (mPop i) := by
  refine ⟨(pe_bm0 PySem.F.plainAttrs_list PySem.F.slot_list_pop PySem.F.type_list_pop mt_pop ho hbase hline).imp fun σ H Q ⟨S, ρ, I, q⟩ => ?_⟩
  unfold mPop at q
  cases h0 : lsAt ρ i with
  | none => rw [h0] at q; exact q.elim
  | some ds =>
    rw [h0] at q
    obtain ⟨p, xs, e1, e2, e3, e4⟩ := I.mine h0
    dsimp only at q
    cases hd : ds[ds.length - 1]? with
    | none => rw [hd] at q; exact q.elim
    | some d =>
      rw [hd] at q
      obtain ⟨v, hv, dv⟩ := e3.get hd
      obtain ⟨g1, g2⟩ := e4 xs.dropLast ds.dropLast e3.dropLast
      exact ⟨.ref p, e1, .inl ⟨rfl, xs, .of e2⟩, p, xs, v, rfl, rfl, e2, by rw [e3.length]; exact hv, q _ _ g1 g2 v (dv.ext g2)⟩
/-- xs[k] = v -/
def mSub (i : Nat) (k : Opd) (m : M) (ρ : Rho) : OS := (m ρ).bindS fun r ρ1 => match lsAt ρ1 i with
  | some _ => (k.ev ρ1).bindS fun h ρ2 => (match lsAt ρ2 i, h.res ρ2 with
    | some ds, some (.int j) => (match ixN ds.length j with
      | some n => .nx (putLs ρ2 i (ds.set n r.dat))
      | none => .bad)
    | _, _ => .bad)
  | none => .bad
theorem xs_sub {k : Expr} {ok : Opd} {spos : Pos} (ho : PE X o (tVar i)) (hk : XO X B W k ok) (he : XE X B W e m)
    (ha : ∀ v, assign (.Subscript o k spos) X.env v = (do
      let ov ← holding [v] (eval o X.env)
      let iv ← holding [v, ov] (eval k X.env)
      standAt spos
      holding [v, ov, iv] (setItem ov iv v)
      release [v, ov, iv] []) := by intro _; rfl)
    (hs : swapsWithSole [.Subscript o k spos] e pos.line X.env = pure false := by rfl) (hw : swappedStores [.Subscript o k spos] e X.env = pure none := by rfl)
    (h1 : (assignEach [.Subscript o k spos] X.env).map (·.2) = [assign (.Subscript o k spos) X.env] := by rfl) : XS X B W (.Assign [.Subscript o k spos] e pos) (mSub i ok m) := by
  refine ⟨(ps_asg he.pe (pg_sub ho hk.pe set_list ha) hs hw h1).imp fun D σ H ⟨S, ρ, I, q⟩ => ⟨S, ρ, I, AfterG.ofV (AfterG.imp (AfterS.bindS (σ := σ) q) fun r ρ1 S1 H1 I1 e1 q1 v hv => ?_)⟩⟩
  cases h0 : lsAt ρ1 i with
  | none => rw [h0] at q1; exact q1.elim
  | some d0 =>
    rw [h0] at q1
    obtain ⟨p, x0, e1, e2, _, _⟩ := I1.mine h0
    refine ⟨.ref p, e1, S1, ρ1, I1, AfterG.imp (AfterS.bindS (σ := σ) q1) fun h ρ2 S3 H3 I3 e3 q3 u hu => ?_⟩
    cases g1 : lsAt ρ2 i with
    | none => rw [g1] at q3; exact q3.elim
    | some ds =>
      cases g2 : h.res ρ2 with
      | none => rw [g1, g2] at q3; exact q3.elim
      | some dk =>
        rw [g1, g2] at q3
        cases dk <;> first
          | exact False.elim q3
          | skip
        rename_i j
        dsimp only at q3
        cases g3 : ixN ds.length j with
        | none => rw [g3] at q3; exact q3.elim
        | some n =>
          rw [g3] at q3
          obtain ⟨p', xs, f1, f2, f3, f4⟩ := I3.mine g1
          rw [e1] at f1; cases f1
          obtain ⟨z1, z2⟩ := f4 (xs.set n v) (ds.set n r.dat) (f3.set n (hv.ext e3))
          exact ⟨p, xs, j, n, rfl, (hu.dq I3 g2).int, f2, by rw [f3.length]; exact g3, q3 _ _ _ z1 z2⟩
/-- xs.extend(e), e a list -/
def mExt (i : Nat) (k : Opd) (ρ : Rho) : Out Rv := match lsAt ρ i with
  | some _ => (k.ev ρ).bind fun h ρ1 => (match lsAt ρ1 i, h.res ρ1 with
    | some ds, some (.list es) => if ds.length + es.length ≤ sizeLine then .ok (.val .none) (putLs ρ1 i (ds ++ es)) else .bad
    | _, _ => .bad)
  | none => .bad
theorem xe_ext {k : Opd} (ho : PE X o (tVar i)) (hk : XO X B W e k) (hbase : attributeBase o "extend" X.env (eval o X.env) = eval o X.env := by rfl)
    (hfew : ((backTo cpos (starEach [e] X.env)).all (fun x => !x.1) && (backToKw cpos (keywordEach [] X.env)).all (fun x => x.1.isSome)
      && decide ([e].length + ([] : List Keyword).length + (if ([] : List Keyword).isEmpty then 0 else 1) < 30)) = true := by rfl)
    (hline : (apos.endLine == cpos.line) = true := by rfl) (hs : starEach [e] X.env = (false, eval e X.env) :: starEach [] X.env := by rfl) (hplain : (backTo cpos (starEach [] X.env)).any (·.1) = false := by rfl) :
    XE X B W (.Call (.Attribute o "extend" apos) [e] [] cpos) (mExt i k) := by
  refine ⟨(pe_bm PySem.F.plainAttrs_list PySem.F.slot_list_extend PySem.F.type_list_extend mt_extend ho (pa_cons hk.pe pa_nil hs) hbase hfew hline hs hplain).imp fun σ H Q ⟨S, ρ, I, q⟩ => ?_⟩
  unfold mExt at q
  cases h0 : lsAt ρ i with
  | none => rw [h0] at q; exact q.elim
  | some d0 =>
    rw [h0] at q
    obtain ⟨p, x0, e1, e2, _, _⟩ := I.mine h0
    refine ⟨.ref p, e1, .inl ⟨rfl, x0, .of e2⟩, ⟨S, ρ, I, AfterG.imp (AfterG.bind MonoR.ret q) fun h ρ1 S1 H1 I1 x1 q1 v hv => ?_⟩⟩
    cases h1 : lsAt ρ1 i with
    | none => rw [h1] at q1; exact q1.elim
    | some ds =>
      cases h2 : h.res ρ1 with
      | none => rw [h1, h2] at q1; exact q1.elim
      | some d2 =>
        rw [h1, h2] at q1
        cases d2 <;> first
          | exact False.elim q1
          | skip
        rename_i es
        dsimp only at q1
        by_cases hl : ds.length + es.length ≤ sizeLine
        · rw [if_pos hl] at q1
          obtain ⟨p', xs, f1, f2, f3, f4⟩ := I1.mine h1
          rw [e1] at f1; cases f1
          obtain ⟨b, zs, rfl, k1, k2⟩ := (hv.dq I1 h2).list
          obtain ⟨g1, g2⟩ := f4 (xs ++ zs) (ds ++ es) (f3.append k2)
          exact ⟨p, b, xs, zs, rfl, rfl, f2, k1, by rw [f3.length, k2.length]; exact hl, q1 _ _ g1 g2 .non .non⟩
        · rw [if_neg hl] at q1; exact q1.elim
end

/-! ### two names, two values -/
section
variable {K : PySem.W.Frag} {B : Base} {W : WX} {σ : L2.St}
/-- a value that a name is to hold -/
def RvOk (K : PySem.W.Frag) (B : Base) (S : AS) (H : Hp) (σ : L2.St) (ρ : Rho) (H0 : Hp) (v : V) : Rv → Prop
  | .val d => DS K S H v d
  | .own c => ∃ p o, v = .ref p ∧ ¬ S p ∧ B.H p = none ∧ H p = some o ∧ OcOk K S H o c ∧ (∀ i, ¬ Own σ ρ i p) ∧ H0 p = none
theorem RvOk.ext {S S1 : AS} {H H1 H0 : Hp} {ρ ρ1 : Rho} {v : V} {r : Rv} (e : Ext S H (OwnS σ ρ) S1 H1 (OwnS σ ρ1)) (h : RvOk K B S H σ ρ H0 v r) : RvOk K B S1 H1 σ ρ1 H0 v r := by
  cases r with
  | val d => exact DS.ext e h
  | own c =>
    obtain ⟨p, o, rfl, h1, h2, h3, h4, h5, h6⟩ := h
    have no : ¬ OwnS σ ρ p := fun ⟨i, z⟩ => h5 i z
    refine ⟨p, o, rfl, fun z => ?_, h2, e.oth p o h3 no, h4.ext e, fun i z => ?_, h6⟩
    · rcases e.snew p z with z | z | z
      · exact h1 z
      · exact no z
      · rw [h3] at z; cases z
    · rcases e.onew p ⟨i, z⟩ with z | z
      · exact no z
      · rw [h3] at z; cases z
theorem After.rv {S O : AS} {H : Hp} {o : Out Rv} {Q : VK} (h : AfterG K B W σ S H O (fun H0 r ρ S' H' => ∀ v, RvOk K B S' H' σ ρ H0 v r → Q v H') o) : After K B W σ S H O Q o := by
  cases o with
  | exc c ρ => exact h
  | bad => exact h
  | ok r ρ =>
    intro S' H' I x
    have z := h S' H' I x
    cases r with
    | val d => exact fun v hv => z v hv
    | own c => exact fun p o n1 n2 n3 n4 n5 n6 => z (.ref p) ⟨p, o, rfl, n1, n2, n4, n5, n6, n3⟩
theorem setSl_rv {E : Ends} {S S0 O0 : AS} {H H0 : Hp} {ρ : Rho} {r : Rv} {v : V} {i : Nat} (I : EnvOk K B S H σ ρ) (hv : RvOk K B S H σ ρ H0 v r) (e : Ext S0 H0 O0 S H (OwnS σ ρ)) (q : AfterS K B W S0 H0 O0 E (setSl i r.sl ρ)) : E.nx (σ.set i (some v)) H := by
  cases r with
  | val d => exact setSl_val I hv (AfterS.mono e q)
  | own c => obtain ⟨p, o, rfl, h1, h2, h3, h4, h5, h6⟩ := hv; exact setSl_own I h1 h2 h3 h4 h5 e h6 q
end
def mPar (i j : Nat) (a b : M) (ρ : Rho) : OS := (a ρ).bindS fun r ρ1 => (b ρ1).bindS fun t ρ2 => match ρ2[i]? with
  | some u => if u.free = true then setSl j t.sl (ρ2.set i r.sl) else .bad
  | none => .bad
theorem xs_par {X : Cx} {B : Base} {W : WX} {i j : Nat} {x y : Str} {a b : Expr} {ma mb : M} {px py pt pos : Pos} {kt k2 pt2} (hc : X.calm = true) (hN : X.N.Nodup) (hi : X.N[i]? = some x) (hj : X.N[j]? = some y) (hij : i ≠ j)
    (hx : X.env.scope.names.lookup x = some .local) (hy : X.env.scope.names.lookup y = some .local) (ha : XE X B W a ma) (hb : XE X B W b mb)
    (hw : swappedStores [.Tuple [.Name x px, .Name y py] kt pt] (.Tuple [a, b] k2 pt2) X.env = pure (some [x, y]))
    (hs : swapsWithSole [.Tuple [.Name x px, .Name y py] kt pt] (.Tuple [a, b] k2 pt2) pos.line X.env = pure false := by rfl)
    (s1 : starEach [a, b] X.env = (false, eval a X.env) :: starEach [b] X.env := by rfl) (s2 : starEach [b] X.env = (false, eval b X.env) :: starEach [] X.env := by rfl) :
    XS X B W (.Assign [.Tuple [.Name x px, .Name y py] kt pt] (.Tuple [a, b] k2 pt2) pos) (mPar i j ma mb) := by
  refine ⟨(ps_par hc hN hi hj hij hx hy (pa_cons ha.pe (pa_cons hb.pe pa_nil s2) s1) hw hs).imp fun D σ H ⟨S, ρ, I, q⟩ => ⟨S, ρ, I, After.rv (AfterG.imp (AfterS.bindS0 (σ := σ) q) fun r ρ1 S1 H1 I1 e1 ⟨q1, _, e1'⟩ v hv => ?_)⟩⟩
  refine ⟨S1, ρ1, I1, After.rv ?_⟩
  have q1' := AfterS.bindS0 (σ := σ) q1
  cases hb2 : mb ρ1 with
  | bad => rw [hb2] at q1'; exact q1'
  | exc c ρ2 => rw [hb2] at q1'; exact fun S' H' I' x' => q1' S' H' I' (e1.trans x')
  | ok t ρ2 =>
    rw [hb2] at q1'
    intro S3 H3 I3 e3 w hw
    obtain ⟨q3, _, _⟩ := q1' S3 H3 I3 (e1.trans e3)
    have hv3 := hv.ext e3
    refine ⟨v, w, rfl, ?_⟩
    cases hr : ρ2[i]? with
    | none => rw [hr] at q3; exact q3.elim
    | some s =>
      rw [hr] at q3
      dsimp only at q3
      by_cases hf : s.free = true
      case neg => rw [if_neg hf] at q3; exact q3.elim
      have nio := free_at hr hf
      have q3' : AfterS X.K B W S H (OwnS σ ρ) D (setSl j t.sl (ρ2.set i r.sl)) := by rw [if_pos hf] at q3; exact q3
      clear q3
      -- the first store
      have st : EnvOk X.K B S3 H3 (σ.set i (some v)) (ρ2.set i r.sl) ∧ Ext S H (OwnS σ ρ) S3 H3 (OwnS (σ.set i (some v)) (ρ2.set i r.sl)) ∧ (∀ p, Own (σ.set i (some v)) (ρ2.set i r.sl) i p → v = .ref p ∧ H p = none ∧ ∃ c, r = .own c) := by
        cases r with
        | val d =>
          refine ⟨I3.setVal hv3 nio, (e1.trans e3).trans (Ext.less I3.gd fun a h => h.setVal), fun p ⟨_, c, z⟩ => ?_⟩
          have hi' : i < ρ2.length := (List.getElem?_eq_some_iff.mp hr).1
          rw [show (Rv.val d).sl = Sl.val d from rfl, List.getElem?_set_self hi'] at z
          rcases z with z | z <;> cases z
        | own c =>
          obtain ⟨p, o, rfl, h1, h2, h3, h4, h5, h6⟩ := hv3
          refine ⟨I3.setOwn h1 h2 h3 h4 (fun j _ => h5 j) nio, (e1.trans e3).owns fun a h => h.setOwn.elim .inl fun z => .inr (z ▸ h6), fun p' ⟨z, _⟩ => ?_⟩
          have hi' : i < σ.length := by rw [I3.len]; exact (List.getElem?_eq_some_iff.mp hr).1
          rw [List.getElem?_set_self hi'] at z
          cases z
          exact ⟨rfl, h6, c, rfl⟩
      obtain ⟨I4, e4, o4⟩ := st
      -- the second
      cases t with
      | val d => exact setSl_val I4 hw (AfterS.mono e4 q3')
      | own c =>
        obtain ⟨p, o, rfl, h1, h2, h3, h4, h5, h6⟩ := hw
        refine setSl_own I4 h1 h2 h3 h4 (fun k z => ?_) e4 (e1.dn h6) q3'
        by_cases hk : i = k
        · subst hk
          obtain ⟨ev, _, c', er⟩ := o4 p z
          subst er
          obtain ⟨p', o', ep, k1, k2, k3, k4, k5, k6⟩ := hv
          rw [ev] at ep; cases ep
          rw [h6] at k3; cases k3
        · exact h5 k ((Own.set_ne hk).mp z)
end DL
set_option Elab.async false
set_option linter.all false
set_option maxRecDepth 100000
set_option maxHeartbeats 1000000
namespace DL
open PySem PySem.Spec PyProof.Rows L2 RT

/-! ### what is walked -/
def ItOk (K : PySem.W.Frag) (S : AS) (H : Hp) (J : It) (ds : List D) : Prop :=
  ∀ (S1 : AS) (H1 : Hp) (O O1 : AS), Ext S H O S1 H1 O1 → (∀ i d, ds[i]? = some d → J.go i H1 ∧ ∀ x H', J.yld i H1 x H' → (∃ T vs, H1 T = none ∧ H' = upd H1 T (.tup vs) ∧ x = .ref T ∧ ∃ es, d = .tuple es ∧ DSs K S1 H1 vs es) ∨ (H' = H1 ∧ DS K S1 H1 x d)) ∧ J.stop ds.length H1
abbrev MI := Rho → Out (List D)
def rdI (K : PySem.W.Frag) (B : Base) (W : WX) (m : MI) : TI := fun σ H R => ∃ S ρ, EnvOk K B S H σ ρ ∧ AfterG K B W σ S H (OwnS σ ρ) (fun _ ds _ S' H' => ∀ J, ItOk K S' H' J ds → R J H') (m ρ)
structure XI (X : Cx) (B : Base) (W : WX) (tg e : Expr) (m : MI) : Prop where
  pi : PI X tg e (rdI X.K B W m)
section
variable {K : PySem.W.Frag} {S : AS} {H : Hp}
theorem itOk_list {a : Addr} {xs : List V} {ds : List D} (h : LsS K S H a xs) (hd : DSs K S H xs ds) : ItOk K S H (Itl K a) ds := by
  intro S1 H1 O O1 e
  have q := (e.ls h).sq
  have hd1 := hd.ext e
  refine ⟨fun i d hi => ?_, ⟨xs, q, Nat.le_of_eq hd.length⟩⟩
  obtain ⟨v, h1, h2⟩ := hd1.get hi
  refine ⟨⟨xs, v, q, h1⟩, fun x H' y => ?_⟩
  obtain ⟨rfl, y2⟩ := y
  have z := y2 xs q
  rw [h1] at z; cases z
  exact .inr ⟨rfl, h2⟩
theorem itOk_tup {a : Addr} {xs : List V} {ds : List D} (h : SqT K H a xs) (hd : DSs K S H xs ds) : ItOk K S H (Itt K a) ds := by
  intro S1 H1 O O1 e
  have q := e.sqt h
  have hd1 := hd.ext e
  refine ⟨fun i d hi => ?_, ⟨xs, q, Nat.le_of_eq hd.length⟩⟩
  obtain ⟨v, h1, h2⟩ := hd1.get hi
  refine ⟨⟨xs, v, q, h1⟩, fun x H' y => ?_⟩
  obtain ⟨rfl, y2⟩ := y
  have z := y2 xs q
  rw [h1] at z; cases z
  exact .inr ⟨rfl, h2⟩
def rngD (lo : Int) (n : Nat) : List D := (List.range n).map fun k => .int (lo + (k : Nat))
def rngC (lo c : Int) (n : Nat) : List D := (List.range n).map fun k => .int (lo + (k : Nat) * c)
theorem itOk_rng {lo : Int} {n : Nat} : ItOk K S H (Itr lo n) (rngD lo n) := by
  intro S1 H1 O O1 e
  refine ⟨fun i d hi => ?_, by simp [rngD, Itr]⟩
  have hl : i < n := by have z := (List.getElem?_eq_some_iff.mp hi).1; simpa [rngD] using z
  simp only [rngD, List.getElem?_map, List.getElem?_range hl, Option.map_some, Option.some.injEq] at hi
  subst hi
  refine ⟨hl, fun x H' ⟨e1, e2⟩ => .inr ⟨e1, ?_⟩⟩
  rw [e2]; exact .int _
theorem itOk_rngC {lo c : Int} {n : Nat} : ItOk K S H (Itc lo c n) (rngC lo c n) := by
  intro S1 H1 O O1 e
  refine ⟨fun i d hi => ?_, by simp [rngC, Itc]⟩
  have hl : i < n := by have z := (List.getElem?_eq_some_iff.mp hi).1; simpa [rngC] using z
  simp only [rngC, List.getElem?_map, List.getElem?_range hl, Option.map_some, Option.some.injEq] at hi
  subst hi
  refine ⟨hl, fun x H' ⟨e1, e2⟩ => .inr ⟨e1, ?_⟩⟩
  rw [e2]; exact .int _
theorem getD_rev {α : Type} {xs : List α} {i : Nat} {d : α} (h : xs.reverse[i]? = some d) : i < xs.length ∧ xs[xs.length - 1 - i]? = some d := by
  have hl : i < xs.length := by have z := (List.getElem?_eq_some_iff.mp h).1; simpa using z
  exact ⟨hl, by rw [List.getElem?_reverse hl] at h; exact h⟩
theorem itOk_revL {a : Addr} {xs : List V} {ds : List D} (h : LsS K S H a xs) (hd : DSs K S H xs ds) : ItOk K S H (Itv K a xs.length) ds.reverse := by
  intro S1 H1 O O1 e
  have q := (e.ls h).sq
  have hd1 := hd.ext e
  refine ⟨fun i d hi => ?_, by rw [List.length_reverse, ← hd.length]; exact Nat.le_refl _⟩
  obtain ⟨hl, hi⟩ := getD_rev hi
  obtain ⟨v, h1, h2⟩ := hd1.get hi
  rw [← hd.length] at h1 hl
  refine ⟨⟨hl, xs, v, q, h1⟩, fun x H' y => ?_⟩
  obtain ⟨rfl, y2⟩ := y
  have z := y2 xs q
  rw [h1] at z; cases z
  exact .inr ⟨rfl, h2⟩
theorem itOk_revT {a : Addr} {xs : List V} {ds : List D} (h : SqT K H a xs) (hd : DSs K S H xs ds) : ItOk K S H (ItvT K a xs.length) ds.reverse := by
  intro S1 H1 O O1 e
  have q := e.sqt h
  have hd1 := hd.ext e
  refine ⟨fun i d hi => ?_, by rw [List.length_reverse, ← hd.length]; exact Nat.le_refl _⟩
  obtain ⟨hl, hi⟩ := getD_rev hi
  obtain ⟨v, h1, h2⟩ := hd1.get hi
  rw [← hd.length] at h1 hl
  refine ⟨⟨hl, xs, v, q, h1⟩, fun x H' y => ?_⟩
  obtain ⟨rfl, y2⟩ := y
  have z := y2 xs q
  rw [h1] at z; cases z
  exact .inr ⟨rfl, h2⟩
end
/-- a list's or a tuple's items -/
def iSeq (K : PySem.W.Frag) (tl : TE) : TI := fun σ H R => tl σ H fun x H1 => ∃ a, x = .ref a ∧ ((∃ xs, SqL K H1 a xs ∧ R (Itl K a) H1) ∨ (∃ xs, SqT K H1 a xs ∧ R (Itt K a) H1))
theorem pi_seq {X : Cx} {tg l : Expr} {tl : TE} (hl : PE X l tl) : PI X tg l (iSeq X.K tl) :=
  ⟨fun pins s σ H R I h => thn (hl.run pins s σ H _ I h) fun v s1 ⟨x, H1, I1, r1, a, e, q⟩ => by
    subst e
    cases r1
    have fp : ∀ b ∈ [s1.heap.objs.size], FpOk X pins H1 b := fun b hb => by
      have e : b = s1.heap.objs.size := by simpa using hb
      rw [e]
      exact I1.fpOk (Nat.le_refl _) (I1.hok.fresh (Nat.le_refl _))
    have kp : ∀ (o : Obj), Inv X pins σ H1 { s1 with heap := s1.heap.push o } := fun o => I1.kept (t' := s1.toks) fun _ _ z => Heap.get?_push_of_some _ z
    rcases q with ⟨xs, hq, q⟩ | ⟨xs, hq, q⟩
    · obtain ⟨_, _, p, _⟩ := I1.list hq
      exact wpAny_pyIter_list p.isList ⟨_, _, _, _, H1, rfl, kp _, turn_list a _, ⟨_, Heap.get?_push_size _ rfl, rfl, rfl⟩, fp, q⟩
    · obtain ⟨its, _, p, _⟩ := I1.tuple hq
      exact wpAny_pyIter_tuple (show s1.heap.IsTuple a its.toArray from p) ⟨_, _, _, _, H1, rfl, kp _, turn_tuple a _, ⟨_, Heap.get?_push_size _ rfl, rfl, rfl⟩, fp, q⟩⟩
/-- a value's items -/
def mIt (o : Opd) (ρ : Rho) : Out (List D) := (o.esc ρ).bind fun r ρ1 => match itD r.dat with
  | some ds => .ok ds ρ1
  | none => .bad
/-- the script's -/
def mItZ (i : Nat) (ρ : Rho) : Out (List D) := match ρ[i]? with
  | some (.fz ns) => .ok (ns.map .int) ρ
  | _ => .bad
theorem itD_ds {K : PySem.W.Frag} {S : AS} {H : Hp} {v : V} {d : D} {ds : List D} (hd : itD d = some ds) (h : DS K S H v d) : ∃ a xs, v = .ref a ∧ DSs K S H xs ds ∧ (LsS K S H a xs ∨ SqT K H a xs) := by
  cases d <;> cases hd
  · cases h with | lst h1 h2 h3 => exact ⟨_, _, rfl, h3, .inl (.inl ⟨h1, .inl h2⟩)⟩
  · cases h with | tup h1 h2 => exact ⟨_, _, rfl, h2, .inr h1⟩
section
variable {X : Cx} {B : Base} {W : WX} {tg e a b c : Expr} {o oa ob oc : Opd} {i : Nat} {p pos : Pos}
theorem xi_seq (h : XO X B W e o) : XI X B W tg e (mIt o) := by
  refine ⟨(pi_seq h.xe.pe).imp fun σ H R ⟨S, ρ, I, q⟩ => ⟨S, ρ, I, AfterG.ofV (AfterG.imp (AfterG.bind MonoR.c q) fun r ρ1 S1 H1 I1 e1 q1 v hv => ?_)⟩⟩
  cases hd : itD r.dat with
  | none => rw [hd] at q1; exact q1.elim
  | some ds =>
    rw [hd] at q1
    obtain ⟨a, xs, rfl, h1, h2⟩ := itD_ds hd hv
    have z := q1 S1 H1 I1 I1.refl
    rcases h2 with h2 | h2
    · exact ⟨a, rfl, .inl ⟨xs, h2.sq, z _ (itOk_list h2 h1)⟩⟩
    · exact ⟨a, rfl, .inr ⟨xs, h2, z _ (itOk_tup h2 h1)⟩⟩
theorem xi_fz (h : PE X e (tVar i)) : XI X B W tg e (mItZ i) := by
  refine ⟨(pi_seq h).imp fun σ H R ⟨S, ρ, I, q⟩ => ?_⟩
  unfold mItZ at q
  cases hr : ρ[i]? with
  | none => rw [hr] at q; exact q.elim
  | some s =>
    rw [hr] at q
    cases s <;> first
      | exact q.elim
      | skip
    obtain ⟨v, e, z⟩ := I.at hr
    obtain ⟨a, rfl, z⟩ := z
    exact ⟨.ref a, e, a, rfl, .inl ⟨_, z.sq, q S H I I.refl _ (itOk_list z (.of_ints _))⟩⟩
def inR (j : Int) : Bool := leN j 4611686018427387903
theorem inR_ok {j : Int} (h : inR j = true) : -(2 ^ 62) ≤ j ∧ j < 2 ^ 62 := by
  have := leN_iff.mp h
  omega
def gR1 : List D → Option (List D)
  | [.int j] => if inR j then some (rngD 0 j.toNat) else none
  | _ => none
def gR2 : List D → Option (List D)
  | [.int i, .int j] => if inR i && inR j then some (rngD i (j - i).toNat) else none
  | _ => none
def gR3 : List D → Option (List D)
  | [.int i, .int j, .int c] => if inR i && inR j && decide (c = -1) then some (rngC i c (i - j).toNat) else none
  | _ => none
def mRng (g : List D → Option (List D)) (os : List Opd) (ρ : Rho) : Out (List D) := (evAll os ρ).bind fun hs ρ1 => match (resAll ρ1 hs).bind g with
  | some ds => .ok ds ρ1
  | none => .bad
theorem mRng_of {K : PySem.W.Frag} {σ : L2.St} {H : Hp} {R : It → Hp → Prop} {Q : List V → Hp → Prop} {g : List D → Option (List D)} {os : List Opd} (h : rdI K B W (mRng g os) σ H R)
    (f : ∀ (S : AS) (H : Hp) (vs : List V) (ds es : List D), DQs K S H vs ds → g ds = some es → (∀ J, ItOk K S H J es → R J H) → Q vs H) : tOs K B W os σ H Q := by
  obtain ⟨S, ρ, I, q⟩ := h
  refine tOs_of I (AfterG.imp (AfterG.bind MonoR.c q) fun hs ρ1 S1 H1 I1 e1 q1 vs hv => ?_)
  cases hx : resAll ρ1 hs with
  | none => rw [hx] at q1; exact q1.elim
  | some ds =>
    rw [hx] at q1
    cases hg : g ds with
    | none => rw [Option.bind_some, hg] at q1; exact q1.elim
    | some es =>
      rw [Option.bind_some, hg] at q1
      exact f S1 H1 vs ds es (hv.dqs I1 hx) hg (q1 S1 H1 I1 I1.refl)
theorem xi_r1 (hg : Gl X "range") (hm : X.mg "range" = none) (ha : XO X B W a oa) (hs : starEach [a] X.env = [(false, eval a X.env)] := by rfl) : XI X B W tg (.Call (.Name "range" p) [a] [] pos) (mRng gR1 [oa]) := by
  refine ⟨(pi_range1 hg hm (XOs.pa (.cons ha .nil hs)) hs).imp fun σ H R h => mRng_of h fun S H vs ds es hd he q => ?_⟩
  unfold gR1 at he
  split at he
  · rename_i j
    split at he
    · rename_i hj
      cases he
      obtain ⟨h1, h2⟩ := inR_ok hj
      obtain ⟨x, rfl, hx⟩ := hd.one
      exact ⟨j, by rw [hx.int], h1, h2, q _ itOk_rng⟩
    · cases he
  · cases he
theorem xi_r2 (hg : Gl X "range") (hm : X.mg "range" = none) (ha : XO X B W a oa) (hb : XO X B W b ob) (hs : starEach [a, b] X.env = [(false, eval a X.env), (false, eval b X.env)] := by rfl) (hs2 : starEach [b] X.env = [(false, eval b X.env)] := by rfl) :
    XI X B W tg (.Call (.Name "range" p) [a, b] [] pos) (mRng gR2 [oa, ob]) := by
  refine ⟨(pi_range2 hg hm (XOs.pa (.cons ha (.cons hb .nil hs2) (by rw [hs, hs2]))) hs hs2).imp fun σ H R h => mRng_of h fun S H vs ds es hd he q => ?_⟩
  unfold gR2 at he
  split at he
  · rename_i i j
    split at he
    · rename_i hj
      cases he
      rw [Bool.and_eq_true] at hj
      obtain ⟨h1, h2⟩ := inR_ok hj.1
      obtain ⟨h3, h4⟩ := inR_ok hj.2
      obtain ⟨x, y, rfl, hx, hy⟩ := hd.two
      exact ⟨i, j, by rw [hx.int, hy.int], ⟨h1, h2, h3, h4⟩, q _ itOk_rng⟩
    · cases he
  · cases he
theorem xi_r3 (hg : Gl X "range") (hm : X.mg "range" = none) (ha : XO X B W a oa) (hb : XO X B W b ob) (hc : XO X B W c oc) (hs : starEach [a, b, c] X.env = (false, eval a X.env) :: starEach [b, c] X.env := by rfl) (hs2 : starEach [b, c] X.env = (false, eval b X.env) :: starEach [c] X.env := by rfl)
    (hs3 : starEach [c] X.env = [(false, eval c X.env)] := by rfl) (h : ∀ {ta : TA}, PA X [a, b, c] ta → PI X tg (.Call (.Name "range" p) [a, b, c] [] pos) (iRng3 ta) := by intro ta ha; exact pi_range3 (by assumption) (by assumption) ha) :
    XI X B W tg (.Call (.Name "range" p) [a, b, c] [] pos) (mRng gR3 [oa, ob, oc]) := by
  refine ⟨(h (XOs.pa (.cons ha (.cons hb (.cons hc .nil hs3) hs2) hs))).imp fun σ H R h => mRng_of h fun S H vs ds es hd he q => ?_⟩
  unfold gR3 at he
  split at he
  · rename_i i j k
    split at he
    · rename_i hj
      cases he
      rw [Bool.and_eq_true, Bool.and_eq_true] at hj
      obtain ⟨h1, h2⟩ := inR_ok hj.1.1
      obtain ⟨h3, h4⟩ := inR_ok hj.1.2
      have hk := of_decide_eq_true hj.2
      subst hk
      cases hd with
      | cons x1 r => cases r with
        | cons x2 r => cases r with
          | cons x3 r =>
            cases r
            exact ⟨i, j, -1, _, by rw [x1.int, x2.int, x3.int], RgC.neg h1 h2 h3 h4, q _ itOk_rngC⟩
    · cases he
  · cases he
def mRev (o : Opd) (ρ : Rho) : Out (List D) := (o.esc ρ).bind fun r ρ1 => match itD r.dat with
  | some ds => .ok ds.reverse ρ1
  | none => .bad
theorem xi_rev (hg : Gl X "reversed") (hm : X.mg "reversed" = none) (h : XO X B W e o) (hs : starEach [e] X.env = (false, eval e X.env) :: starEach [] X.env := by rfl) : XI X B W tg (.Call (.Name "reversed" p) [e] [] pos) (mRev o) := by
  refine ⟨(pi_revA hg hm h.xe.pe hs).imp fun σ H R ⟨S, ρ, I, q⟩ => ⟨S, ρ, I, AfterG.ofV (AfterG.imp (AfterG.bind MonoR.c q) fun r ρ1 S1 H1 I1 e1 q1 v hv => ?_)⟩⟩
  cases hd : itD r.dat with
  | none => rw [hd] at q1; exact q1.elim
  | some ds =>
    rw [hd] at q1
    obtain ⟨a, xs, rfl, h1, h2⟩ := itD_ds hd hv
    have z := q1 S1 H1 I1 I1.refl
    rcases h2 with h2 | h2
    · exact ⟨a, xs, rfl, .inl ⟨h2.sq, z _ (itOk_revL h2 h1)⟩⟩
    · exact ⟨a, xs, rfl, .inr ⟨h2, z _ (itOk_revT h2 h1)⟩⟩
end

/-! ### loops -/
def loopR (o : OS) (k : Rho → OS) : OS := match o with
  | .nx ρ => k ρ
  | .ct ρ => k ρ
  | .bk ρ => .nx ρ
  | .rt r ρ => .rt r ρ
  | .exc c ρ => .exc c ρ
  | .bad => .bad
def forD (c : CT) (b : MS) : List D → MS
  | [], ρ => .nx ρ
  | d :: ds, ρ => match bindCT c d ρ with
    | some ρ1 => loopR (b ρ1) (forD c b ds)
    | none => .bad
def mFor (m : MI) (c : CT) (b : MS) (ρ : Rho) : OS := (m ρ).bindS fun ds ρ1 => forD c b ds ρ1
def whD (t : MT) (b : MS) : Nat → MS
  | 0, _ => .bad
  | n + 1, ρ => (t ρ).bindS fun x ρ1 => if x then loopR (b ρ1) (whD t b n) else .nx ρ1
def mWh (F : Rho → Nat) (t : MT) (b : MS) (ρ : Rho) : OS := whD t b (F ρ) ρ
section
variable {K : PySem.W.Frag} {B : Base} {W : WX}
theorem AfterS.loop {S O : AS} {H : Hp} {E : Ends} {o : OS} {k : Rho → OS} {N : L2.St → Hp → Prop} (h : AfterS K B W S H O E (loopR o k))
    (hN : ∀ S' H' σ' ρ, EnvOk K B S' H' σ' ρ → Ext S H O S' H' (OwnS σ' ρ) → AfterS K B W S' H' (OwnS σ' ρ) E (k ρ) → N σ' H') : AfterS K B W S H O { E with nx := N, ct := N, bk := E.nx } o := by
  cases o with
  | nx ρ => exact fun S' H' σ' I x => hN S' H' σ' ρ I x (AfterS.mono x h)
  | ct ρ => exact fun S' H' σ' I x => hN S' H' σ' ρ I x (AfterS.mono x h)
  | bk ρ => exact h
  | rt r ρ => exact h
  | exc c ρ => exact h
  | bad => exact h
end
section
variable {X : Cx} {B : Base} {W : WX} {tg e : Expr} {body : List Stmt} {mi : MI} {c : CT} {mb : MS} {pos : Pos}
theorem xs_for (hp : PassesOwn (model X.prog X.w) X.A X.env X.xe) (hc : X.calm = true) (hi : XI X B W tg e mi) (hg : XG X tg c) (hb : XSs X B W body mb) (hs : ∀ x, foldedSetIterable e X.env x = pure x := by intro _; rfl) :
    XS X B W (.For tg e body [] pos) (mFor mi c mb) := by
  refine ⟨(ps_for hp hc hi.pi hg hb.pss hs).imp fun E σ H ⟨S, ρ, I, q⟩ => ⟨S, ρ, I, AfterG.imp (AfterS.bindS (σ := σ) q) fun ds ρ1 S1 H1 I1 e1 q1 J hJ => ?_⟩⟩
  refine ⟨fun i m σ' H' => m = ds.length - i ∧ i ≤ ds.length ∧ ∃ S' ρ', EnvOk X.K B S' H' σ' ρ' ∧ Ext S1 H1 (OwnS σ ρ1) S' H' (OwnS σ' ρ') ∧ AfterS X.K B W S' H' (OwnS σ' ρ') E (forD c mb (ds.drop i) ρ'), ⟨ds.length, rfl, Nat.zero_le _, S1, ρ1, I1, I1.refl, q1⟩, ?_⟩
  rintro i m σ' H' ⟨rfl, hi, S', ρ', I', e', q'⟩
  obtain ⟨J1, J2⟩ := hJ S' H' _ _ e'
  by_cases hl : i < ds.length
  · have hx : ds[i]? = some ds[i] := List.getElem?_eq_getElem hl
    obtain ⟨J3, J4⟩ := J1 i _ hx
    generalize hN : (fun (σ3 : L2.St) (H3 : Hp) => ∃ m', m' < ds.length - i ∧ m' = ds.length - (i + 1) ∧ i + 1 ≤ ds.length ∧ ∃ S' ρ', EnvOk X.K B S' H3 σ3 ρ' ∧ Ext S1 H1 (OwnS σ ρ1) S' H3 (OwnS σ3 ρ') ∧ AfterS X.K B W S' H3 (OwnS σ3 ρ') E (forD c mb (ds.drop (i + 1)) ρ')) = N
    refine .inr ⟨J3, N, fun σ3 H3 h => by rw [← hN] at h; exact h, fun x Hy y => ?_⟩
    rw [List.drop_eq_getElem_cons hl] at q'
    have q' : AfterS X.K B W S' H' (OwnS σ' ρ') E (match bindCT c ds[i] ρ' with
      | some ρ1 => loopR (mb ρ1) (forD c mb (ds.drop (i + 1)))
      | none => .bad) := q'
    cases hb : bindCT c ds[i] ρ' with
    | none => rw [hb] at q'; exact q'.elim
    | some ρ2 =>
      rw [hb] at q'
      have go : ∀ Hy, EnvOk X.K B S' Hy σ' ρ' → Ext S' H' (OwnS σ' ρ') S' Hy (OwnS σ' ρ') → DS X.K S' Hy x ds[i] → ctG X.K c x σ' Hy fun σ2 H2 => rdS X.K B W mb { E with nx := N, ct := N, bk := E.nx } σ2 H2 := fun Hy Iy ey dy => by
        refine ctG_of (vs := slotsCT c) Iy dy hb (fun i hi => hi) fun σ2 I2 e2 _ => ⟨S', ρ2, I2, ?_⟩
        refine AfterS.loop (AfterS.mono (ey.trans e2) q') fun S4 H4 σ4 ρ4 I4 e4 q4 => by
          rw [← hN]
          exact ⟨_, by omega, rfl, hl, S4, ρ4, I4, ((e'.trans ey).trans e2).trans e4, q4⟩
      rcases J4 x Hy y with ⟨T, vs, hT, rfl, rfl, es, he, hv⟩ | ⟨rfl, hv⟩
      · refine go _ (I'.laid hT) (Ext.laid I'.gd hT) ?_
        rw [he]
        exact .tup (.inl (.inl upd_same)) (hv.ext (Ext.laid I'.gd hT))
      · exact go _ I' I'.refl hv
  · have e3 : i = ds.length := by omega
    subst e3
    rw [List.drop_length] at q'
    exact .inl ⟨J2, q' S' H' σ' I' I'.refl⟩
theorem xs_while {t : Expr} {mt : MT} (F : Rho → Nat) (hp : PassesOwn (model X.prog X.w) X.A X.env X.xe) (hc : XT X B W t mt) (hb : XSs X B W body mb) : XS X B W (.While t body [] pos) (mWh F mt mb) := by
  refine ⟨(ps_while hp hc.pt hb.pss).imp fun E σ H ⟨S, ρ, I, q⟩ => ?_⟩
  refine ⟨fun m σ' H' => ∃ S' ρ', EnvOk X.K B S' H' σ' ρ' ∧ AfterS X.K B W S' H' (OwnS σ' ρ') E (whD mt mb m ρ'), ⟨F ρ, S, ρ, I, q⟩, ?_⟩
  rintro m σ' H' ⟨S', ρ', I', q'⟩
  cases m with
  | zero => exact q'.elim
  | succ m =>
    refine ⟨S', ρ', I', AfterG.imp (AfterS.bindS (σ := σ') q') fun x ρ1 S1 H1 I1 e1 q1 => ?_⟩
    cases x with
    | true =>
      rw [if_pos rfl] at q1 ⊢
      exact ⟨fun σ3 H3 => ∃ m', m' < m + 1 ∧ ∃ S' ρ', EnvOk X.K B S' H3 σ3 ρ' ∧ AfterS X.K B W S' H3 (OwnS σ3 ρ') E (whD mt mb m' ρ'), fun _ _ h => h, S1, ρ1, I1,
        AfterS.loop q1 fun S4 H4 σ4 ρ4 I4 _ q4 => ⟨m, Nat.lt_succ_self m, S4, ρ4, I4, q4⟩⟩
    | false =>
      rw [if_neg Bool.false_ne_true] at q1 ⊢
      exact q1 S1 H1 σ' I1 I1.refl
end
end DL
set_option Elab.async false
set_option linter.all false
set_option maxRecDepth 100000
set_option maxHeartbeats 1000000
namespace DL
open PySem PySem.Spec PyProof.Rows L2 RT

/-! ### names of a comprehension's own -/
def unR : List Nat → Rho → Option Rho
  | [], ρ => some ρ
  | i :: vs, ρ => (unR vs ρ).bind fun ρ1 => match ρ1[i]? with
    | some t => if t.free = true then some (ρ1.set i .un) else none
    | none => none
theorem unR_cons {i : Nat} {vs : List Nat} {ρ ρ' : Rho} (h : unR (i :: vs) ρ = some ρ') : ∃ ρ1, unR vs ρ = some ρ1 ∧ (∀ c, ρ1[i]? ≠ some (.io c)) ∧ i < ρ1.length ∧ ρ' = ρ1.set i .un := by
  unfold unR at h
  cases h1 : unR vs ρ with
  | none => rw [h1] at h; cases h
  | some ρ1 =>
    rw [h1, Option.bind_some] at h
    cases h2 : ρ1[i]? with
    | none => rw [h2] at h; cases h
    | some s =>
      rw [h2] at h
      have hl := (List.getElem?_eq_some_iff.mp h2).1
      dsimp only at h
      by_cases hf : s.free = true
      · rw [if_pos hf] at h
        exact ⟨ρ1, rfl, free_at h2 hf, hl, (Option.some.inj h).symm⟩
      · rw [if_neg hf] at h; cases h
theorem unR_un : ∀ {vs : List Nat} {ρ ρ' : Rho}, unR vs ρ = some ρ' → ∀ i ∈ vs, ρ'[i]? = some .un
  | [], _, _, _, i, hi => by cases hi
  | j :: vs, ρ, ρ', h, i, hi => by
    obtain ⟨ρ1, h1, _, h3, rfl⟩ := unR_cons h
    by_cases e : j = i
    · subst e; exact List.getElem?_set_self h3
    · rw [List.getElem?_set_ne e]
      rcases List.mem_cons.mp hi with z | z
      · exact absurd z.symm e
      · exact unR_un h1 i z
theorem wipe_ne {σ : L2.St} {i : Nat} : ∀ {vs : List Nat}, i ∉ vs → (wipe σ vs)[i]? = σ[i]?
  | [], _ => rfl
  | j :: vs, h => by
    show ((wipe σ vs).set j none)[i]? = σ[i]?
    rw [List.getElem?_set_ne (fun e => h (by rw [e]; exact List.mem_cons_self)), wipe_ne fun z => h (List.mem_cons_of_mem _ z)]
section
variable {K : PySem.W.Frag} {B : Base} {S : AS} {H : Hp} {σ : L2.St} {ρ ρ' : Rho}
theorem EnvOk.wipe : ∀ {vs : List Nat} {ρ' : Rho}, EnvOk K B S H σ ρ → unR vs ρ = some ρ' → EnvOk K B S H (L2.wipe σ vs) ρ' ∧ ∀ a, OwnS (L2.wipe σ vs) ρ' a → OwnS σ ρ a
  | [], _, I, h => by cases h; exact ⟨I, fun _ z => z⟩
  | i :: vs, ρ', I, h => by
    obtain ⟨ρ1, h1, h2, _, rfl⟩ := unR_cons h
    obtain ⟨I1, o1⟩ := EnvOk.wipe I h1
    exact ⟨I1.setUn h2, fun a z => o1 a z.setUn⟩
theorem own_wipe {vs : List Nat} (hu : ∀ i ∈ vs, ρ[i]? = some .un) (i : Nat) (a : Addr) : Own (wipe σ vs) ρ i a ↔ Own σ ρ i a := by
  unfold Own
  by_cases hi : i ∈ vs
  · rw [hu i hi]
    constructor <;> (rintro ⟨_, c, z | z⟩ <;> cases z)
  · rw [wipe_ne hi]
theorem EnvOk.unwipe {vs : List Nat} (hu : ∀ i ∈ vs, ρ[i]? = some .un) (I : EnvOk K B S H (L2.wipe σ vs) ρ) : EnvOk K B S H σ ρ := by
  refine ⟨by rw [← I.len, wipe_length], fun i v s h1 h2 => ?_, fun i j a z1 z2 => I.dis i j a ((own_wipe hu i a).mpr z1) ((own_wipe hu j a).mpr z2), I.sub, I.new, I.keep, fun a h => ?_, I.sdom⟩
  · by_cases hi : i ∈ vs
    · rw [hu i hi] at h2; cases h2; trivial
    · exact I.slot i v s (by rw [wipe_ne hi]; exact h1) h2
  · obtain ⟨i, c, q1, q2⟩ := I.iok a h
    have hi : i ∉ vs := fun z => by rw [hu i z] at q1; cases q1
    exact ⟨i, c, q1, by rw [wipe_ne hi] at q2; exact q2⟩
end

/-! ### a list that is being made: nobody's yet -/
structure Free (B : Base) (S : AS) (H : Hp) (σ : L2.St) (ρ : Rho) (p : Addr) (xs : List V) : Prop where
  sh : ¬ S p
  nb : B.H p = none
  no : ¬ OwnS σ ρ p
  at_ : H p = some (.lst xs)
section
variable {K : PySem.W.Frag} {B : Base} {S S1 : AS} {H H1 : Hp} {σ σ1 : L2.St} {ρ ρ1 : Rho} {p : Addr} {xs : List V}
theorem Free.ext (h : Free B S H σ ρ p xs) (e : Ext S H (OwnS σ ρ) S1 H1 (OwnS σ1 ρ1)) : Free B S1 H1 σ1 ρ1 p xs := by
  have hp := h.at_
  refine ⟨fun z => ?_, h.nb, fun z => ?_, e.oth p _ hp h.no⟩
  · rcases e.snew p z with z | z | z
    · exact h.sh z
    · exact h.no z
    · rw [hp] at z; cases z
  · rcases e.onew p z with z | z
    · exact h.no z
    · rw [hp] at z; cases z
def Plus (O : AS) (p : Addr) : AS := fun a => O a ∨ a = p
theorem Free.gd (h : Free B S H σ ρ p xs) (I : EnvOk K B S H σ ρ) : ∀ a, Plus (OwnS σ ρ) p a → ¬ S a ∧ ∃ o, H a = some o ∧ HO.wr o = true := fun a z => by
  rcases z with z | rfl
  · exact I.gd a z
  · exact ⟨h.sh, _, h.at_, rfl⟩
theorem Free.plus (h : Free B S H σ ρ p xs) (I : EnvOk K B S H σ ρ) (e : Ext S H (OwnS σ ρ) S1 H1 (OwnS σ1 ρ1)) : Ext S H (Plus (OwnS σ ρ) p) S1 H1 (Plus (OwnS σ1 ρ1) p) :=
  ⟨h.gd I, e.sub, fun a o q n => e.oth a o q fun z => n (.inl z), fun a z => by
    rcases z with z | z
    · exact (e.onew a z).imp .inl id
    · exact .inl (.inr z), fun a z => by
    rcases e.snew a z with q | q | q
    · exact .inl q
    · exact .inr (.inl (.inl q))
    · exact .inr (.inr q), e.dom⟩
/-- it is written -/
theorem Free.wr (h : Free B S H σ ρ p xs) (I : EnvOk K B S H σ ρ) {ys : List V} : EnvOk K B S (upd H p (.lst ys)) σ ρ ∧ Free B S (upd H p (.lst ys)) σ ρ p ys ∧ Ext S H (Plus (OwnS σ ρ) p) S (upd H p (.lst ys)) (Plus (OwnS σ ρ) p) := by
  have e : Ext S H (Plus (OwnS σ ρ) p) S (upd H p (.lst ys)) (Plus (OwnS σ ρ) p) := .write (h.gd I) (.inr rfl)
  refine ⟨I.ext e (fun i a o q1 q2 => ⟨(I.ownAt q1).1, ?_⟩) (fun _ z => .inl z) (fun a o q1 _ q3 => ?_) fun a z n => absurd z n, ⟨h.sh, h.nb, h.no, upd_same⟩, e⟩
  · rw [upd_ne fun z => h.no ⟨i, by rw [← z]; exact q1⟩]; exact q2
  · rw [upd_ne fun z => by rw [z, h.nb] at q1; cases q1]; exact q3
end

/-! ### [m for c in .. if t] -/
def Out.nox {α : Type} : Out α → Out α
  | .ok a ρ => .ok a ρ
  | .exc _ _ => .bad
  | .bad => .bad
def lcD (vs : List Nat) (c : CT) (t : MT) (m : M) : List D → Rho → Out (List D)
  | [], ρ => .ok [] ρ
  | d :: ds, ρ => match bindCT c d ρ with
    | none => .bad
    | some ρ1 => (t ρ1).nox.bind fun x ρ2 => if x then (m ρ2).nox.bind fun r ρ3 => (match unR vs ρ3 with
        | some ρ4 => (lcD vs c t m ds ρ4).bind fun rs ρ5 => .ok (r.dat :: rs) ρ5
        | none => .bad)
      else (match unR vs ρ2 with
        | some ρ4 => lcD vs c t m ds ρ4
        | none => .bad)
def mLc (vs : List Nat) (mi : MI) (c : CT) (t : MT) (m : M) (ρ : Rho) : Out Rv := (mi ρ).bind fun ds ρ1 => if ds.length ≤ sizeLine then (match unR vs ρ1 with
    | some ρ2 => (lcD vs c t m ds ρ2).bind fun rs ρ3 => .ok (.own (.ls rs)) ρ3
    | none => .bad) else .bad
def mYes (ρ : Rho) : Out Bool := .ok true ρ
structure XPs (X : Cx) (B : Base) (W : WX) (ifs : List Expr) (m : MT) : Prop where
  pts : PTs X ifs (rdT X.K B W m)
theorem _root_.L2.PTs.imp {X : Cx} {e : List Expr} {t t' : TT} (h : PTs X e t) (w : ∀ σ H Q, t' σ H Q → t σ H Q) : PTs X e t' := ⟨fun pins s σ H Q I q => h.run pins s σ H Q I (w _ _ _ q)⟩
theorem xps_nil {X : Cx} {B : Base} {W : WX} : XPs X B W [] mYes := ⟨PTs.imp pts_nil fun σ H Q ⟨S, ρ, I, q⟩ => q S H I I.refl⟩
theorem xps_one {X : Cx} {B : Base} {W : WX} {e : Expr} {m : MT} (h : XT X B W e m) : XPs X B W [e] m := ⟨pts_one h.pt⟩
/-- the rest's word -/
def LcR (K : PySem.W.Frag) (B : Base) (σ : L2.St) (vs : List Nat) (Q : VK) (p : Addr) : Hp → List D → Rho → AS → Hp → Prop := fun _ ds ρ S H => ∀ xs, Free B S H σ ρ p xs → DSs K S H xs ds → (∀ i ∈ vs, ρ[i]? = some .un) → Q (.ref p) H
theorem Out.bind_assoc {α β γ : Type} (o : Out α) (f : α → Rho → Out β) (g : β → Rho → Out γ) : (o.bind f).bind g = o.bind fun a ρ => (f a ρ).bind g := by cases o <;> rfl
theorem AfterG.nox {α β : Type} {K : PySem.W.Frag} {B : Base} {W : WX} {σ σ' : L2.St} {S O S1 O1 : AS} {H H1 : Hp} {R : Hp → β → Rho → AS → Hp → Prop} {R1 : Hp → α → Rho → AS → Hp → Prop} {o : Out α} {f : α → Rho → Out β} (h : AfterG K B W σ S H O R (o.nox.bind f))
    (g : ∀ a ρ S' H', EnvOk K B S' H' σ' ρ → Ext S1 H1 O1 S' H' (OwnS σ' ρ) → AfterG K B W σ S H O R (f a ρ) → R1 H1 a ρ S' H') : AfterG K B noW σ' S1 H1 O1 R1 o := by
  cases o with
  | ok a ρ => exact fun S' H' I x => g a ρ S' H' I x h
  | exc c ρ => exact h.elim
  | bad => exact h.elim
theorem lc_of {K : PySem.W.Frag} {B : Base} {W : WX} {σ : L2.St} {H : Hp} {Q : VK} {mi : MI} {c : CT} {t : MT} {m : M} {vs : List Nat} (hv : ∀ i ∈ slotsCT c, i ∈ vs) (h : rd K B W (mLc vs mi c t m) σ H Q) :
    tLc (rdI K B W mi) (ctG K c) (rdT K B noW t) (rd K B noW m) vs σ H Q := by
  obtain ⟨S, ρ, I, q⟩ := h
  refine ⟨S, ρ, I, AfterG.imp (AfterG.bind MonoR.ret q) fun ds ρ1 S1 H1 I1 e1 q1 J hJ => ?_⟩
  by_cases hlen : ds.length ≤ sizeLine
  case neg => rw [if_neg hlen] at q1; exact q1.elim
  rw [if_pos hlen] at q1
  cases hu : unR vs ρ1 with
  | none => rw [hu] at q1; exact q1.elim
  | some ρ2 =>
    rw [hu] at q1
    dsimp only at q1
    intro p hp
    obtain ⟨Iw, ow⟩ := I1.wipe hu
    have u2 := unR_un hu
    obtain ⟨n1, n2, n3, n4⟩ := Iw.fresh hp
    have I2 : EnvOk K B S1 (upd H1 p (.lst [])) (wipe σ vs) ρ2 := Iw.laid hp
    have F2 : Free B S1 (upd H1 p (.lst [])) (wipe σ vs) ρ2 p [] := ⟨n1, n2, fun ⟨i, z⟩ => n3 i z, upd_same⟩
    have e2 : Ext S1 H1 (OwnS σ ρ1) S1 (upd H1 p (.lst [])) (Plus (OwnS (wipe σ vs) ρ2) p) := (Ext.laid I1.gd hp).owns fun a z => by
      rcases z with z | rfl
      · exact .inl (ow a z)
      · exact .inr hp
    -- the rest's word, by the original start
    have q2 : AfterG K B W (wipe σ vs) S1 H1 (OwnS σ ρ1) (LcR K B (wipe σ vs) vs Q p) ((lcD vs c t m ds ρ2).bind fun rs ρ3 => .ok ([] ++ rs) ρ3) := by
      cases hl : lcD vs c t m ds ρ2 with
      | bad => rw [hl] at q1; exact q1.elim
      | exc c' ρ3 =>
        exfalso
        have : ∀ (ds : List D) (ρ : Rho) (c' : Str) (ρ3 : Rho), lcD vs c t m ds ρ ≠ .exc c' ρ3 := by
          intro ds
          induction ds with
          | nil => intro ρ c' ρ3 z; cases z
          | cons d ds ih =>
            intro ρ c' ρ3 z
            unfold lcD at z
            cases h1 : bindCT c d ρ with
            | none => rw [h1] at z; cases z
            | some ρ4 =>
              rw [h1] at z
              dsimp only at z
              cases h2 : t ρ4 with
              | bad => rw [h2] at z; cases z
              | exc _ _ => rw [h2] at z; cases z
              | ok x ρ5 =>
                rw [h2] at z
                change (if x = true then _ else _) = _ at z
                cases x with
                | true =>
                  rw [if_pos rfl] at z
                  cases h3 : m ρ5 with
                  | bad => rw [h3] at z; cases z
                  | exc _ _ => rw [h3] at z; cases z
                  | ok r ρ6 =>
                    rw [h3] at z
                    change (match unR vs ρ6 with | some ρ4 => _ | none => _) = _ at z
                    cases h4 : unR vs ρ6 with
                    | none => rw [h4] at z; cases z
                    | some ρ7 =>
                      rw [h4] at z
                      dsimp only at z
                      cases h5 : lcD vs c t m ds ρ7 with
                      | exc _ _ => exact ih _ _ _ h5
                      | bad => rw [h5] at z; cases z
                      | ok _ _ => rw [h5] at z; cases z
                | false =>
                  rw [if_neg Bool.false_ne_true] at z
                  cases h4 : unR vs ρ5 with
                  | none => rw [h4] at z; cases z
                  | some ρ7 => rw [h4] at z; exact ih _ _ _ z
        exact this ds ρ2 c' ρ3 hl
      | ok rs ρ3 =>
        rw [hl] at q1
        intro S3 H3 I3 e3 xs F3 d3 u3
        refine q1 S3 H3 (I3.unwipe u3) (e3.owns fun a ⟨i, z⟩ => ?_) p _ F3.sh F3.nb hp F3.at_ d3 fun i z => F3.no ⟨i, (own_wipe u3 i p).mpr z⟩
        exact .inl ⟨i, (own_wipe u3 i a).mpr z⟩
    generalize hW : (fun (i m' : Nat) (H' : Hp) => m' = ds.length - i ∧ i ≤ ds.length ∧ ∃ S' ρ' acc xs, EnvOk K B S' H' (wipe σ vs) ρ' ∧ (∀ i ∈ vs, ρ'[i]? = some .un) ∧ Ext S1 H1 (OwnS σ ρ1) S' H' (Plus (OwnS (wipe σ vs) ρ') p) ∧ Free B S' H' (wipe σ vs) ρ' p xs ∧ DSs K S' H' xs acc ∧ acc.length ≤ i ∧
      AfterG K B W (wipe σ vs) S1 H1 (OwnS σ ρ1) (LcR K B (wipe σ vs) vs Q p) ((lcD vs c t m (ds.drop i) ρ').bind fun rs ρ3 => .ok (acc ++ rs) ρ3)) = Wi
    refine ⟨Wi, ⟨ds.length, by rw [← hW]; exact ⟨rfl, Nat.zero_le _, S1, ρ2, [], [], I2, u2, e2, F2, .nil, Nat.le_refl _, q2⟩⟩, fun i m' H' w => ?_⟩
    rw [← hW] at w
    obtain ⟨rfl, hi, S', ρ', acc, xs, I', u', e', F', d', la, q'⟩ := w
    obtain ⟨J1, J2⟩ := hJ S' H' _ _ e'
    by_cases hl : i < ds.length
    · have hx : ds[i]? = some ds[i] := List.getElem?_eq_getElem hl
      obtain ⟨J3, J4⟩ := J1 i _ hx
      refine .inr ⟨J3, fun H3 => Wi (i + 1) (ds.length - (i + 1)) H3, fun H3 h3 => ⟨_, by omega, h3⟩, fun x Hy y => ?_⟩
      rw [List.drop_eq_getElem_cons hl] at q'
      unfold lcD at q'
      cases hb : bindCT c ds[i] ρ' with
      | none => rw [hb] at q'; exact q'.elim
      | some ρ4 =>
        rw [hb] at q'
        dsimp only at q'
        rw [Out.bind_assoc] at q'
        have go : ∀ Hy, EnvOk K B S' Hy (wipe σ vs) ρ' → Ext S' H' (OwnS (wipe σ vs) ρ') S' Hy (OwnS (wipe σ vs) ρ') → DS K S' Hy x ds[i] → ctG K c x (wipe σ vs) Hy fun σ2 H2 => wipe σ2 vs = wipe σ vs ∧ rdT K B noW t σ2 H2 fun b H3 =>
            if b = true then rd K B noW m σ2 H3 fun y H4 => ∃ acc, H4 p = some (.lst acc) ∧ acc.length < sizeLine ∧ Wi (i + 1) (ds.length - (i + 1)) (upd H4 p (.lst (acc ++ [y]))) else Wi (i + 1) (ds.length - (i + 1)) H3 := fun Hy Iy ey dy => by
          refine ctG_of (vs := vs) Iy dy hb hv fun σ2 I2 e2 w2 => ?_
          have w2' : wipe σ2 vs = wipe σ vs := by
            rw [w2]
            have idem : ∀ (us : List Nat) (σ : L2.St), (∀ i ∈ us, σ[i]? = some none ∨ σ.length ≤ i) → wipe σ us = σ := by
              intro us
              induction us with
              | nil => intro σ _; rfl
              | cons u us ih =>
                intro σ hs
                show (wipe σ us).set u none = σ
                rw [ih σ fun i hi => hs i (List.mem_cons_of_mem _ hi)]
                rcases hs u List.mem_cons_self with z | z
                · exact set_same z
                · exact List.set_eq_of_length_le z
            refine idem vs _ fun i hi => ?_
            by_cases hlt : i < (wipe σ vs).length
            · refine .inl ?_
              have : ∀ (us : List Nat), i ∈ us → i < (wipe σ us).length → (wipe σ us)[i]? = some none := by
                intro us
                induction us with
                | nil => intro z; cases z
                | cons u us ih =>
                  intro z hlt
                  show ((wipe σ us).set u none)[i]? = some none
                  have hlt' : i < (wipe σ us).length := by rw [wipe_length] at hlt ⊢; exact hlt
                  by_cases e : u = i
                  · subst e; exact List.getElem?_set_self hlt'
                  · rw [List.getElem?_set_ne e]
                    rcases List.mem_cons.mp z with z | z
                    · exact absurd z.symm e
                    · exact ih z hlt'
              exact this vs hi hlt
            · exact .inr (Nat.le_of_not_lt hlt)
          refine ⟨w2', S', ρ4, I2, AfterG.nox q' fun b ρ5 S5 H5 I5 e5 q5 => ?_⟩
          have eA := (ey.trans e2).trans e5
          have F5 := F'.ext eA
          have d5 := d'.ext eA
          have E5 := e'.trans (F'.plus I' eA)
          -- a turn's end
          have fin : ∀ {S6 : AS} {H6 : Hp} {ρ6 ρ7 : Rho} {ys : List V} {acc6 : List D}, EnvOk K B S6 H6 σ2 ρ6 → Free B S6 H6 σ2 ρ6 p ys → DSs K S6 H6 ys acc6 → Ext S1 H1 (OwnS σ ρ1) S6 H6 (Plus (OwnS σ2 ρ6) p) → unR vs ρ6 = some ρ7 → acc6.length ≤ i + 1 →
              AfterG K B W (wipe σ vs) S1 H1 (OwnS σ ρ1) (LcR K B (wipe σ vs) vs Q p) ((lcD vs c t m (ds.drop (i + 1)) ρ7).bind fun rs ρ3 => .ok (acc6 ++ rs) ρ3) → Wi (i + 1) (ds.length - (i + 1)) H6 := fun {S6 H6 ρ6 ρ7 ys acc6} I6 F6 d6 E6 h6 l6 q6 => by
            obtain ⟨I7, o7⟩ := I6.wipe h6
            rw [w2'] at I7 o7
            rw [← hW]
            refine ⟨rfl, hl, S6, ρ7, acc6, ys, I7, unR_un h6, E6.owns fun a z => .inl (z.imp (o7 a) id), ⟨F6.sh, F6.nb, fun z => F6.no (o7 p z), F6.at_⟩, d6, l6, q6⟩
          cases b with
          | false =>
            dsimp only
            rw [if_neg Bool.false_ne_true] at q5
            rw [if_neg Bool.false_ne_true]
            cases h6 : unR vs ρ5 with
            | none => rw [h6] at q5; exact q5.elim
            | some ρ6 => rw [h6] at q5; exact fin I5 F5 d5 E5 h6 (by omega) q5
          | true =>
            dsimp only
            rw [if_pos rfl] at q5
            rw [if_pos rfl]
            rw [Out.bind_assoc] at q5
            refine ⟨S5, ρ5, I5, AfterG.ofV (AfterG.nox q5 fun r ρ6 S6 H6 I6 e6 q6 v hv6 => ?_)⟩
            have F6 := F5.ext e6
            have d6 := d5.ext e6
            have E6 := E5.trans (F5.plus I5 e6)
            cases h6 : unR vs ρ6 with
            | none => rw [h6] at q6; exact q6.elim
            | some ρ7 =>
              rw [h6] at q6
              dsimp only at q6
              rw [Out.bind_assoc] at q6
              obtain ⟨I7, F7, E7⟩ := F6.wr I6 (ys := xs ++ [v])
              have d7 : DSs K S6 (upd H6 p (.lst (xs ++ [v]))) (xs ++ [v]) (acc ++ [r.dat]) := (d6.append (.cons hv6 .nil)).ext E7
              refine ⟨xs, F6.at_, by rw [d6.length]; omega, fin I7 F7 d7 (E6.trans E7) h6 (by rw [List.length_append, List.length_singleton]; omega) ?_⟩
              have ee : (fun (rs : List D) (ρ3 : Rho) => Out.ok (acc ++ [r.dat] ++ rs) ρ3) = fun rs ρ3 => Out.ok (acc ++ (r.dat :: rs)) ρ3 := by
                funext rs ρ3
                rw [List.append_assoc, List.singleton_append]
              rw [ee]
              exact q6
        rcases J4 x Hy y with ⟨T, zs, hT, rfl, rfl, es, he, hv'⟩ | ⟨rfl, hv'⟩
        · refine go _ (I'.laid hT) (Ext.laid I'.gd hT) ?_
          rw [he]
          exact .tup (.inl (.inl upd_same)) (hv'.ext (Ext.laid I'.gd hT))
        · exact go _ I' I'.refl hv'
    · have e3 : i = ds.length := by omega
      subst e3
      rw [List.drop_length] at q'
      have q' : AfterG K B W (wipe σ vs) S1 H1 (OwnS σ ρ1) (LcR K B (wipe σ vs) vs Q p) (.ok (acc ++ []) ρ') := q'
      rw [List.append_nil] at q'
      exact .inl ⟨J2, q' S' H' I' (e'.owns fun a z => .inl (.inl z)) xs F' d' u'⟩
section
variable {X : Cx} {B : Base} {W : WX} {elt tg iter : Expr} {ifs : List Expr} {scope : Scope} {own : List (Str × Nat)} {pos spos py : Pos} {mi : MI} {c : CT} {t : MT} {m : M} {i : Nat} {y : Str}
abbrev Blk (X : Cx) (scope : Scope) (f : Cx → Prop) : Prop := ∀ (s : Shared) (H : Hp) (C : Addr) (cl : List (Str × Addr)) (fp : List Addr), f (X.blk s H scope (compEnvC scope cl C X.env) fp)
theorem xe_lc (hc : X.calm = true) (hN : X.N.Nodup) (hi : XI X B W tg iter mi) (ok : BlkOk X.N X.env.scope scope own) (hv : ∀ i ∈ slotsCT c, i ∈ own.map (·.2))
    (hg : Blk X scope fun Y => PG Y tg (ctG X.K c)) (ht : Blk X scope fun Y => PTs Y ifs (rdT X.K B noW t)) (he : Blk X scope fun Y => PE Y elt (rd X.K B noW m)) (hs : ∀ x, foldedSetIterable iter X.env x = pure x := by intro _; rfl) :
    XE X B W (.ListComp elt [⟨tg, iter, ifs, 0⟩] scope pos) (mLc (own.map (·.2)) mi c t m) :=
  ⟨(pe_lc hc hN hi.pi ok hg ht he hs).imp fun σ H Q h => lc_of hv h⟩
theorem xs_setLc (hc : X.calm = true) (hN : X.N.Nodup) (hy : X.N[i]? = some y) (hyl : X.env.scope.names.lookup y = some .local) (hsw : swapsWith (.ListComp elt [⟨tg, iter, ifs, 0⟩] scope pos) (some (.Name y py)) spos.line X.env = pure true)
    (hi : XI X B W tg iter mi) (ok : BlkOk X.N X.env.scope scope own) (hv : ∀ i ∈ slotsCT c, i ∈ own.map (·.2))
    (hg : Blk X scope fun Y => PG Y tg (ctG X.K c)) (ht : Blk X scope fun Y => PTs Y ifs (rdT X.K B noW t)) (he : Blk X scope fun Y => PE Y elt (rd X.K B noW m)) (hs : ∀ x, foldedSetIterable iter X.env x = pure x := by intro _; rfl) :
    XS X B W (.Assign [.Name y py] (.ListComp elt [⟨tg, iter, ifs, 0⟩] scope pos) spos) (mSet i (mLc (own.map (·.2)) mi c t m)) :=
  ⟨(ps_setLc hc hN hy hyl hsw hi.pi ok hg ht he hs).imp fun D σ H ⟨S, ρ, I, q⟩ => lc_of hv ⟨S, ρ, I, set_of q⟩⟩
end
end DL
set_option Elab.async false
set_option linter.all false
set_option maxRecDepth 100000
set_option maxHeartbeats 1000000
namespace DL
open PySem PySem.Spec PyProof.Rows L2 RT

/-! ### what a def promises -/
inductive Ar where
  | d (d : D) | io (c : Oc) | fz (ns : List Int)
inductive DR where
  | ok (r : Rv) (c : Option Oc) | exc (x : Str) (c : Option Oc) | bad
def Ar.sl : Ar → Sl
  | .d x => .val x
  | .io c => .io c
  | .fz ns => .fz ns
/-- a list or dict that is handed over to be changed: its address -/
inductive ArOk (K : PySem.W.Frag) (S : AS) (H : Hp) (io : Option Addr) : V → Ar → Prop
  | d {v : V} {d : D} : DS K S H v d → ArOk K S H io v (.d d)
  | io {p : Addr} {o : HO} {c : Oc} : io = some p → ¬ S p → H p = some o → OcOk K S H o c → ArOk K S H io (.ref p) (.io c)
  | fz {a : Addr} {ns : List Int} : LsS K S H a (ns.map V.int) → ArOk K S H io (.ref a) (.fz ns)
inductive ArsOk (K : PySem.W.Frag) (S : AS) (H : Hp) (io : Option Addr) : List V → List Ar → Prop
  | nil : ArsOk K S H io [] []
  | cons {v : V} {vs : List V} {a : Ar} {as : List Ar} : ArOk K S H io v a → ArsOk K S H io vs as → ArsOk K S H io (v :: vs) (a :: as)
def ioN : List Ar → Nat
  | [] => 0
  | .io _ :: as => ioN as + 1
  | .d _ :: as => ioN as
  | .fz _ :: as => ioN as
structure FExt (S : AS) (H : Hp) (io : Option Addr) (S2 : AS) (H2 : Hp) : Prop where
  sub : ∀ a, S a → S2 a
  keep : ∀ a o, H a = some o → io ≠ some a → H2 a = some o
  new : ∀ a, S2 a → S a ∨ H a = none
  sdom : ∀ a, S2 a → H2 a ≠ none
  dom : ∀ a, H a ≠ none → H2 a ≠ none
def RvF (K : PySem.W.Frag) (H : Hp) (S2 : AS) (H2 : Hp) (v : V) : Rv → Prop
  | .val d => DS K S2 H2 v d
  | .own c => ∃ p o, v = .ref p ∧ ¬ S2 p ∧ H p = none ∧ H2 p = some o ∧ OcOk K S2 H2 o c
def IoF (K : PySem.W.Frag) (S2 : AS) (H2 : Hp) (io : Option Addr) (c : Option Oc) : Prop := match io with
  | none => c = none
  | some p => ∃ c' o, c = some c' ∧ ¬ S2 p ∧ H2 p = some o ∧ OcOk K S2 H2 o c'
abbrev FD := List Ar → DR
def spD (K : PySem.W.Frag) (n : Nat) (f : FD) : Sp := fun vs H Q E => ∃ S as io, as.length = n ∧ (∀ a, S a → H a ≠ none) ∧ ArsOk K S H io vs as ∧ (io = none ↔ ioN as = 0) ∧ ioN as ≤ 1 ∧ match f as with
  | .bad => False
  | .ok r c => ∀ S2 H2 v, FExt S H io S2 H2 → RvF K H S2 H2 v r → IoF K S2 H2 io c → Q v H2
  | .exc x c => ∀ S2 H2, FExt S H io S2 H2 → IoF K S2 H2 io c → E (.ref (He.ga K x)) none H2
theorem ArsOk.length {K : PySem.W.Frag} {S : AS} {H : Hp} {io : Option Addr} : ∀ {vs : List V} {as : List Ar}, ArsOk K S H io vs as → vs.length = as.length
  | _, _, .nil => rfl
  | _, _, .cons _ t => by rw [List.length_cons, List.length_cons, t.length]
theorem ArsOk.get {K : PySem.W.Frag} {S : AS} {H : Hp} {io : Option Addr} : ∀ {vs : List V} {as : List Ar} {i : Nat} {a : Ar}, ArsOk K S H io vs as → as[i]? = some a → ∃ v, vs[i]? = some v ∧ ArOk K S H io v a
  | _, _, _, _, .nil, e => by simp at e
  | _, _, 0, _, .cons r _, e => by simp at e; subst e; exact ⟨_, rfl, r⟩
  | _, _, i + 1, a, .cons _ t, e => by
    obtain ⟨v, h1, h2⟩ := ArsOk.get (i := i) (a := a) t (by simpa using e)
    exact ⟨v, by simpa using h1, h2⟩
/-- the slots at the entry -/
def startR (n : Nat) (as : List Ar) : Rho := as.map Ar.sl ++ List.replicate (n - as.length) .un
/-- what the object that was handed over holds at the end -/
def ioR : Rho → Option Oc
  | [] => none
  | .io c :: _ => some c
  | _ :: ρ => ioR ρ
def fnD (n : Nat) (m : MS) : FD := fun as => match m (startR n as) with
  | .nx ρ => .ok (.val .none) (ioR ρ)
  | .rt r ρ => .ok r (ioR ρ)
  | .exc x ρ => .exc x (ioR ρ)
  | _ => .bad
theorem startR_get {n i : Nat} {as : List Ar} {s : Sl} (h : (startR n as)[i]? = some s) : (∃ a, as[i]? = some a ∧ s = a.sl) ∨ s = .un := by
  unfold startR at h
  by_cases hi : i < as.length
  · rw [List.getElem?_append_left (by simpa using hi), List.getElem?_map] at h
    cases q : as[i]? with
    | none => rw [q] at h; cases h
    | some a => rw [q] at h; cases h; exact .inl ⟨a, rfl, rfl⟩
  · rw [List.getElem?_append_right (by simpa using hi), List.getElem?_replicate] at h
    split at h
    · cases h; exact .inr rfl
    · cases h
theorem ioN_get : ∀ {as : List Ar} {i : Nat} {c : Oc}, as[i]? = some (Ar.io c) → 0 < ioN as
  | [], _, _, h => by simp at h
  | .io _ :: as, 0, c, h => Nat.succ_pos _
  | .d _ :: as, 0, c, h => by simp at h
  | .fz _ :: as, 0, c, h => by simp at h
  | .io _ :: as, i + 1, c, h => Nat.succ_pos _
  | .d _ :: as, i + 1, c, h => ioN_get (as := as) (i := i) (c := c) (by simpa using h)
  | .fz _ :: as, i + 1, c, h => ioN_get (as := as) (i := i) (c := c) (by simpa using h)
theorem ioN_two : ∀ {as : List Ar} {i j : Nat} {c d : Oc}, as[i]? = some (Ar.io c) → as[j]? = some (Ar.io d) → ioN as ≤ 1 → i = j
  | [], _, _, _, _, h, _, _ => by simp at h
  | a :: as, 0, 0, _, _, _, _, _ => rfl
  | a :: as, i + 1, 0, c, d, h1, h2, l => by
    have e : a = .io d := by simpa using h2
    subst e
    have z := ioN_get (as := as) (i := i) (c := c) (by simpa using h1)
    have l : ioN as + 1 ≤ 1 := l
    omega
  | a :: as, 0, j + 1, c, d, h1, h2, l => by
    have e : a = .io c := by simpa using h1
    subst e
    have z := ioN_get (as := as) (i := j) (c := d) (by simpa using h2)
    have l : ioN as + 1 ≤ 1 := l
    omega
  | a :: as, i + 1, j + 1, c, d, h1, h2, l => by
    have l' : ioN as ≤ 1 := by
      cases a with
      | io _ => have l : ioN as + 1 ≤ 1 := l; omega
      | d _ => exact l
      | fz _ => exact l
    rw [ioN_two (as := as) (i := i) (j := j) (by simpa using h1) (by simpa using h2) l']
theorem exists_io : ∀ {as : List Ar}, 0 < ioN as → ∃ (i : Nat) (c : Oc), as[i]? = some (Ar.io c)
  | [], h => by simp [ioN] at h
  | .io c :: as, h => ⟨0, c, rfl⟩
  | .d _ :: as, h => by
    obtain ⟨i, c, q⟩ := exists_io (as := as) h
    exact ⟨i + 1, c, by simpa using q⟩
  | .fz _ :: as, h => by
    obtain ⟨i, c, q⟩ := exists_io (as := as) h
    exact ⟨i + 1, c, by simpa using q⟩
theorem ioR_some : ∀ {ρ : Rho} {i : Nat} {c : Oc}, ρ[i]? = some (Sl.io c) → ∃ c', ioR ρ = some c'
  | [], _, _, h => by simp at h
  | s :: ρ, 0, c, h => by
    have e : s = Sl.io c := by simpa using h
    subst e
    exact ⟨c, rfl⟩
  | s :: ρ, i + 1, c, h => by
    obtain ⟨c', z⟩ := ioR_some (ρ := ρ) (i := i) (c := c) (by simpa using h)
    cases s with
    | io c2 => exact ⟨c2, rfl⟩
    | _ => exact ⟨c', z⟩
theorem ioR_get : ∀ {ρ : Rho} {c : Oc}, ioR ρ = some c → ∃ i : Nat, ρ[i]? = some (Sl.io c)
  | [], _, h => by cases h
  | s :: ρ, c, h => by
    cases s with
    | io c2 => cases h; exact ⟨0, rfl⟩
    | _ =>
      obtain ⟨i, z⟩ := ioR_get (ρ := ρ) (c := c) h
      exact ⟨i + 1, by simpa using z⟩
section
variable {K : PySem.W.Frag} {S : AS} {H : Hp} {io : Option Addr} {vs : List V} {as : List Ar} {N : List Str}
theorem start_ok (hS : ∀ a, S a → H a ≠ none) (h : ArsOk K S H io vs as) (h0 : io = none ↔ ioN as = 0) (h1 : ioN as ≤ 1) (hl : as.length ≤ N.length) : EnvOk K ⟨S, H, io⟩ S H (L2.start N vs) (startR N.length as) := by
  have sg : ∀ {i : Nat} {v : V} {a : Ar}, vs[i]? = some v → as[i]? = some a → (L2.start N vs)[i]? = some (some v) := fun {i v a} e1 e2 => by
    have hi : i < vs.length := (List.getElem?_eq_some_iff.mp e1).1
    unfold L2.start
    rw [List.getElem?_append_left (by simpa using hi), List.getElem?_map, e1]
    rfl
  have len : (L2.start N vs).length = (startR N.length as).length := by
    unfold L2.start startR
    simp [h.length]
  have own : ∀ {i : Nat} {a : Addr}, Own (L2.start N vs) (startR N.length as) i a → ∃ c, as[i]? = some (.io c) ∧ io = some a := fun {i a} ⟨z1, c, z2⟩ => by
    rcases z2 with z2 | z2
    · rcases startR_get z2 with ⟨x, _, e⟩ | e
      · cases x <;> cases e
      · cases e
    · rcases startR_get z2 with ⟨x, q, e⟩ | e
      · cases x <;> cases e
        obtain ⟨v, q1, q2⟩ := h.get q
        rw [sg q1 q] at z1
        cases z1
        cases q2 with
        | io e1 _ _ _ => exact ⟨c, q, e1⟩
      · cases e
  refine ⟨len, fun i v s e1 e2 => ?_, fun i j a z1 z2 => ?_, fun a z => z, fun a z => .inl z, fun a o z _ => z, fun a z => ?_, hS⟩
  · rcases startR_get e2 with ⟨x, q, rfl⟩ | rfl
    · obtain ⟨v', q1, q2⟩ := h.get q
      rw [sg q1 q] at e1
      cases e1
      cases q2 with
      | d hd => exact ⟨v', rfl, hd⟩
      | fz hf => exact ⟨_, rfl, hf⟩
      | io k1 k2 k3 k4 => exact ⟨_, _, rfl, k2, k1, k3, k4⟩
    · trivial
  · obtain ⟨c, q1, _⟩ := own z1
    obtain ⟨d, q2, _⟩ := own z2
    exact ioN_two q1 q2 h1
  · have pos : 0 < ioN as := by
      rcases Nat.eq_zero_or_pos (ioN as) with q | q
      · have z : io = some a := z
        rw [h0.mpr q] at z; cases z
      · exact q
    obtain ⟨i, c, q⟩ := exists_io pos
    obtain ⟨v, q1, q2⟩ := h.get q
    cases q2 with
    | io k1 k2 k3 k4 =>
      have z : io = some a := z
      rw [k1] at z; cases z
      refine ⟨i, c, ?_, sg q1 q⟩
      unfold startR
      rw [List.getElem?_append_left (by simpa using (List.getElem?_eq_some_iff.mp q).1), List.getElem?_map, q]
      rfl
/-- the end of a run, as its caller sees it -/
theorem end_ext {S2 : AS} {H2 : Hp} {σ : L2.St} {ρ : Rho} (I : EnvOk K ⟨S, H, io⟩ S2 H2 σ ρ) : FExt S H io S2 H2 := by
  refine ⟨I.sub, I.keep, fun a z => I.new a z, I.sdom, fun a z => ?_⟩
  cases q : H a with
  | none => exact absurd q z
  | some o =>
    by_cases e : io = some a
    · obtain ⟨i, c, q1, q2⟩ := I.iok a e
      obtain ⟨_, o', _, q3, _⟩ := I.ownAt ⟨q2, c, .inr q1⟩
      rw [q3]; exact fun z => nomatch z
    · rw [I.keep a o q e]; exact fun z => nomatch z
theorem end_io {S2 : AS} {H2 : Hp} {σ : L2.St} {ρ : Rho} (I : EnvOk K ⟨S, H, io⟩ S2 H2 σ ρ) : IoF K S2 H2 io (ioR ρ) := by
  cases io with
  | none =>
    show ioR ρ = none
    cases q : ioR ρ with
    | none => rfl
    | some c =>
      obtain ⟨i, z⟩ := ioR_get q
      obtain ⟨v, e, w⟩ := I.at z
      obtain ⟨p, o, _, _, w2, _⟩ := w
      cases w2
  | some p =>
    obtain ⟨i, c, q1, q2⟩ := I.iok p rfl
    obtain ⟨c', hc'⟩ := ioR_some q1
    obtain ⟨j, z⟩ := ioR_get hc'
    obtain ⟨v, e, w⟩ := I.at z
    obtain ⟨p', o, _, n1, w2, h3, h4⟩ := w
    cases w2
    exact ⟨c', o, hc', n1, h3, h4⟩
end
abbrev wE (E : XK) : WX := fun c d _ H => E c d H
/-- a def keeps its promise -/
theorem fn_dl {CX' : CXT} {P : Program} {w : World} {K : PySem.W.Frag} {mg : Str → Option Value} {base : Heap} {x qual : Str} {params : Arguments} {body : List Stmt} {scope : Scope} {dvs : List V} {kws : List (Str × V)} {f : Addr} {fd : FuncData} {N ps : List Str} {k : Nat} {m : MS}
    (F : FunD K x qual params body scope dvs kws f fd) (Sc : FnScope N ps scope)
    (hb : ∀ (cdv : Value) (A : Around) (outer : List Env) (s : Shared) (H : Hp) (E : XK), Room k (A.deeper (envOfC qual scope s.heap.objs.size f cdv)) → ∀ B, XSs (cxOf CX' P w K mg base N qual scope f cdv A outer s H E) B (wE E) body m) :
    FnOk P w K mg base CX' (k + 1) f fd ps (spD K ps.length (fnD N.length m)) := by
  refine F.ok Sc (fun vs H Q E ⟨S, as, io, h1, _, h2, _⟩ => by rw [h2.length, h1]) fun cdv A outer s H vs Q E hr ⟨S, as, io, h1, h2, h3, h4, h5, h6⟩ => ⟨_, (hb cdv A outer s H E hr ⟨S, H, io⟩).pss, ?_⟩
  have hl : as.length ≤ N.length := by
    rw [h1]
    have z := congrArg List.length Sc.pre
    rw [List.length_take] at z
    omega
  refine ⟨S, startR N.length as, start_ok h2 h3 h4 h5 hl, ?_⟩
  unfold fnD at h6
  cases hm : m (startR N.length as) with
  | bad => rw [hm] at h6; exact h6
  | bk ρ => rw [hm] at h6; exact h6.elim
  | ct ρ => rw [hm] at h6; exact h6.elim
  | nx ρ =>
    rw [hm] at h6
    exact fun S2 H2 σ2 I _ => h6 S2 H2 .non (end_ext I) .non (end_io I)
  | exc x ρ =>
    rw [hm] at h6
    exact fun S2 H2 σ2 I _ => h6 S2 H2 (end_ext I) (end_io I)
  | rt r ρ =>
    rw [hm] at h6
    intro S2 H2 σ2 I _
    cases r with
    | val d => exact fun v hv => h6 S2 H2 v (end_ext I) hv (end_io I)
    | own c => exact fun p o n1 n2 n3 n4 n5 => h6 S2 H2 (.ref p) (end_ext I) ⟨p, o, rfl, n1, n2, n3, n4⟩ (end_io I)

/-! ### calls -/
/-- behind a call -/
theorem EnvOk.called {K : PySem.W.Frag} {B : Base} {S S2 : AS} {H H2 : Hp} {σ : L2.St} {ρ ρ2 : Rho} {io : Option Addr} (I : EnvOk K B S H σ ρ) (e : FExt S H io S2 H2)
    (hio : (io = none ∧ ρ2 = ρ) ∨ ∃ i p s c c' o, io = some p ∧ ρ[i]? = some s ∧ s.oc = some c ∧ σ[i]? = some (some (.ref p)) ∧ ¬ S2 p ∧ H2 p = some o ∧ OcOk K S2 H2 o c' ∧ ρ2 = ρ.set i (s.put c')) :
    EnvOk K B S2 H2 σ ρ2 ∧ Ext S H (OwnS σ ρ) S2 H2 (OwnS σ ρ2) ∧ ∀ j a, Own σ ρ2 j a → Own σ ρ j a := by
  have iow : ∀ p, io = some p → OwnS σ ρ p := fun p hp => by
    rcases hio with ⟨z, _⟩ | ⟨i, p', s, c, c', o, z, h1, h2, h3, _⟩
    · rw [z] at hp; cases hp
    · rw [z] at hp; cases hp
      refine ⟨i, h3, c, ?_⟩
      rw [h1]
      cases s <;> cases h2
      · exact .inl rfl
      · exact .inr rfl
  have kp : ∀ a o, H a = some o → ¬ OwnS σ ρ a → H2 a = some o := fun a o z n => e.keep a o z fun q => n (iow a q)
  have X : Ext S H (OwnS σ ρ) S2 H2 (OwnS σ ρ) := ⟨I.gd, e.sub, kp, fun a z => .inl z, fun a z => (e.new a z).imp_right .inr, e.dom⟩
  have bn : ∀ a, H a = none → B.H a = none := fun a z => (I.fresh z).2.1
  have base : EnvOk K B S2 H2 σ ρ2 ∧ (∀ j a, Own σ ρ2 j a → Own σ ρ j a) := by
    rcases hio with ⟨z, rfl⟩ | ⟨i, p, s, c, c', o, z, h1, h2, h3, h4, h5, h6, rfl⟩
    · refine ⟨I.ext X (fun i a o q1 q2 => ⟨fun q => ?_, e.keep a o q2 (by rw [z]; exact fun y => nomatch y)⟩) (fun a q => (e.new a q).imp_right (bn a)) (fun a o _ _ q => e.keep a o q (by rw [z]; exact fun y => nomatch y)) fun a q _ => e.sdom a q, fun _ _ q => q⟩
      rcases e.new a q with q3 | q3
      · exact (I.ownAt q1).1 q3
      · rw [q2] at q3; cases q3
    · have hi : i < ρ.length := (List.getElem?_eq_some_iff.mp h1).1
      have ow : Own σ ρ i p := by
        refine ⟨h3, c, ?_⟩
        rw [h1]
        cases s <;> cases h2
        · exact .inl rfl
        · exact .inr rfl
      have owns : ∀ j a, Own σ (ρ.set i (s.put c')) j a → Own σ ρ j a := fun j a q => by
        by_cases ej : i = j
        · subst ej
          obtain ⟨q1, _⟩ := q
          rw [h3] at q1; cases q1
          exact ow
        · unfold Own at q ⊢
          rwa [List.getElem?_set_ne ej] at q
      refine ⟨⟨by simpa using I.len, fun j v t q1 q2 => ?_, fun j k a z1 z2 => I.dis j k a (owns j a z1) (owns k a z2), fun a q => e.sub a (I.sub a q), fun a q => ?_, fun a u q1 q2 => ?_, fun a q => ?_, e.sdom⟩, owns⟩
      · by_cases ej : i = j
        · subst ej
          rw [List.getElem?_set_self hi] at q2
          rw [h3] at q1
          cases q1
          have st := I.slot i _ s h3 h1
          cases s <;> cases h2 <;> cases q2
          · obtain ⟨a, u, ea, b1, b2, b3, b4⟩ := st
            cases ea
            exact ⟨p, o, rfl, h4, b2, h5, h6⟩
          · obtain ⟨a, u, ea, b1, b2, b3, b4⟩ := st
            cases ea
            exact ⟨p, o, rfl, h4, b2, h5, h6⟩
        · rw [List.getElem?_set_ne ej] at q2
          have st := I.slot j v t q1 q2
          have ne : ∀ a, Own σ ρ j a → io ≠ some a := fun a q4 q5 => by
            rw [z] at q5; cases q5
            exact ej (I.dis i j _ ow q4)
          have ns : ∀ a u, H a = some u → ¬ S a → ¬ S2 a := fun a u q4 q5 q6 => by
            rcases e.new a q6 with q7 | q7
            · exact q5 q7
            · rw [q4] at q7; cases q7
          cases t with
          | un => trivial
          | val d => obtain ⟨x, e1, e2⟩ := st; exact ⟨x, e1, e2.ext X⟩
          | fz d => obtain ⟨x, e1, e2⟩ := st; exact ⟨x, e1, X.ls e2⟩
          | own d =>
            obtain ⟨a, u, ea, b1, b2, b3, b4⟩ := st
            subst ea
            exact ⟨a, u, rfl, ns a u b3 b1, b2, e.keep a u b3 (ne a ⟨q1, d, .inl q2⟩), b4.ext X⟩
          | io d =>
            obtain ⟨a, u, ea, b1, b2, b3, b4⟩ := st
            subst ea
            exact ⟨a, u, rfl, ns a u b3 b1, b2, e.keep a u b3 (ne a ⟨q1, d, .inr q2⟩), b4.ext X⟩
      · rcases e.new a q with q3 | q3
        · exact I.new a q3
        · exact .inr (bn a q3)
      · refine e.keep a u (I.keep a u q1 q2) fun q3 => ?_
        rw [z] at q3; cases q3
        have st := I.slot i _ s h3 h1
        cases s <;> cases h2
        · obtain ⟨a', u', ea, b1, b2, b3, b4⟩ := st
          cases ea
          rw [b2] at q1; cases q1
        · obtain ⟨a', u', ea, b1, b2, b3, b4⟩ := st
          cases ea
          exact q2 b2
      · obtain ⟨j, d, q1, q2⟩ := I.iok a q
        by_cases ej : i = j
        · subst ej
          rw [h1] at q1
          cases q1
          exact ⟨i, c', by rw [List.getElem?_set_self hi]; rfl, q2⟩
        · exact ⟨j, d, by rw [List.getElem?_set_ne ej]; exact q1, q2⟩
  exact ⟨base.1, X.owns fun a ⟨j, q⟩ => .inl ⟨j, base.2 j a q⟩, base.2⟩

/-- an argument: a value, a name whose object is to be changed, the script -/
inductive CA where
  | v (o : Opd) | io (i : Nat) | fz (i : Nat)
inductive AP where
  | d (d : D) | io (i : Nat) | fz (i : Nat)
def CA.ev : CA → Rho → Out AP
  | .v o, ρ => (o.esc ρ).bind fun r ρ1 => .ok (.d r.dat) ρ1
  | .io i, ρ => match ρ[i]? with
    | some s => (match s.oc with
      | some _ => .ok (.io i) ρ
      | none => .bad)
    | none => .bad
  | .fz i, ρ => match ρ[i]? with
    | some (.fz _) => .ok (.fz i) ρ
    | _ => .bad
def evCAs : List CA → Rho → Out (List AP)
  | [], ρ => .ok [] ρ
  | a :: as, ρ => (a.ev ρ).bind fun h ρ1 => (evCAs as ρ1).bind fun hs ρ2 => .ok (h :: hs) ρ2
def AP.res (ρ : Rho) : AP → Option Ar
  | .d x => some (.d x)
  | .io i => match ρ[i]? with
    | some s => s.oc.map .io
    | none => none
  | .fz i => match ρ[i]? with
    | some (.fz ns) => some (.fz ns)
    | _ => none
def resAPs (ρ : Rho) : List AP → Option (List Ar)
  | [] => some []
  | h :: hs => match h.res ρ, resAPs ρ hs with
    | some d, some ds => some (d :: ds)
    | _, _ => none
/-- the slot that is handed over -/
def ioAt : List AP → Option Nat
  | [] => none
  | .io i :: _ => some i
  | _ :: as => ioAt as
def putIo (ρ : Rho) (i : Option Nat) (c : Option Oc) : Option Rho := match i, c with
  | none, none => some ρ
  | some i, some c => (match ρ[i]? with
    | some s => some (ρ.set i (s.put c))
    | none => none)
  | _, _ => none
def mDef (n : Nat) (f : FD) (as : List CA) (ρ : Rho) : Out Rv := (evCAs as ρ).bind fun hs ρ1 => match resAPs ρ1 hs with
  | some xs => if xs.length = n ∧ ioN xs ≤ 1 then (match f xs with
    | .ok r c => (match putIo ρ1 (ioAt hs) c with
      | some ρ2 => .ok r ρ2
      | none => .bad)
    | .exc x c => (match putIo ρ1 (ioAt hs) c with
      | some ρ2 => .exc x ρ2
      | none => .bad)
    | .bad => .bad) else .bad
  | none => .bad
def APOk (K : PySem.W.Frag) (S : AS) (H : Hp) (σ : L2.St) (v : V) : AP → Prop
  | .d x => DS K S H v x
  | .io i => σ[i]? = some (some v)
  | .fz i => σ[i]? = some (some v)
inductive APsOk (K : PySem.W.Frag) (S : AS) (H : Hp) (σ : L2.St) : List V → List AP → Prop
  | nil : APsOk K S H σ [] []
  | cons {v : V} {vs : List V} {a : AP} {as : List AP} : APOk K S H σ v a → APsOk K S H σ vs as → APsOk K S H σ (v :: vs) (a :: as)
inductive XCAs (X : Cx) (B : Base) (W : WX) : List Expr → List CA → Prop
  | nil : XCAs X B W [] []
  | v {e : Expr} {es : List Expr} {o : Opd} {as : List CA} : XO X B W e o → XCAs X B W es as → starEach (e :: es) X.env = (false, eval e X.env) :: starEach es X.env → XCAs X B W (e :: es) (.v o :: as)
  | io {e : Expr} {es : List Expr} {i : Nat} {as : List CA} : PE X e (tVar i) → XCAs X B W es as → starEach (e :: es) X.env = (false, eval e X.env) :: starEach es X.env → XCAs X B W (e :: es) (.io i :: as)
  | fz {e : Expr} {es : List Expr} {i : Nat} {as : List CA} : PE X e (tVar i) → XCAs X B W es as → starEach (e :: es) X.env = (false, eval e X.env) :: starEach es X.env → XCAs X B W (e :: es) (.fz i :: as)
def CA.te (K : PySem.W.Frag) (B : Base) (W : WX) : CA → TE
  | .v o => rd K B W o.esc
  | .io i => tVar i
  | .fz i => tVar i
def tCAs (K : PySem.W.Frag) (B : Base) (W : WX) : List CA → TA
  | [] => tNil
  | a :: as => tCons (a.te K B W) (tCAs K B W as)
theorem XCAs.pa {X : Cx} {B : Base} {W : WX} : ∀ {es : List Expr} {as : List CA}, XCAs X B W es as → PA X es (tCAs X.K B W as)
  | _, _, .nil => pa_nil
  | _, _, .v h t s => pa_cons h.xe.pe t.pa s
  | _, _, .io h t s => pa_cons h t.pa s
  | _, _, .fz h t s => pa_cons h t.pa s
section
variable {K : PySem.W.Frag} {B : Base} {W : WX} {σ : L2.St}
theorem APOk.ext {S S1 O O1 : AS} {H H1 : Hp} {v : V} {a : AP} (e : Ext S H O S1 H1 O1) (h : APOk K S H σ v a) : APOk K S1 H1 σ v a := by
  cases a with
  | d x => exact DS.ext e h
  | io i => exact h
  | fz i => exact h
theorem CA.te_of {R : V → Hp → Prop} {a : CA} {S : AS} {H : Hp} {ρ : Rho} (I : EnvOk K B S H σ ρ) (q : AfterG K B W σ S H (OwnS σ ρ) (fun _ h ρ' S' H' => ∀ v, APOk K S' H' σ v h → R v H') (a.ev ρ)) : a.te K B W σ H R := by
  cases a with
  | v o => exact ⟨S, ρ, I, AfterG.ofV (AfterG.imp (AfterG.bind MonoR.c q) fun r ρ1 S1 H1 I1 e1 q1 v hv => q1 S1 H1 I1 I1.refl v hv)⟩
  | io i =>
    change AfterG _ _ _ _ _ _ _ _ (match ρ[i]? with | some s => _ | none => .bad) at q
    cases hr : ρ[i]? with
    | none => rw [hr] at q; exact q.elim
    | some s =>
      rw [hr] at q
      dsimp only at q
      cases ho : s.oc with
      | none => rw [ho] at q; exact q.elim
      | some c =>
        rw [ho] at q
        obtain ⟨v, e, z⟩ := I.at hr
        cases s <;> cases ho
        · obtain ⟨a, u, rfl, _⟩ := z; exact ⟨_, e, q S H I I.refl _ e⟩
        · obtain ⟨a, u, rfl, _⟩ := z; exact ⟨_, e, q S H I I.refl _ e⟩
  | fz i =>
    change AfterG _ _ _ _ _ _ _ _ (match ρ[i]? with | some (.fz _) => _ | _ => .bad) at q
    cases hr : ρ[i]? with
    | none => rw [hr] at q; exact q.elim
    | some s =>
      rw [hr] at q
      cases s <;> first
        | exact False.elim q
        | skip
      obtain ⟨v, e, z⟩ := I.at hr
      obtain ⟨a, rfl, _⟩ := z
      exact ⟨_, e, q S H I I.refl _ e⟩
theorem tCAs_of {R : List V → Hp → Prop} : ∀ {as : List CA} {S : AS} {H : Hp} {ρ : Rho}, EnvOk K B S H σ ρ → AfterG K B W σ S H (OwnS σ ρ) (fun _ hs ρ' S' H' => ∀ vs, APsOk K S' H' σ vs hs → R vs H') (evCAs as ρ) → tCAs K B W as σ H R
  | [], S, H, ρ, I, q => q S H I I.refl [] .nil
  | a :: as, S, H, ρ, I, q => by
    refine CA.te_of I (AfterG.imp (AfterG.bind MonoR.c q) fun h ρ1 S1 H1 I1 e1 q1 v hv => ?_)
    refine tCAs_of I1 (AfterG.imp (AfterG.bind MonoR.c q1) fun hs ρ2 S3 H3 I3 e3 q3 vs hvs => ?_)
    exact q3 S3 H3 I3 I3.refl (v :: vs) (.cons (APOk.ext e3 hv) hvs)
/-- the arguments as the callee takes them -/
theorem aps_ok {S : AS} {H : Hp} {ρ : Rho} (I : EnvOk K B S H σ ρ) : ∀ {vs : List V} {hs : List AP} {xs : List Ar} {io : Option Addr}, APsOk K S H σ vs hs → resAPs ρ hs = some xs → ioN xs ≤ 1 → (0 < ioN xs → ∀ i, ioAt hs = some i → ∃ p, io = some p ∧ σ[i]? = some (some (.ref p))) → ArsOk K S H io vs xs
  | _, _, _, _, .nil, e, _, _ => by cases e; exact .nil
  | _, h :: hs, xs, io, .cons (v := v) x t, e, l, hio => by
    unfold resAPs at e
    cases q1 : h.res ρ with
    | none => rw [q1] at e; cases e
    | some d =>
      cases q2 : resAPs ρ hs with
      | none => rw [q1, q2] at e; cases e
      | some es =>
        rw [q1, q2] at e
        cases e
        cases h with
        | d y =>
          cases q1
          exact .cons (.d x) (aps_ok I t q2 (l) fun z i hi => hio (z) i hi)
        | fz i =>
          simp only [AP.res] at q1
          cases hr : ρ[i]? with
          | none => rw [hr] at q1; cases q1
          | some s =>
            rw [hr] at q1
            cases s <;> cases q1
            obtain ⟨v', e', z⟩ := I.at hr
            obtain ⟨a, rfl, z⟩ := z
            have x' : σ[i]? = some (some v) := x
            rw [e'] at x'; cases x'
            exact .cons (.fz z) (aps_ok I t q2 (l) fun z i hi => hio (z) i hi)
        | io i =>
          simp only [AP.res] at q1
          cases hr : ρ[i]? with
          | none => rw [hr] at q1; cases q1
          | some s =>
            rw [hr] at q1
            dsimp only at q1
            cases ho : s.oc with
            | none => rw [ho] at q1; cases q1
            | some c =>
              rw [ho] at q1
              cases q1
              have l0 : ioN es = 0 := by have l : ioN es + 1 ≤ 1 := l; omega
              obtain ⟨p, hp1, hp2⟩ := hio (Nat.succ_pos _) i rfl
              have x' : σ[i]? = some (some v) := x
              rw [hp2] at x'; cases x'
              refine .cons ?_ (aps_ok I t q2 (by omega) fun z => by omega)
              obtain ⟨v', e', z⟩ := I.at hr
              rw [hp2] at e'; cases e'
              cases s <;> cases ho
              · obtain ⟨a, u, ea, b1, b2, b3, b4⟩ := z; cases ea; exact .io hp1 b1 b3 b4
              · obtain ⟨a, u, ea, b1, b2, b3, b4⟩ := z; cases ea; exact .io hp1 b1 b3 b4
theorem ioAt_none {ρ : Rho} : ∀ {hs : List AP} {xs : List Ar}, resAPs ρ hs = some xs → (ioAt hs = none ↔ ioN xs = 0)
  | [], xs, e => by cases e; exact ⟨fun _ => rfl, fun _ => rfl⟩
  | h :: hs, xs, e => by
    unfold resAPs at e
    cases q1 : h.res ρ with
    | none => rw [q1] at e; cases e
    | some d =>
      cases q2 : resAPs ρ hs with
      | none => rw [q1, q2] at e; cases e
      | some es =>
        rw [q1, q2] at e
        cases e
        have ih := ioAt_none q2
        cases h with
        | d y => cases q1; exact ih
        | fz i =>
          simp only [AP.res] at q1
          cases hr : ρ[i]? with
          | none => rw [hr] at q1; cases q1
          | some s => rw [hr] at q1; cases s <;> cases q1; exact ih
        | io i =>
          simp only [AP.res] at q1
          cases hr : ρ[i]? with
          | none => rw [hr] at q1; cases q1
          | some s =>
            rw [hr] at q1
            dsimp only at q1
            cases ho : s.oc with
            | none => rw [ho] at q1; cases q1
            | some c => rw [ho] at q1; cases q1; exact ⟨fun z => (by cases z), fun z => (by cases z)⟩
theorem ioAt_some {ρ : Rho} : ∀ {hs : List AP} {xs : List Ar} {i : Nat}, resAPs ρ hs = some xs → ioAt hs = some i → ∃ s c, ρ[i]? = some s ∧ s.oc = some c
  | [], xs, i, e, z => by cases z
  | h :: hs, xs, i, e, z => by
    unfold resAPs at e
    cases q1 : h.res ρ with
    | none => rw [q1] at e; cases e
    | some d =>
      cases q2 : resAPs ρ hs with
      | none => rw [q1, q2] at e; cases e
      | some es =>
        cases h with
        | d y => exact ioAt_some q2 z
        | fz j => exact ioAt_some q2 z
        | io j =>
          cases z
          simp only [AP.res] at q1
          cases hr : ρ[i]? with
          | none => rw [hr] at q1; cases q1
          | some s =>
            rw [hr] at q1
            dsimp only at q1
            cases ho : s.oc with
            | none => rw [ho] at q1; cases q1
            | some c => exact ⟨s, c, rfl, ho⟩
/-- what a callee promises is what its caller takes -/
theorem def_of {E : XK} {f : FD} {n : Nat} {as : List CA} {H : Hp} {Q : VK} (hEW : ∀ (x : Str) (H : Hp), Wish K W x σ H → E (.ref (He.ga K x)) none H) (h : rd K B W (mDef n f as) σ H Q) :
    tCAs K B W as σ H fun vs H1 => spD K n f vs H1 Q E := by
  obtain ⟨S, ρ, I, q⟩ := h
  refine tCAs_of I (AfterG.imp (AfterG.bind MonoR.ret q) fun hs ρ1 S1 H1 I1 e1 q1 vs hvs => ?_)
  cases hx : resAPs ρ1 hs with
  | none => rw [hx] at q1; exact q1.elim
  | some xs =>
    rw [hx] at q1
    dsimp only at q1
    by_cases hll : xs.length = n ∧ ioN xs ≤ 1
    case neg => rw [if_neg hll] at q1; exact q1.elim
    rw [if_pos hll] at q1
    obtain ⟨hlen, hl⟩ := hll
    -- the object that is handed over
    have hio : ∃ io : Option Addr, (io = none ↔ ioN xs = 0) ∧ (∀ i, ioAt hs = some i → ∃ p, io = some p ∧ σ[i]? = some (some (.ref p))) ∧ (ioAt hs = none → io = none) := by
      cases ha : ioAt hs with
      | none => exact ⟨none, ⟨fun _ => (ioAt_none hx).mp ha, fun _ => rfl⟩, fun i z => (by cases z), fun _ => rfl⟩
      | some i =>
        obtain ⟨s, c, h1, h2⟩ := ioAt_some hx ha
        obtain ⟨v, e, z⟩ := I1.at h1
        have : ∃ p, v = some (.ref p) := by
          cases s <;> cases h2
          · obtain ⟨a, u, rfl, _⟩ := z; exact ⟨a, rfl⟩
          · obtain ⟨a, u, rfl, _⟩ := z; exact ⟨a, rfl⟩
        obtain ⟨p, rfl⟩ := this
        refine ⟨some p, ⟨fun z => by (cases z), fun z => ?_⟩, fun j z => by cases z; exact ⟨p, rfl, e⟩, fun z => by cases z⟩
        rw [(ioAt_none hx).mpr z] at ha; cases ha
    obtain ⟨io, io0, io1, io2⟩ := hio
    have args := aps_ok I1 (io := io) hvs hx hl fun _ i hi => io1 i hi
    refine ⟨S1, xs, io, hlen, I1.sdom, args, io0, hl, ?_⟩
    have put : ∀ {S2 : AS} {H2 : Hp} {c : Option Oc} {ρ2 : Rho}, FExt S1 H1 io S2 H2 → IoF K S2 H2 io c → putIo ρ1 (ioAt hs) c = some ρ2 → EnvOk K B S2 H2 σ ρ2 ∧ Ext S1 H1 (OwnS σ ρ1) S2 H2 (OwnS σ ρ2) ∧ ∀ j a, Own σ ρ2 j a → Own σ ρ1 j a := fun {S2 H2 c ρ2} fe fi fp => by
      refine I1.called fe ?_
      cases ha : ioAt hs with
      | none =>
        rw [ha] at fp
        have z := io2 ha
        rw [z] at fi
        have fi : c = none := fi
        subst fi
        cases fp
        exact .inl ⟨z, rfl⟩
      | some i =>
        rw [ha] at fp
        obtain ⟨p, e1, e2⟩ := io1 i ha
        obtain ⟨s, c0, h1, h2⟩ := ioAt_some hx ha
        rw [e1] at fi
        obtain ⟨c', o, rfl, f1, f2, f3⟩ := fi
        unfold putIo at fp
        dsimp only at fp
        rw [h1] at fp
        cases fp
        exact .inr ⟨i, p, s, c0, c', o, e1, h1, h2, e2, f1, f2, f3, rfl⟩
    cases hf : f xs with
    | bad => rw [hf] at q1; exact q1.elim
    | ok r c =>
      rw [hf] at q1
      dsimp only at q1
      cases hp : putIo ρ1 (ioAt hs) c with
      | none => rw [hp] at q1; exact q1.elim
      | some ρ2 =>
        rw [hp] at q1
        intro S2 H2 v fe fr fi
        obtain ⟨I2, E2, O2⟩ := put fe fi hp
        have z := q1 S2 H2 I2 E2
        cases r with
        | val d => exact z v fr
        | own c' =>
          obtain ⟨p, o, rfl, k1, k2, k3, k4⟩ := fr
          obtain ⟨_, n2, n3, n4⟩ := I1.fresh k2
          exact z p o k1 n2 k2 k3 k4 fun i y => n3 i (O2 i p y)
    | exc x c =>
      rw [hf] at q1
      dsimp only at q1
      cases hp : putIo ρ1 (ioAt hs) c with
      | none => rw [hp] at q1; exact q1.elim
      | some ρ2 =>
        rw [hp] at q1
        intro S2 H2 fe fi
        obtain ⟨I2, E2, O2⟩ := put fe fi hp
        exact hEW x H2 (q1 S2 H2 I2 E2)
end
section
variable {X : Cx} {B : Base} {W : WX} {CX' : CXT} {k : Nat} {f : Addr} {fd : FuncData} {ps : List Str} {fn : FD} {x : Str} {p pos : Pos} {e : Expr} {es : List Expr} {as : List CA}
/-- a call of a def that lets nothing out -/
theorem xe_def {n : Nat} {g : FD} (F : FnOk X.prog X.w X.K X.mg X.base CX0 k f fd ps (spD X.K n g)) (hr : Room k X.A) (hg : Gl X x) (hm : X.mg x = some (.ref f)) (hk : PySem.W.keepIn X.K (.ref f) = true) (hb : Binds X.K fd ps [])
    (ha : XCAs X B W (e :: es) as) (hdb : (x == ("__debug__" : Str)) = false := by decide) (he : starEach (e :: es) X.env = (false, eval e X.env) :: starEach es X.env := by rfl) (hpl : (backTo pos (starEach es X.env)).any (·.1) = false := by rfl) :
    XE X B W (.Call (.Name x p) (e :: es) [] pos) (mDef n g as) :=
  ⟨(pe_call (E := fun _ _ _ => True) F hr hg hm hk hb .nil pass0 ha.pa hdb he hpl).imp fun σ H Q h => by
    show tCAs _ _ _ _ σ H fun vs H1 => spD _ _ _ (vs ++ []) H1 Q _
    simp only [List.append_nil]
    exact def_of (fun _ _ z => trivial) h⟩
end
end DL
set_option Elab.async false
set_option linter.all false
set_option maxRecDepth 100000
set_option maxHeartbeats 1000000
namespace DL
open PySem PySem.Spec PyProof.Rows L2 RT

/-! ### walks that hand out new tuples -/
def ItT (go stop : Nat → Hp → Prop) (Yl : Nat → Hp → List V → Prop) : It := ⟨go, fun i H v H' => ∃ T xs, v = .ref T ∧ H T = none ∧ H' = upd H T (.tup xs) ∧ Yl i H xs, stop⟩
/-- what the library knows of such a walk at a turn -/
def KnowsT (P : Program) (w : World) (A : Around) (z : Addr) (fp : List Addr) (tn : Nat → Heap → Prop) (i : Nat) (h : Heap) (last : Bool) (Y : List V → Prop) : Prop :=
  ∃ fpW wr n Pt St Mid, WalksT P w A z fpW wr n Pt St Mid ∧ St i h ∧ (if last then i = n else i < n) ∧ (∀ b ∈ wr, b ∈ fp) ∧ (∀ h', St (i + 1) h' → tn (i + 1) h') ∧ ∀ vals : Array Value, Pt i vals → ∃ xs : List V, Vals xs vals.toList ∧ xs.length ≤ sizeLine ∧ Y xs
theorem turn_T {P : Program} {w : World} {K : PySem.W.Frag} {elts : List Expr} {kk : Nat} {tpos : Pos} {go stop : Nat → Hp → Prop} {Yl : Nat → Hp → List V → Prop} {z : Addr} {fp : List Addr} {tn : Nat → Heap → Prop} (mem : z ∈ fp)
    (obj : ∀ i h, tn i h → ∀ b ∈ fp, ∃ o, h.get? b = some o ∧ ∀ v, o.data ≠ .cell v) (keep : ∀ i h h', tn i h → (∀ b ∈ fp, ∀ o, h.get? b = some o → h'.get? b = some o) → tn i h')
    (self : ∀ (A : Around) (i : Nat) (s : Shared) (Q : Value → Shared → Prop) (E : Value → Shared → Prop), tn i s.heap → Q (.ref z) s → wpAny (model P w) A (pyIter (.ref z)) Q E s)
    (hgo : ∀ (X : Cx) (i : Nat) (pins : List (Addr × Obj)) (s : Shared) (σ : L2.St) (H : Hp), X.K = K → X.A.handled = none → Inv X pins σ H s → tn i s.heap → go i H → KnowsT P w X.A z fp tn i s.heap false (Yl i H))
    (hstop : ∀ (X : Cx) (i : Nat) (pins : List (Addr × Obj)) (s : Shared) (σ : L2.St) (H : Hp), X.K = K → X.A.handled = none → Inv X pins σ H s → tn i s.heap → stop i H → KnowsT P w X.A z fp tn i s.heap true (Yl i H)) :
    Turn P w K (.Tuple elts kk tpos) (ItT go stop Yl) fp z tn where
  mem := mem
  obj := obj
  keep := keep
  self := self
  item := by
    intro X hP hw hK hc i pins s σ H E I hf st hg
    obtain ⟨fpW, wr, n, Pt, St, Mid, Wk, hS, hi, hwr, hnx, hv⟩ := hgo X i pins s σ H hK (I.ok.hd hc) I st hg
    subst hP hw hK
    have hi : i < n := hi
    refine Wk.item i s _ _ hi hS fun T vals h1 tk hPt hT hIs hM hk1 => ?_
    obtain ⟨xs, rv, hl, hy⟩ := hv vals hPt
    have apT := Wk.apart _ _ _ hM
    refine ⟨_, rfl, Wk.go elts kk tpos i T { s with heap := h1, toks := tk } _ _ hM fun h2 hS2 hk2 => ?_⟩
    have hk : ∀ b o, b ∉ wr → s.heap.get? b = some o → h2.get? b = some o := fun b o hb e => hk2 b o hb (hk1 b o hb e)
    obtain ⟨oT, gT, cT, nT, dT⟩ := hIs
    have gT2 : h2.get? T = some oT := hk2 T oT apT gT
    have I1 : Inv X pins σ (upd H T (.tup xs)) { s with heap := h2, toks := tk } := I.turnedNew (ch := wr) hk (fun b hb => hf b (hwr b hb)) hT ⟨hl, vals.toList, rv, ⟨oT, gT2, cT, nT, by simpa using dT⟩⟩
    refine ⟨.ref T, _, I1, rfl, ⟨T, xs, rfl, I.hok.fresh hT, rfl, hy⟩, hnx _ hS2, fun b hb => ?_⟩
    obtain ⟨o, e, _⟩ := obj i s.heap st b hb
    rw [upd_ne (Nat.ne_of_lt (Nat.lt_of_lt_of_le (Heap.lt_size e) hT))]
    exact (hf b hb).1
  done := by
    intro X hP hw hK hc i pins s σ H E I hf st hg
    obtain ⟨fpW, wr, n, Pt, St, Mid, Wk, hS, hi, hwr, _, _⟩ := hstop X i pins s σ H hK (I.ok.hd hc) I st hg
    subst hP hw hK
    have hi : i = n := hi
    subst hi
    exact Wk.done s _ _ hS fun h1 tk hk => ⟨rfl, I.turnedL (t' := tk) (ch := wr) (fun b o hb e => hk b o hb e) fun b hb => hf b (hwr b hb)⟩

/-! ### sources: lists, tuples -/
def SqK (K : PySem.W.Frag) (H : Hp) (k : Bool) (a : Addr) (xs : List V) : Prop := if k then SqT K H a xs else SqL K H a xs
def IsK (k : Bool) (h : Heap) (a : Addr) (items : Array Value) : Prop := if k then h.IsTuple a items else h.IsList a items
def IsItK (k : Bool) (h : Heap) (it a : Addr) (i : Nat) : Prop := if k then h.IsTupleIter it a i else h.IsListIter it a i
theorem drawsK {prog : Program} {w : World} {A : Around} (k : Bool) (hh : A.handled = none) (it a : Addr) (hne : a ≠ it) (items : Array Value) :
    Draws prog w A it [it, a] items.size (fun i v => items[i]? = some v) (fun i h => IsItK k h it a i ∧ IsK k h a items) := by
  cases k with
  | true => exact Draws.tuple hh it a hne items
  | false => exact Draws.list hh it a hne items
def objK (k : Bool) (a : Addr) : Obj := if k then { cls := .type "tuple_iterator", data := .fields #[.ref a, .int 0 0] } else { cls := .type "list_iterator", data := .fields #[.ref a, .int 0 0] }
theorem beginsK (k : Bool) (a : Addr) (items : Array Value) : Begins (.ref a) (objK k a) fun h => IsK k h a items := by
  cases k with
  | true => exact begins_tuple a items
  | false => exact begins_list a items
theorem itK_of {k : Bool} {h : Heap} {it a : Addr} (e : h.get? it = some (objK k a)) : IsItK k h it a 0 := by
  cases k with
  | true => exact ⟨_, e, rfl, rfl⟩
  | false => exact ⟨_, e, rfl, rfl⟩
theorem IsItK.obj {k : Bool} {h : Heap} {it a : Addr} {i : Nat} (e : IsItK k h it a i) : ∃ o, h.get? it = some o ∧ ∀ v, o.data ≠ .cell v := by
  cases k with
  | true => obtain ⟨o, e, _, d⟩ := e; exact ⟨o, e, fun v z => by rw [d] at z; cases z⟩
  | false => obtain ⟨o, e, _, d⟩ := e; exact ⟨o, e, fun v z => by rw [d] at z; cases z⟩
theorem IsItK.keep {k : Bool} {h h' : Heap} {it a : Addr} {i : Nat} (e : IsItK k h it a i) (kp : ∀ o, h.get? it = some o → h'.get? it = some o) : IsItK k h' it a i := by
  cases k with
  | true => obtain ⟨o, e, d⟩ := e; exact ⟨o, kp o e, d⟩
  | false => obtain ⟨o, e, d⟩ := e; exact ⟨o, kp o e, d⟩
theorem sqK_heap {X : Cx} {pins : List (Addr × Obj)} {σ : L2.St} {H : Hp} {s : Shared} {k : Bool} {a : Addr} {xs : List V} (I : Inv X pins σ H s) (h : SqK X.K H k a xs) : ∃ its : List Value, Vals xs its ∧ IsK k s.heap a its.toArray := by
  cases k with
  | true => obtain ⟨its, rv, p, _⟩ := I.tuple h; exact ⟨its, rv, p⟩
  | false => obtain ⟨its, rv, p, _⟩ := I.list h; exact ⟨its, rv, p.isList⟩
theorem IsK.at_ {k : Bool} {h : Heap} {a : Addr} {items : Array Value} (e : IsK k h a items) : ∃ o, h.get? a = some o := by
  cases k with
  | true => obtain ⟨o, e, _⟩ := e; exact ⟨o, e⟩
  | false => obtain ⟨o, e, _⟩ := e; exact ⟨o, e⟩
theorem sqK_inj {X : Cx} {pins : List (Addr × Obj)} {σ : L2.St} {H : Hp} {s : Shared} {k : Bool} {a : Addr} {xs ys : List V} (I : Inv X pins σ H s) (h : SqK X.K H k a xs) (g : SqK X.K H k a ys) : xs = ys := by
  cases k with
  | true => exact I.tuple_inj h g
  | false => exact I.list_inj h g
theorem SqK.ls {K : PySem.W.Frag} {H : Hp} {k : Bool} {a : Addr} {xs : List V} (h : SqK K H k a xs) : SqL K H a xs ∨ SqT K H a xs := by
  cases k with
  | true => exact .inr h
  | false => exact .inl h

theorem nne {a b : Nat} (h : a ≠ b) : @Ne Addr a b := h
theorem nm2 {x i a : Nat} (h1 : x ≠ i) (h2 : x ≠ a) : ¬ @List.Mem Addr x [i, a] := fun z => by
  rcases List.mem_cons.mp (show x ∈ [i, a] from z) with q | q
  · exact h1 q
  · exact h2 (List.mem_singleton.mp q)
theorem mem_z2 : ∀ (n c : Nat), c ∈ [n + 4, n + 3, n, n + 1] → c ∈ [n + 4, n + 2, n + 3, n, n + 1] := by intro n c h; simp at h ⊢; omega
theorem mem_z3 : ∀ (n c : Nat), c ∈ [n + 5, n + 4, n, n + 1, n + 2] → c ∈ [n + 5, n + 3, n + 4, n, n + 1, n + 2] := by intro n c h; simp at h ⊢; omega
theorem le_z2 : ∀ (n c : Nat), c ∈ [n + 4, n + 2, n + 3, n, n + 1] → n ≤ c := by intro n c h; simp at h; omega
theorem le_z3 : ∀ (n c : Nat), c ∈ [n + 5, n + 3, n + 4, n, n + 1, n + 2] → n ≤ c := by intro n c h; simp at h; omega
theorem le_z1 : ∀ (n c : Nat), c ∈ [n + 1, n] → n ≤ c := by intro n c h; simp at h; omega
theorem vals2r {a b : Addr} {us : List Value} (h : Vals [.ref a, .ref b] us) : us = [.ref a, .ref b] := by
  cases h with | cons r rr => cases rr with | cons r' rr => cases rr; cases r; cases r'; rfl
theorem vals3r {a b c : Addr} {us : List Value} (h : Vals [.ref a, .ref b, .ref c] us) : us = [.ref a, .ref b, .ref c] := by
  cases h with | cons r rr => cases rr with | cons r' rr => cases rr with | cons r'' rr => cases rr; cases r; cases r'; cases r''; rfl
/-! ### zip of two -/
def ItZ2 (K : PySem.W.Frag) (k1 k2 : Bool) (a b : Addr) : It :=
  ItT (fun i H => ∃ xs ys, SqK K H k1 a xs ∧ SqK K H k2 b ys ∧ i < xs.length ∧ i < ys.length) (fun i H => ∃ xs ys, SqK K H k1 a xs ∧ SqK K H k2 b ys ∧ i = min xs.length ys.length)
    fun i H vs => ∃ x y, vs = [x, y] ∧ (∀ xs, SqK K H k1 a xs → xs[i]? = some x) ∧ ∀ ys, SqK K H k2 b ys → ys[i]? = some y
theorem getVals {xs : List V} {its : List Value} (r : Vals xs its) {i : Nat} {u : Value} (h : its.toArray[i]? = some u) : ∃ x, xs[i]? = some x ∧ RelV x u := by
  have hl : i < its.length := by
    have z := (Array.getElem?_eq_some_iff.mp h).1
    simpa using z
  have hx : ∃ x, xs[i]? = some x := ⟨_, List.getElem?_eq_getElem (by rw [r.length]; exact hl)⟩
  obtain ⟨x, hx⟩ := hx
  obtain ⟨u', e, ru⟩ := r.get hx
  have h' : its[i]? = some u := by simpa using h
  rw [e] at h'; cases h'
  exact ⟨x, hx, ru⟩
theorem two_line : 2 ≤ sizeLine := by decide
theorem turn_z2 {P : Program} {w : World} {K : PySem.W.Frag} {elts : List Expr} {kk : Nat} {tpos : Pos} {k1 k2 : Bool} {a b z TI TO i1 i2 : Nat} (D : z = i1 + 4 ∧ TI = i1 + 2 ∧ TO = i1 + 3 ∧ i2 = i1 + 1) (ha : a < i1) (hb : b < i1) :
    Turn P w K (.Tuple elts kk tpos) (ItZ2 K k1 k2 a b) [z, TI, TO, i1, i2] z (fun i h => IsZip h z TI TO .none ∧ IsTupOf2 h TI (.ref i1) (.ref i2) ∧ (∃ a1 a2, IsTupOf2 h TO a1 a2) ∧ IsItK k1 h i1 a i ∧ IsItK k2 h i2 b i) := by
  obtain ⟨rfl, rfl, rfl, rfl⟩ := D
  have sep : ZipSep2 (i1 + 4) (i1 + 2) (i1 + 3) i1 (i1 + 1) [i1, a] [i1 + 1, b] := ⟨nne (by omega), nne (by omega), nne (by omega), nne (by omega), List.mem_cons_self, nm2 (by omega) (by omega), nm2 (by omega) (by omega), nne (by omega), List.mem_cons_self, nm2 (by omega) (by omega), nm2 (by omega) (by omega), nm2 (by omega) (by omega), nm2 (by omega) (by omega)⟩
  refine turn_T (by simp) (fun i h ⟨t1, t2, ⟨a1, a2, t3⟩, t4, t5⟩ c hc => ?_) (fun i h h' ⟨t1, t2, ⟨a1, a2, t3⟩, t4, t5⟩ kp => ⟨kp _ (by simp) _ t1, kp _ (by simp) _ t2, ⟨a1, a2, kp _ (by simp) _ t3⟩, t4.keep (kp _ (by simp)), t5.keep (kp _ (by simp))⟩) (fun A i s Q E st h => wpAny_pyIter_zip st.1 h) ?_ ?_
  · have e' : c = i1 + 4 ∨ c = i1 + 2 ∨ c = i1 + 3 ∨ c = i1 ∨ c = i1 + 1 := by simpa using hc
    rcases e' with q | q | q | q | q <;> subst q
    · exact ⟨_, t1, fun v q => nomatch q⟩
    · exact ⟨_, t2, fun v q => nomatch q⟩
    · exact ⟨_, t3, fun v q => nomatch q⟩
    · exact t4.obj
    · exact t5.obj
  · rintro X i pins s σ H rfl hh I ⟨t1, t2, t3, t4, t5⟩ ⟨xs, ys, q1, q2, l1, l2⟩
    obtain ⟨its, r1, p1⟩ := sqK_heap I q1
    obtain ⟨its2, r2, p2⟩ := sqK_heap I q2
    refine ⟨_, _, _, _, _, _, WalksT.zipD2 sep (drawsK (A := X.A.in1) k1 hh i1 a (nne (by omega)) its.toArray) (drawsK (A := X.A.in1) k2 hh (i1 + 1) b (nne (by omega)) its2.toArray), ⟨t1, t2, t3, ⟨t4, p1⟩, t5, p2⟩, ?_, fun c hc => ?_, fun h' ⟨u1, u2, u3, u4, u5⟩ => ⟨u1, u2, u3, u4.1, u5.1⟩, fun vals ⟨x1, x2, e1, e2, ev⟩ => ?_⟩
    · have := r1.length
      have := r2.length
      show i < min _ _
      simp only [List.size_toArray]
      omega
    · exact mem_z2 i1 c hc
    · obtain ⟨x, g1, g2⟩ := getVals r1 e1
      obtain ⟨y, g3, g4⟩ := getVals r2 e2
      subst ev
      exact ⟨[x, y], .cons g2 (.cons g4 .nil), two_line, x, y, rfl, fun l hl => by rw [sqK_inj I hl q1]; exact g1, fun l hl => by rw [sqK_inj I hl q2]; exact g3⟩
  · rintro X i pins s σ H rfl hh I ⟨t1, t2, t3, t4, t5⟩ ⟨xs, ys, q1, q2, l1⟩
    obtain ⟨its, r1, p1⟩ := sqK_heap I q1
    obtain ⟨its2, r2, p2⟩ := sqK_heap I q2
    refine ⟨_, _, _, _, _, _, WalksT.zipD2 sep (drawsK (A := X.A.in1) k1 hh i1 a (nne (by omega)) its.toArray) (drawsK (A := X.A.in1) k2 hh (i1 + 1) b (nne (by omega)) its2.toArray), ⟨t1, t2, t3, ⟨t4, p1⟩, t5, p2⟩, ?_, fun c hc => ?_, fun h' ⟨u1, u2, u3, u4, u5⟩ => ⟨u1, u2, u3, u4.1, u5.1⟩, fun vals ⟨x1, x2, e1, e2, ev⟩ => ?_⟩
    · have := r1.length
      have := r2.length
      show i = min _ _
      simp only [List.size_toArray]
      omega
    · exact mem_z2 i1 c hc
    · obtain ⟨x, g1, g2⟩ := getVals r1 e1
      obtain ⟨y, g3, g4⟩ := getVals r2 e2
      subst ev
      exact ⟨[x, y], .cons g2 (.cons g4 .nil), two_line, x, y, rfl, fun l hl => by rw [sqK_inj I hl q1]; exact g1, fun l hl => by rw [sqK_inj I hl q2]; exact g3⟩
def iZ2 (K : PySem.W.Frag) (ta : TA) : TI := fun σ H R => ta σ H fun vs H1 => ∃ a b k1 k2 xs ys, vs = [.ref a, .ref b] ∧ SqK K H1 k1 a xs ∧ SqK K H1 k2 b ys ∧ R (ItZ2 K k1 k2 a b) H1
theorem pi_z2 {X : Cx} {e e2 : Expr} {ta : TA} {p pos tpos : Pos} {elts : List Expr} {kk : Nat} (hg : Gl X "zip") (hm : X.mg "zip" = none) (ha : PA X [e, e2] ta)
    (hs : starEach [e, e2] X.env = (false, eval e X.env) :: starEach [e2] X.env := by rfl) (hpl : (backTo pos (starEach [e2] X.env)).any (·.1) = false := by rfl) :
    PI X (.Tuple elts kk tpos) (.Call (.Name "zip" p) [e, e2] [] pos) (iZ2 X.K ta) :=
  ⟨fun pins s σ H R I h => Call_ (ld_blt I hg hm PyProof.Rows.boot_zip (PyProof.Rows.callWith_type1 (thn (ha.run pos pins s σ H _ I h) fun us s1 ⟨vs, H1, I1, r1, a, b, k1, k2, xs, ys, ex, q1, q2, q⟩ => by
    subst ex
    obtain rfl := vals2r r1
    obtain ⟨its, v1, p1⟩ := sqK_heap I1 q1
    obtain ⟨its2, v2, p2⟩ := sqK_heap I1 q2
    obtain ⟨o1, g1⟩ := p1.at_
    obtain ⟨o2, g2⟩ := p2.at_
    refine zip_begins2 (beginsK k1 a its.toArray) (beginsK k2 b its2.toArray) p1 p2 fun h' z1 z2 z3 z4 z5 _ kp => wpAny_pyIter_zip z1 ?_
    refine ⟨_, _, _, _, H1, rfl, I1.kept (t' := s1.toks) kp, turn_z2 ⟨rfl, rfl, rfl, rfl⟩ (Heap.lt_size g1) (Heap.lt_size g2), ⟨z1, z2, ⟨_, _, z3⟩, itK_of z4, itK_of z5⟩, fun c hc => ?_, q⟩
    have hle : s1.heap.objs.size ≤ c := le_z2 _ _ hc
    exact I1.fpOk hle (I1.hok.fresh hle)) hs hpl))⟩

/-! ### zip of three -/
def ItZ3 (K : PySem.W.Frag) (k1 k2 k3 : Bool) (a b c : Addr) : It :=
  ItT (fun i H => ∃ xs ys zs, SqK K H k1 a xs ∧ SqK K H k2 b ys ∧ SqK K H k3 c zs ∧ i < xs.length ∧ i < ys.length ∧ i < zs.length) (fun i H => ∃ xs ys zs, SqK K H k1 a xs ∧ SqK K H k2 b ys ∧ SqK K H k3 c zs ∧ i = min (min xs.length ys.length) zs.length)
    fun i H vs => ∃ x y z, vs = [x, y, z] ∧ (∀ xs, SqK K H k1 a xs → xs[i]? = some x) ∧ (∀ ys, SqK K H k2 b ys → ys[i]? = some y) ∧ ∀ zs, SqK K H k3 c zs → zs[i]? = some z
theorem three_line : 3 ≤ sizeLine := by decide
theorem turn_z3 {P : Program} {w : World} {K : PySem.W.Frag} {elts : List Expr} {kk : Nat} {tpos : Pos} {k1 k2 k3 : Bool} {a b c i1 : Nat} (ha : a < i1) (hb : b < i1) (hc : c < i1) :
    Turn P w K (.Tuple elts kk tpos) (ItZ3 K k1 k2 k3 a b c) [i1 + 5, i1 + 3, i1 + 4, i1, i1 + 1, i1 + 2] (i1 + 5) (fun i h => IsZip h (i1 + 5) (i1 + 3) (i1 + 4) .none ∧ IsTupOf3 h (i1 + 3) (.ref i1) (.ref (i1 + 1)) (.ref (i1 + 2)) ∧ (∃ a1 a2 a3, IsTupOf3 h (i1 + 4) a1 a2 a3) ∧ IsItK k1 h i1 a i ∧ IsItK k2 h (i1 + 1) b i ∧ IsItK k3 h (i1 + 2) c i) := by
  have sep : ZipSep3 (i1 + 5) (i1 + 3) (i1 + 4) i1 (i1 + 1) (i1 + 2) [i1, a] [i1 + 1, b] [i1 + 2, c] := ⟨nne (by omega), nne (by omega), nne (by omega), nne (by omega), List.mem_cons_self, nm2 (by omega) (by omega), nm2 (by omega) (by omega), nne (by omega), List.mem_cons_self, nm2 (by omega) (by omega), nm2 (by omega) (by omega), nne (by omega), List.mem_cons_self, nm2 (by omega) (by omega), nm2 (by omega) (by omega), nm2 (by omega) (by omega), nm2 (by omega) (by omega), nm2 (by omega) (by omega), nm2 (by omega) (by omega), nm2 (by omega) (by omega), nm2 (by omega) (by omega)⟩
  refine turn_T (by simp) (fun i h ⟨t1, t2, ⟨a1, a2, a3, t3⟩, t4, t5, t6⟩ d hd => ?_) (fun i h h' ⟨t1, t2, ⟨a1, a2, a3, t3⟩, t4, t5, t6⟩ kp => ⟨kp _ (by simp) _ t1, kp _ (by simp) _ t2, ⟨a1, a2, a3, kp _ (by simp) _ t3⟩, t4.keep (kp _ (by simp)), t5.keep (kp _ (by simp)), t6.keep (kp _ (by simp))⟩) (fun A i s Q E st h => wpAny_pyIter_zip st.1 h) ?_ ?_
  · have e' : d = i1 + 5 ∨ d = i1 + 3 ∨ d = i1 + 4 ∨ d = i1 ∨ d = i1 + 1 ∨ d = i1 + 2 := by simpa using hd
    rcases e' with q | q | q | q | q | q <;> subst q
    · exact ⟨_, t1, fun v q => nomatch q⟩
    · exact ⟨_, t2, fun v q => nomatch q⟩
    · exact ⟨_, t3, fun v q => nomatch q⟩
    · exact t4.obj
    · exact t5.obj
    · exact t6.obj
  · rintro X i pins s σ H rfl hh I ⟨t1, t2, t3, t4, t5, t6⟩ ⟨xs, ys, zs, q1, q2, q3, l1, l2, l3⟩
    obtain ⟨its, r1, p1⟩ := sqK_heap I q1
    obtain ⟨its2, r2, p2⟩ := sqK_heap I q2
    obtain ⟨its3, r3, p3⟩ := sqK_heap I q3
    refine ⟨_, _, _, _, _, _, WalksT.zipD3 sep (drawsK (A := X.A.in1) k1 hh i1 a (nne (by omega)) its.toArray) (drawsK (A := X.A.in1) k2 hh (i1 + 1) b (nne (by omega)) its2.toArray) (drawsK (A := X.A.in1) k3 hh (i1 + 2) c (nne (by omega)) its3.toArray), ⟨t1, t2, t3, ⟨t4, p1⟩, ⟨t5, p2⟩, t6, p3⟩, ?_, fun c hc => ?_, fun h' ⟨u1, u2, u3, u4, u5, u6⟩ => ⟨u1, u2, u3, u4.1, u5.1, u6.1⟩, fun vals ⟨x1, x2, x3, e1, e2, e3, ev⟩ => ?_⟩
    · have := r1.length
      have := r2.length
      have := r3.length
      show i < min _ _
      simp only [List.size_toArray]
      omega
    · exact mem_z3 i1 c hc
    · obtain ⟨x, g1, g2⟩ := getVals r1 e1
      obtain ⟨y, g3, g4⟩ := getVals r2 e2
      obtain ⟨z, g5, g6⟩ := getVals r3 e3
      subst ev
      exact ⟨[x, y, z], .cons g2 (.cons g4 (.cons g6 .nil)), three_line, x, y, z, rfl, fun l hl => by rw [sqK_inj I hl q1]; exact g1, fun l hl => by rw [sqK_inj I hl q2]; exact g3, fun l hl => by rw [sqK_inj I hl q3]; exact g5⟩
  · rintro X i pins s σ H rfl hh I ⟨t1, t2, t3, t4, t5, t6⟩ ⟨xs, ys, zs, q1, q2, q3, l1⟩
    obtain ⟨its, r1, p1⟩ := sqK_heap I q1
    obtain ⟨its2, r2, p2⟩ := sqK_heap I q2
    obtain ⟨its3, r3, p3⟩ := sqK_heap I q3
    refine ⟨_, _, _, _, _, _, WalksT.zipD3 sep (drawsK (A := X.A.in1) k1 hh i1 a (nne (by omega)) its.toArray) (drawsK (A := X.A.in1) k2 hh (i1 + 1) b (nne (by omega)) its2.toArray) (drawsK (A := X.A.in1) k3 hh (i1 + 2) c (nne (by omega)) its3.toArray), ⟨t1, t2, t3, ⟨t4, p1⟩, ⟨t5, p2⟩, t6, p3⟩, ?_, fun c hc => ?_, fun h' ⟨u1, u2, u3, u4, u5, u6⟩ => ⟨u1, u2, u3, u4.1, u5.1, u6.1⟩, fun vals ⟨x1, x2, x3, e1, e2, e3, ev⟩ => ?_⟩
    · have := r1.length
      have := r2.length
      have := r3.length
      show i = min _ _
      simp only [List.size_toArray]
      omega
    · exact mem_z3 i1 c hc
    · obtain ⟨x, g1, g2⟩ := getVals r1 e1
      obtain ⟨y, g3, g4⟩ := getVals r2 e2
      obtain ⟨z, g5, g6⟩ := getVals r3 e3
      subst ev
      exact ⟨[x, y, z], .cons g2 (.cons g4 (.cons g6 .nil)), three_line, x, y, z, rfl, fun l hl => by rw [sqK_inj I hl q1]; exact g1, fun l hl => by rw [sqK_inj I hl q2]; exact g3, fun l hl => by rw [sqK_inj I hl q3]; exact g5⟩
def iZ3 (K : PySem.W.Frag) (ta : TA) : TI := fun σ H R => ta σ H fun vs H1 => ∃ a b c k1 k2 k3 xs ys zs, vs = [.ref a, .ref b, .ref c] ∧ SqK K H1 k1 a xs ∧ SqK K H1 k2 b ys ∧ SqK K H1 k3 c zs ∧ R (ItZ3 K k1 k2 k3 a b c) H1
theorem pi_z3 {X : Cx} {e e2 e3 : Expr} {ta : TA} {p pos tpos : Pos} {elts : List Expr} {kk : Nat} (hg : Gl X "zip") (hm : X.mg "zip" = none) (ha : PA X [e, e2, e3] ta)
    (hs : starEach [e, e2, e3] X.env = (false, eval e X.env) :: starEach [e2, e3] X.env := by rfl) (hpl : (backTo pos (starEach [e2, e3] X.env)).any (·.1) = false := by rfl) :
    PI X (.Tuple elts kk tpos) (.Call (.Name "zip" p) [e, e2, e3] [] pos) (iZ3 X.K ta) :=
  ⟨fun pins s σ H R I h => Call_ (ld_blt I hg hm PyProof.Rows.boot_zip (PyProof.Rows.callWith_type1 (thn (ha.run pos pins s σ H _ I h) fun us s1 ⟨vs, H1, I1, r1, a, b, c, k1, k2, k3, xs, ys, zs, ex, q1, q2, q3, q⟩ => by
    subst ex
    obtain rfl := vals3r r1
    obtain ⟨its, v1, p1⟩ := sqK_heap I1 q1
    obtain ⟨its2, v2, p2⟩ := sqK_heap I1 q2
    obtain ⟨its3, v3, p3⟩ := sqK_heap I1 q3
    obtain ⟨o1, g1⟩ := p1.at_
    obtain ⟨o2, g2⟩ := p2.at_
    obtain ⟨o3, g3⟩ := p3.at_
    refine zip_begins3 (beginsK k1 a its.toArray) (beginsK k2 b its2.toArray) (beginsK k3 c its3.toArray) p1 p2 p3 fun h' z1 z2 z3 z4 z5 z6 _ kp => wpAny_pyIter_zip z1 ?_
    refine ⟨_, _, _, _, H1, rfl, I1.kept (t' := s1.toks) kp, turn_z3 (Heap.lt_size g1) (Heap.lt_size g2) (Heap.lt_size g3), ⟨z1, z2, ⟨_, _, _, z3⟩, itK_of z4, itK_of z5, itK_of z6⟩, fun c hc => ?_, q⟩
    have hle : s1.heap.objs.size ≤ c := le_z3 _ _ hc
    exact I1.fpOk hle (I1.hok.fresh hle)) hs hpl))⟩

/-! ### enumerate -/
theorem meets_enum1 {v : Value} {o : Obj} {H : Heap → Prop} (B : Begins v o H) :
    Meets (Builtin.«enumerate.__new__» ⟨[.type "enumerate", v], []⟩) (fun _ R s => H s.heap ∧ R (.ok (.ret (.ref (s.heap.push o).objs.size))) { s with heap := (s.heap.push o).push { cls := .type "enumerate", data := .fields #[.none, .bool false, .ref s.heap.objs.size, rawInt 0, .none, .none] } }) :=
  .of_wp fun prog w A R s h => by
    obtain ⟨hp, g, d, tk, os⟩ := s
    obtain ⟨h1, h⟩ := h
    have q1 : ∀ {A' : Around} {E : Value → Shared → Prop} {Q : Value → Shared → Prop}, Q (.ref hp.objs.size) ⟨(hp.push o), g, d, tk, os⟩ → wpAny (model prog w) A' (pyIter v) Q E ⟨hp, g, d, tk, os⟩ := fun q => B.iter prog w _ _ ⟨hp, g, d, tk, os⟩ _ h1 q
    have hsub := sub_enumerate
    wp_walk
    refine wpAny_stack_any fun st => wpAny_pure ?_
    split
    · rename_i c _ _ _ _ _
      cases (c == Value.type "enumerate")
      · wp_walk using q1
        exact ⟨_, rfl, h⟩
      · wp_walk using q1
        exact ⟨_, rfl, h⟩
    · wp_walk using q1
      exact ⟨_, rfl, h⟩
theorem enum_begins1 {prog : Program} {w : World} {A : Around} {E : Value → Shared → Prop} {s : Shared} {v : Value} {o : Obj} {H : Heap → Prop} {Q : Value → Shared → Prop} (B : Begins v o H) (h1 : H s.heap)
    (h : ∀ h', IsEnum h' (s.heap.objs.size + 1) s.heap.objs.size 0 .none → h'.get? s.heap.objs.size = some o → (∀ b o, s.heap.get? b = some o → h'.get? b = some o) → Q (.ref (s.heap.objs.size + 1)) { s with heap := h' }) :
    wpAny (model prog w) A (call (.type "enumerate") [v]) Q E s := by
  refine callType_new F.called_enumerate (by decide) (F.typeCall_enumerate_1 _) (F.newCall_enumerate_1 _) (fun obj => F.args_object_init_2 obj _) F.entry_enumerate_new (meets_enum1 B) ⟨h1, ?_⟩
  have hz : (s.heap.push o).objs.size = s.heap.objs.size + 1 := Heap.size_push ..
  have he : IsEnum ((s.heap.push o).push { cls := .type "enumerate", data := .fields #[.none, .bool false, .ref s.heap.objs.size, rawInt 0, .none, .none] }) (s.heap.objs.size + 1) s.heap.objs.size 0 .none := by
    rw [← hz]
    exact Heap.get?_push_size (s.heap.push o) rfl
  show _ ∧ _
  rw [hz]
  exact ⟨⟨_, he, rfl⟩, h _ he (Heap.get?_push_of_some _ (Heap.get?_push_size _ B.free)) fun b o x => Heap.get?_push_of_some _ (Heap.get?_push_of_some _ x)⟩
def ItE (K : PySem.W.Frag) (k : Bool) (a : Addr) : It :=
  ItT (fun i H => ∃ xs, SqK K H k a xs ∧ i < xs.length) (fun i H => ∃ xs, SqK K H k a xs ∧ i = xs.length) fun i H vs => ∃ x, vs = [.int (i : Nat), x] ∧ ∀ xs, SqK K H k a xs → xs[i]? = some x
theorem turn_e {P : Program} {w : World} {K : PySem.W.Frag} {elts : List Expr} {kk : Nat} {tpos : Pos} {k : Bool} {a it : Nat} (ha : a < it) :
    Turn P w K (.Tuple elts kk tpos) (ItE K k a) [it + 1, it] (it + 1) (fun i h => (∃ old, IsEnum h (it + 1) it ((i : Nat) : Int) old) ∧ IsItK k h it a i) := by
  refine turn_T (by simp) (fun i h ⟨⟨old, t1⟩, t2⟩ d hd => ?_) (fun i h h' ⟨⟨old, t1⟩, t2⟩ kp => ⟨⟨old, kp _ (by simp) _ t1⟩, t2.keep (kp _ (by simp))⟩) (fun A i s Q E ⟨⟨_, t1⟩, _⟩ h => wpAny_pyIter_enum t1 h) ?_ ?_
  · have e' : d = it + 1 ∨ d = it := by simpa using hd
    rcases e' with q | q <;> subst q
    · exact ⟨_, t1, fun v q => nomatch q⟩
    · exact t2.obj
  · rintro X i pins s σ H rfl hh I ⟨t1, t2⟩ ⟨xs, q1, l1⟩
    obtain ⟨its, r1, p1⟩ := sqK_heap I q1
    refine ⟨_, _, _, _, _, _, WalksT.enumerateD (drawsK (A := X.A.in1) k hh it a (nne (by omega)) its.toArray) (it + 1) (nne (by omega)) (nm2 (by omega) (by omega)) List.mem_cons_self, ⟨t1, t2, p1⟩, ?_, fun c hc => ?_, fun h' ⟨u1, u2⟩ => ⟨u1, u2.1⟩, fun vals ⟨t, x1, e1, ev⟩ => ?_⟩
    · have := r1.length
      show i < _
      simp only [List.size_toArray]
      omega
    · simpa using hc
    · obtain ⟨x, g1, g2⟩ := getVals r1 e1
      subst ev
      exact ⟨[.int (i : Nat), x], .cons ⟨t, rfl⟩ (.cons g2 .nil), two_line, x, rfl, fun l hl => by rw [sqK_inj I hl q1]; exact g1⟩
  · rintro X i pins s σ H rfl hh I ⟨t1, t2⟩ ⟨xs, q1, l1⟩
    obtain ⟨its, r1, p1⟩ := sqK_heap I q1
    refine ⟨_, _, _, _, _, _, WalksT.enumerateD (drawsK (A := X.A.in1) k hh it a (nne (by omega)) its.toArray) (it + 1) (nne (by omega)) (nm2 (by omega) (by omega)) List.mem_cons_self, ⟨t1, t2, p1⟩, ?_, fun c hc => ?_, fun h' ⟨u1, u2⟩ => ⟨u1, u2.1⟩, fun vals ⟨t, x1, e1, ev⟩ => ?_⟩
    · have := r1.length
      show i = _
      simp only [List.size_toArray]
      omega
    · simpa using hc
    · obtain ⟨x, g1, g2⟩ := getVals r1 e1
      subst ev
      exact ⟨[.int (i : Nat), x], .cons ⟨t, rfl⟩ (.cons g2 .nil), two_line, x, rfl, fun l hl => by rw [sqK_inj I hl q1]; exact g1⟩
def iE (K : PySem.W.Frag) (ta : TA) : TI := fun σ H R => ta σ H fun vs H1 => ∃ a k xs, vs = [.ref a] ∧ SqK K H1 k a xs ∧ R (ItE K k a) H1
theorem pi_e {X : Cx} {e : Expr} {ta : TA} {p pos tpos : Pos} {elts : List Expr} {kk : Nat} (hg : Gl X "enumerate") (hm : X.mg "enumerate" = none) (ha : PA X [e] ta) (hs : starEach [e] X.env = [(false, eval e X.env)] := by rfl) :
    PI X (.Tuple elts kk tpos) (.Call (.Name "enumerate" p) [e] [] pos) (iE X.K ta) :=
  ⟨fun pins s σ H R I h => Call_ (ld_blt I hg hm boot_enumerate (PyProof.Rows.callWith_type1 (thn (ha.run pos pins s σ H _ I h) fun us s1 ⟨vs, H1, I1, r1, a, k, xs, ex, q1, q⟩ => by
    subst ex
    obtain rfl := Vals.ref1 r1
    obtain ⟨its, v1, p1⟩ := sqK_heap I1 q1
    obtain ⟨o1, g1⟩ := p1.at_
    refine enum_begins1 (beginsK k a its.toArray) p1 fun h' z1 z2 kp => wpAny_pyIter_enum z1 ?_
    refine ⟨_, _, _, _, H1, rfl, I1.kept (t' := s1.toks) kp, turn_e (Heap.lt_size g1), ⟨⟨_, z1⟩, itK_of z2⟩, fun c hc => ?_, q⟩
    have hle : s1.heap.objs.size ≤ c := le_z1 _ _ hc
    exact I1.fpOk hle (I1.hok.fresh hle)) hs rfl))⟩

/-! ### as data -/
def zip2D : List D → List D → List D
  | x :: xs, y :: ys => .tuple [x, y] :: zip2D xs ys
  | _, _ => []
def zip3D : List D → List D → List D → List D
  | x :: xs, y :: ys, z :: zs => .tuple [x, y, z] :: zip3D xs ys zs
  | _, _, _ => []
def enumD (i : Nat) : List D → List D
  | [] => []
  | x :: xs => .tuple [.int (i : Nat), x] :: enumD (i + 1) xs
theorem zip2D_get : ∀ {xs ys : List D} {i : Nat} {d : D}, (zip2D xs ys)[i]? = some d → ∃ x y, xs[i]? = some x ∧ ys[i]? = some y ∧ d = .tuple [x, y]
  | x :: xs, y :: ys, 0, d, h => by simp [zip2D] at h; exact ⟨x, y, rfl, rfl, h.symm⟩
  | x :: xs, y :: ys, i + 1, d, h => by
    obtain ⟨a, b, h1, h2, h3⟩ := zip2D_get (xs := xs) (ys := ys) (i := i) (by simpa [zip2D] using h)
    exact ⟨a, b, by simpa using h1, by simpa using h2, h3⟩
  | [], _, _, _, h => by simp [zip2D] at h
  | _ :: _, [], _, _, h => by simp [zip2D] at h
theorem zip2D_len : ∀ (xs ys : List D), (zip2D xs ys).length = min xs.length ys.length
  | x :: xs, y :: ys => by rw [zip2D, List.length_cons, zip2D_len xs ys, List.length_cons, List.length_cons]; omega
  | [], _ => by simp [zip2D]
  | _ :: _, [] => by simp [zip2D]
theorem zip3D_get : ∀ {xs ys zs : List D} {i : Nat} {d : D}, (zip3D xs ys zs)[i]? = some d → ∃ x y z, xs[i]? = some x ∧ ys[i]? = some y ∧ zs[i]? = some z ∧ d = .tuple [x, y, z]
  | x :: xs, y :: ys, z :: zs, 0, d, h => by simp [zip3D] at h; exact ⟨x, y, z, rfl, rfl, rfl, h.symm⟩
  | x :: xs, y :: ys, z :: zs, i + 1, d, h => by
    obtain ⟨a, b, c, h1, h2, h3, h4⟩ := zip3D_get (xs := xs) (ys := ys) (zs := zs) (i := i) (by simpa [zip3D] using h)
    exact ⟨a, b, c, by simpa using h1, by simpa using h2, by simpa using h3, h4⟩
  | [], _, _, _, _, h => by simp [zip3D] at h
  | _ :: _, [], _, _, _, h => by simp [zip3D] at h
  | _ :: _, _ :: _, [], _, _, h => by simp [zip3D] at h
theorem zip3D_len : ∀ (xs ys zs : List D), (zip3D xs ys zs).length = min (min xs.length ys.length) zs.length
  | x :: xs, y :: ys, z :: zs => by rw [zip3D, List.length_cons, zip3D_len xs ys zs, List.length_cons, List.length_cons, List.length_cons]; omega
  | [], _, _ => by simp [zip3D]
  | _ :: _, [], _ => by simp [zip3D]
  | _ :: _, _ :: _, [] => by simp [zip3D]
theorem enumD_get : ∀ {xs : List D} {i j : Nat} {d : D}, (enumD j xs)[i]? = some d → ∃ x, xs[i]? = some x ∧ d = .tuple [.int ((j + i : Nat) : Int), x]
  | x :: xs, 0, j, d, h => by simp [enumD] at h; exact ⟨x, rfl, by simp [h.symm]⟩
  | x :: xs, i + 1, j, d, h => by
    obtain ⟨a, h1, h2⟩ := enumD_get (xs := xs) (i := i) (j := j + 1) (by simpa [enumD] using h)
    exact ⟨a, by simpa using h1, by rw [h2]; simp; omega⟩
  | [], _, _, _, h => by simp [enumD] at h
theorem enumD_len : ∀ (j : Nat) (xs : List D), (enumD j xs).length = xs.length
  | _, [] => rfl
  | j, x :: xs => by rw [enumD, List.length_cons, enumD_len (j + 1) xs, List.length_cons]
/-- an item's place: a list or tuple that stays -/
def SrcOk (K : PySem.W.Frag) (S : AS) (H : Hp) (k : Bool) (a : Addr) (ds : List D) : Prop := ∃ xs, DSs K S H xs ds ∧ if k then SqT K H a xs else LsS K S H a xs
section
variable {K : PySem.W.Frag} {S S1 O O1 : AS} {H H1 : Hp} {k : Bool} {a : Addr} {ds : List D}
theorem SrcOk.ext (e : Ext S H O S1 H1 O1) (h : SrcOk K S H k a ds) : SrcOk K S1 H1 k a ds := by
  obtain ⟨xs, h1, h2⟩ := h
  refine ⟨xs, h1.ext e, ?_⟩
  cases k with
  | true => exact e.sqt h2
  | false => exact e.ls h2
theorem SrcOk.sq (h : SrcOk K S H k a ds) : ∃ xs, SqK K H k a xs ∧ DSs K S H xs ds := by
  obtain ⟨xs, h1, h2⟩ := h
  cases k with
  | true => exact ⟨xs, h2, h1⟩
  | false => exact ⟨xs, LsS.sq h2, h1⟩
theorem itD_src {v : V} {d : D} (hd : itD d = some ds) (h : DS K S H v d) : ∃ a k, v = .ref a ∧ SrcOk K S H k a ds := by
  obtain ⟨a, xs, rfl, h1, h2⟩ := itD_ds hd h
  rcases h2 with h2 | h2
  · exact ⟨a, false, rfl, xs, h1, h2⟩
  · exact ⟨a, true, rfl, xs, h1, h2⟩
end
theorem itOk_e {K : PySem.W.Frag} {S : AS} {H : Hp} {k : Bool} {a : Addr} {ds : List D} (h : SrcOk K S H k a ds) : ItOk K S H (ItE K k a) (enumD 0 ds) := by
  intro S1 H1 O O1 e
  obtain ⟨xs, q, hd⟩ := (h.ext e).sq
  refine ⟨fun i d hi => ?_, xs, q, by rw [enumD_len, hd.length]⟩
  obtain ⟨x, hx, rfl⟩ := enumD_get hi
  obtain ⟨v, h1, h2⟩ := hd.get hx
  refine ⟨⟨xs, q, (List.getElem?_eq_some_iff.mp h1).1⟩, fun v' H' ⟨T, vs, e1, e2, e3, x', e4, e5⟩ => .inl ⟨T, vs, e2, e3, e1, _, rfl, ?_⟩⟩
  have z := e5 xs q
  rw [h1] at z; cases z
  subst e4
  exact .cons (by simpa using DS.int (K := K) (S := S1) (H := H1) (i : Int)) (.cons h2 .nil)
theorem itOk_z2 {K : PySem.W.Frag} {S : AS} {H : Hp} {k1 k2 : Bool} {a b : Addr} {ds es : List D} (h : SrcOk K S H k1 a ds) (g : SrcOk K S H k2 b es) : ItOk K S H (ItZ2 K k1 k2 a b) (zip2D ds es) := by
  intro S1 H1 O O1 e
  obtain ⟨xs, q, hd⟩ := (h.ext e).sq
  obtain ⟨ys, q', hd'⟩ := (g.ext e).sq
  refine ⟨fun i d hi => ?_, xs, ys, q, q', by rw [zip2D_len, hd.length, hd'.length]⟩
  obtain ⟨x, y, hx, hy, rfl⟩ := zip2D_get hi
  obtain ⟨v, h1, h2⟩ := hd.get hx
  obtain ⟨w, g1, g2⟩ := hd'.get hy
  refine ⟨⟨xs, ys, q, q', (List.getElem?_eq_some_iff.mp h1).1, (List.getElem?_eq_some_iff.mp g1).1⟩, fun v' H' ⟨T, vs, e1, e2, e3, x', y', e4, e5, e6⟩ => .inl ⟨T, vs, e2, e3, e1, _, rfl, ?_⟩⟩
  have z := e5 xs q
  rw [h1] at z; cases z
  have z := e6 ys q'
  rw [g1] at z; cases z
  subst e4
  exact .cons h2 (.cons g2 .nil)
theorem itOk_z3 {K : PySem.W.Frag} {S : AS} {H : Hp} {k1 k2 k3 : Bool} {a b c : Addr} {ds es fs : List D} (h : SrcOk K S H k1 a ds) (g : SrcOk K S H k2 b es) (f : SrcOk K S H k3 c fs) : ItOk K S H (ItZ3 K k1 k2 k3 a b c) (zip3D ds es fs) := by
  intro S1 H1 O O1 e
  obtain ⟨xs, q, hd⟩ := (h.ext e).sq
  obtain ⟨ys, q', hd'⟩ := (g.ext e).sq
  obtain ⟨zs, q'', hd''⟩ := (f.ext e).sq
  refine ⟨fun i d hi => ?_, xs, ys, zs, q, q', q'', by rw [zip3D_len, hd.length, hd'.length, hd''.length]⟩
  obtain ⟨x, y, z, hx, hy, hz, rfl⟩ := zip3D_get hi
  obtain ⟨v, h1, h2⟩ := hd.get hx
  obtain ⟨w, g1, g2⟩ := hd'.get hy
  obtain ⟨u, f1, f2⟩ := hd''.get hz
  refine ⟨⟨xs, ys, zs, q, q', q'', (List.getElem?_eq_some_iff.mp h1).1, (List.getElem?_eq_some_iff.mp g1).1, (List.getElem?_eq_some_iff.mp f1).1⟩, fun v' H' ⟨T, vs, e1, e2, e3, x', y', z', e4, e5, e6, e7⟩ => .inl ⟨T, vs, e2, e3, e1, _, rfl, ?_⟩⟩
  have w1 := e5 xs q
  rw [h1] at w1; cases w1
  have w2 := e6 ys q'
  rw [g1] at w2; cases w2
  have w3 := e7 zs q''
  rw [f1] at w3; cases w3
  subst e4
  exact .cons h2 (.cons g2 (.cons f2 .nil))
def El1 (os : List Opd) : List El := os.map .one
def gZip2 : List D → Option (List D)
  | [d, e] => (itD d).bind fun ds => (itD e).map fun es => zip2D ds es
  | _ => none
def gZip3 : List D → Option (List D)
  | [d, e, f] => (itD d).bind fun ds => (itD e).bind fun es => (itD f).map fun fs => zip3D ds es fs
  | _ => none
def gEnum : List D → Option (List D)
  | [d] => (itD d).map fun ds => enumD 0 ds
  | _ => none
def mItG (g : List D → Option (List D)) (os : List El) (ρ : Rho) : Out (List D) := (evEls os ρ).bind fun ds ρ1 => match g ds with
  | some es => .ok es ρ1
  | none => .bad
theorem mItG_of {K : PySem.W.Frag} {B : Base} {W : WX} {σ : L2.St} {H : Hp} {R : It → Hp → Prop} {Q : List V → Hp → Prop} {g : List D → Option (List D)} {os : List El} (h : rdI K B W (mItG g os) σ H R)
    (f : ∀ (S : AS) (H : Hp) (vs : List V) (ds es : List D), DSs K S H vs ds → g ds = some es → (∀ J, ItOk K S H J es → R J H) → Q vs H) : tEls K B W os σ H Q := by
  obtain ⟨S, ρ, I, q⟩ := h
  refine tEls_of I (AfterG.imp (AfterG.bind MonoR.c q) fun ds ρ1 S1 H1 I1 e1 q1 vs hv => ?_)
  cases hg : g ds with
  | none => rw [hg] at q1; exact q1.elim
  | some es => rw [hg] at q1; exact f S1 H1 vs ds es hv hg (q1 S1 H1 I1 I1.refl)
section
variable {X : Cx} {B : Base} {W : WX} {e e2 e3 : Expr} {os : List El} {p pos tpos : Pos} {elts : List Expr} {kk : Nat}
theorem xi_enum (hg : Gl X "enumerate") (hm : X.mg "enumerate" = none) (ha : XEls X B W [e] os) (hs : starEach [e] X.env = [(false, eval e X.env)] := by rfl) : XI X B W (.Tuple elts kk tpos) (.Call (.Name "enumerate" p) [e] [] pos) (mItG gEnum os) := by
  refine ⟨(pi_e hg hm ha.pa hs).imp fun σ H R h => mItG_of h fun S H vs ds es hd he q => ?_⟩
  unfold gEnum at he
  split at he
  · rename_i d
    cases h1 : itD d with
    | none => rw [h1] at he; cases he
    | some xs =>
      rw [h1] at he
      cases he
      cases hd with
      | cons d1 r =>
        cases r
        obtain ⟨a, k, rfl, sr⟩ := itD_src h1 d1
        obtain ⟨ys, hq, _⟩ := sr.sq
        exact ⟨a, k, ys, rfl, hq, q _ (itOk_e sr)⟩
  · cases he
theorem xi_zip2 (hg : Gl X "zip") (hm : X.mg "zip" = none) (ha : XEls X B W [e, e2] os) (hs : starEach [e, e2] X.env = (false, eval e X.env) :: starEach [e2] X.env := by rfl) (hpl : (backTo pos (starEach [e2] X.env)).any (·.1) = false := by rfl) :
    XI X B W (.Tuple elts kk tpos) (.Call (.Name "zip" p) [e, e2] [] pos) (mItG gZip2 os) := by
  refine ⟨(pi_z2 hg hm ha.pa hs hpl).imp fun σ H R h => mItG_of h fun S H vs ds es hd he q => ?_⟩
  match ds, he, hd with
  | [], he, _ => cases he
  | [_], he, _ => cases he
  | _ :: _ :: _ :: _, he, _ => cases he
  | [d, d'], he, .cons d1 (.cons d2 .nil) =>
    simp only [gZip2] at he
    cases h1 : itD d with
    | none => rw [h1] at he; cases he
    | some xs =>
      cases h2 : itD d' with
      | none => rw [h1, h2] at he; cases he
      | some ys =>
        rw [h1, h2] at he
        cases he
        obtain ⟨a, k, rfl, sr⟩ := itD_src h1 d1
        obtain ⟨b, k', rfl, sr'⟩ := itD_src h2 d2
        obtain ⟨zs, hq, _⟩ := sr.sq
        obtain ⟨zs', hq', _⟩ := sr'.sq
        exact ⟨a, b, k, k', zs, zs', rfl, hq, hq', q _ (itOk_z2 sr sr')⟩
theorem xi_zip3 (hg : Gl X "zip") (hm : X.mg "zip" = none) (ha : XEls X B W [e, e2, e3] os) (hs : starEach [e, e2, e3] X.env = (false, eval e X.env) :: starEach [e2, e3] X.env := by rfl) (hpl : (backTo pos (starEach [e2, e3] X.env)).any (·.1) = false := by rfl) :
    XI X B W (.Tuple elts kk tpos) (.Call (.Name "zip" p) [e, e2, e3] [] pos) (mItG gZip3 os) := by
  refine ⟨(pi_z3 hg hm ha.pa hs hpl).imp fun σ H R h => mItG_of h fun S H vs ds es hd he q => ?_⟩
  match ds, he, hd with
  | [], he, _ => cases he
  | [_], he, _ => cases he
  | [_, _], he, _ => cases he
  | _ :: _ :: _ :: _ :: _, he, _ => cases he
  | [d, d', d''], he, .cons d1 (.cons d2 (.cons d3 .nil)) =>
    simp only [gZip3] at he
    cases h1 : itD d with
    | none => rw [h1] at he; cases he
    | some xs =>
      cases h2 : itD d' with
      | none => rw [h1, h2] at he; cases he
      | some ys =>
        cases h3 : itD d'' with
        | none => rw [h1, h2, h3] at he; cases he
        | some zs =>
          rw [h1, h2, h3] at he
          cases he
          obtain ⟨a, k, rfl, sr⟩ := itD_src h1 d1
          obtain ⟨b, k', rfl, sr'⟩ := itD_src h2 d2
          obtain ⟨c, k'', rfl, sr''⟩ := itD_src h3 d3
          obtain ⟨l1, hq, _⟩ := sr.sq
          obtain ⟨l2, hq', _⟩ := sr'.sq
          obtain ⟨l3, hq'', _⟩ := sr''.sq
          exact ⟨a, b, c, k, k', k'', l1, l2, l3, rfl, hq, hq', hq'', q _ (itOk_z3 sr sr' sr'')⟩
end
end DL
set_option Elab.async false
set_option linter.all false
set_option maxRecDepth 100000
set_option maxHeartbeats 1000000
/-! list(reversed(a list)) -/
namespace DL
open PySem PySem.Spec PyProof.Rows L2 RT
section
variable {prog : Program} {w : World} {A : Around} {s : Shared} {R : Result → Shared → Prop} {it l S : Addr} {items : Array Value}
/-- such an iterator's items into an empty list -/
theorem ext_revL (hh : A.handled = none) (hit : s.heap.IsRevIter it l ((items.size : Int) - 1)) (hl : s.heap.IsList l items) (hli : l ≠ it) (hSi : S ≠ it) (hSl : S ≠ l) (hn : items.size ≤ sizeLine) (res : Value) {c₀ : Nat} (hS : s.heap.get? S = some { cls := .type "list", data := .seq #[] c₀ })
    (hR : ∀ s' acc c', Moved [S, it] (fun a b => b = a) s s' → s'.heap.get? S = some { cls := .type "list", dict := none, data := .seq acc c', slots := #[] } → ItemsOf (fun i v => items[items.size - 1 - i]? = some v) acc items.size → R (.ok (.ret res)) s') :
    wpAny (model prog w) A.in1 (Builtin.List.listExtendWith (.ref S) (.ref it) res) (fun fin s' => match fin with | .done f => R (.ok f) s' | .again c' => c'.quiet = true ∧ codeAny (model prog w) A c' R s') (fun e s' => R (.error e) s') s := by
  have Wk := (Walks.listRev (prog := prog) (w := w) (A := A.in1) hh it l hli items).toS
  have nf : S ∉ [it, l] := by simp only [List.mem_cons, List.not_mem_nil, or_false, not_or]; exact ⟨hSi, hSl⟩
  have ty : s.TypeIs (.ref it) "list_reverseiterator" := hit.typeIs
  have ns : Builtin.List.listSameRef (.ref S) (.ref it) = false := by simp [Builtin.List.listSameRef, hSi]
  unfold Builtin.List.listExtendWith
  refine wpAny_bind (wpAny_typeOf ty ?_)
  rw [if_neg (by rw [ns]; decide)]
  refine wpAny_bind (wpAny_pyIter_revIter hit (wpAny_bind (wpAny_holding ?_)))
  unfold Builtin.List.listLengthHint
  refine wpAny_bind (wpAny_specialOf ty nolen_lri ?_)
  show wpAny _ A.in1 (specialOf (Value.ref it) (Str.ofString "__length_hint__") >>= _) _ _ _
  refine wpAny_bind (wpAny_specialOf ty hint_lri ?_)
  generalize hid : ("list_reverseiterator.__length_hint__" : String) = id0
  wp_delta
  rw [show splitId id0 = some ("list_reverseiterator", "__length_hint__") from by subst hid; decide +kernel]
  subst hid
  refine wpAny_bind (wpAny_isInstance (b := true) ty (by rw [isSubtype_type]; kernel_rfl) (wpAny_pure ?_))
  rw [if_neg (by decide)]
  have e0 : ((items.size : Nat) : Int) - 1 - ((0 : Nat) : Int) = (items.size : Int) - 1 := by omega
  exact wpAny_pure ⟨plainId_quiet F.plain_extend_loop _, codeAny_extend_loopS Wk hn _ nf _ items.size 0 _ _ _ rfl (Nat.zero_le _) ⟨Nat.zero_le _, by rw [e0]; exact hit, hl⟩ hS (ItemsOf.nil _) fun s' acc' c' hm hS' hacc => hR s' acc' c' hm hS' hacc⟩
theorem init_revL (hh : A.handled = none) (hit : s.heap.IsRevIter it l ((items.size : Int) - 1)) (hl : s.heap.IsList l items) (hli : l ≠ it) (hSi : S ≠ it) (hSl : S ≠ l) (hn : items.size ≤ sizeLine) (hS : s.heap.get? S = some { cls := .type "list", data := .seq #[] })
    (hR : ∀ s' acc c', Moved [S, it] (fun a b => b = a) s s' → s'.heap.get? S = some { cls := .type "list", dict := none, data := .seq acc c', slots := #[] } → ItemsOf (fun i v => items[items.size - 1 - i]? = some v) acc items.size → R (.ok (.ret .none)) s') :
    wpAny (model prog w) A.in1 (Builtin.«list.__init__» ⟨[.ref S, .ref it], []⟩) (fun fin s' => match fin with | .done f => R (.ok f) s' | .again c' => c'.quiet = true ∧ codeAny (model prog w) A c' R s') (fun e s' => R (.error e) s') s := by
  show wpAny _ A.in1 (Builtin.List.listItems (.ref S) >>= _) _ _ s
  refine wpAny_bind ?_
  unfold Builtin.List.listItems
  refine wpAny_bind (wpAny_seqItems hS rfl (wpAny_pure ?_))
  show wpAny _ A.in1 (updateSeq S (fun _ => #[]) >>= _) _ _ s
  refine wpAny_bind (wpAny_updateSeq hS rfl ?_)
  have hS2 := Heap.get?_update_self (Obj.mapSeq (fun _ => (#[] : Array Value))) hS rfl
  have oth : ∀ b o, b ≠ S → s.heap.get? b = some o → (s.heap.update S (Obj.mapSeq (fun _ => (#[] : Array Value)))).get? b = some o := fun b o hb e => (Heap.get?_update_other _ _ (Ne.symm hb)).trans e
  refine wpAny_bind (wpAny_letGo ?_)
  refine ext_revL (s := { s with heap := s.heap.update S (Obj.mapSeq (fun _ => (#[] : Array Value))) }) hh (hit.at fun o e => oth it o (Ne.symm hSi) e) (hl.at fun o e => oth l o (Ne.symm hSl) e) hli hSi hSl hn .none hS2 fun s' acc c' hm h1 h2 => ?_
  exact hR s' acc c' ⟨fun b o hb e => hm.heap b o hb (oth b o (fun q => hb (by rw [q]; exact List.mem_cons_self)) e), hm.gens, hm.drawn, hm.os, hm.toks⟩ h1 h2
theorem call_list_revL {E : Value → Shared → Prop} {Q : Value → Shared → Prop} (hh : A.handled = none) (hit : s.heap.IsRevIter it l ((items.size : Int) - 1)) (hl : s.heap.IsList l items) (hli : l ≠ it) (hn : items.size ≤ sizeLine)
    (hQ : ∀ s' acc c', Moved [s.heap.objs.size, it] (fun a b => b = a) { s with heap := s.heap.push { cls := .type "list", data := .seq #[] } } s' → s'.heap.get? s.heap.objs.size = some { cls := .type "list", dict := none, data := .seq acc c', slots := #[] } →
      ItemsOf (fun i v => items[items.size - 1 - i]? = some v) acc items.size → Q (.ref s.heap.objs.size) s') : wpAny (model prog w) A (call (.type "list") [.ref it]) Q E s := by
  refine callType_codes (Q₁ := fun obj s₁ => obj = .ref s.heap.objs.size ∧ s₁ = { s with heap := s.heap.push { cls := .type "list", data := .seq #[] } }) F.called_list (F.typeCall_list_1 _) F.entry_list_init (code_list_new _ ⟨rfl, rfl⟩) fun obj s₁ h₁ => ?_
  obtain ⟨rfl, rfl⟩ := h₁
  have hS : (s.heap.push { cls := .type "list", data := .seq #[] }).get? s.heap.objs.size = some { cls := .type "list", data := .seq #[] } := Heap.get?_push_size _ rfl
  have n1 : s.heap.objs.size ≠ it := by obtain ⟨_, e, _⟩ := id hit; exact Nat.ne_of_gt (Heap.lt_size e)
  have n2 : s.heap.objs.size ≠ l := by obtain ⟨_, e, _⟩ := id hl; exact Nat.ne_of_gt (Heap.lt_size e)
  refine ⟨⟨_, hS, rfl⟩, F.args_list_init_2 _ _, init_revL (A := A.in1) (s := { s with heap := s.heap.push { cls := .type "list", data := .seq #[] } }) hh (hit.at fun o e => Heap.get?_push_of_some _ e) (hl.push _) hli n1 n2 hn hS fun s' acc c' hm h1 h2 => ⟨rfl, hQ s' acc c' hm h1 h2⟩⟩
end
/-- list(reversed(x)), x a list: a new list -/
def tListRev (K : PySem.W.Frag) (te : TE) : TE := fun σ H Q => te σ H fun v H1 => ∃ (a : Addr) (xs : List V), v = .ref a ∧ SqL K H1 a xs ∧ ∀ q, H1 q = none → Q (.ref q) (upd H1 q (.lst xs.reverse))
theorem pe_listRev {X : Cx} {e : Expr} {te : TE} {p p2 pos pos2 : Pos} (hc : X.calm = true) (hg : Gl X "list") (hm : X.mg "list" = none) (hg2 : Gl X "reversed") (hm2 : X.mg "reversed" = none) (he : PE X e te)
    (hs : starEach [e] X.env = (false, eval e X.env) :: starEach [] X.env := by rfl)
    (hs2 : starEach [.Call (.Name "reversed" p2) [e] [] pos2] X.env = (false, eval (.Call (.Name "reversed" p2) [e] [] pos2) X.env) :: starEach [] X.env := by rfl) :
    PE X (.Call (.Name "list" p) [.Call (.Name "reversed" p2) [e] [] pos2] [] pos) (tListRev X.K te) := by
  refine ⟨fun pins s σ H Q I h => Call_ (ld_blt I hg hm boot_list (PyProof.Rows.callWith_type1 (args_cons (Call_ (ld_blt I hg2 hm2 PyProof.Rows.boot_reversed (PyProof.Rows.callWith_type1 (args_cons (thn (he.run pins s σ H _ I h) fun u s1 ⟨v, H1, I1, r1, q1⟩ => args_nil ?_) hs) hs rfl))) hs2) hs2 rfl))⟩
  obtain ⟨a, xs, ev, hq, q⟩ := q1
  subst ev
  obtain rfl : u = Value.ref a := r1
  obtain ⟨its, rv, p', hz⟩ := I1.list hq
  refine call_reversed_list p'.isList (args_nil ?_)
  have I2 : Inv X pins σ H1 { s1 with heap := s1.heap.push (revObj a ((its.toArray.size : Int) - 1)) } := I1.kept (t' := s1.toks) fun b o e => Heap.get?_push_of_some _ e
  have fp := I1.fpOk (H' := H1) (b := s1.heap.objs.size) (Nat.le_refl _) (I1.hok.fresh (Nat.le_refl _))
  obtain ⟨ol, hol, _⟩ := id p'.isList
  have hn : its.toArray.size ≤ sizeLine := by rw [List.size_toArray, ← rv.length]; exact hz
  refine call_list_revL (s := { s1 with heap := s1.heap.push (revObj a ((its.toArray.size : Int) - 1)) }) (I1.ok.hd hc) ⟨_, Heap.get?_push_size _ rfl, rfl, rfl⟩ (p'.isList.push _) (Nat.ne_of_lt (Heap.lt_size hol)) hn fun s' acc c' hm h1 h2 => ?_
  -- the new list's place
  generalize hD : (s1.heap.push (revObj a ((its.toArray.size : Int) - 1))).objs.size = D at h1 hm ⊢
  have sD : s1.heap.objs.size + 1 = D := by rw [← hD, Heap.size_push]
  have hle : (s1.heap.push (revObj a ((its.toArray.size : Int) - 1))).objs.size ≤ D := Nat.le_of_eq hD
  have hfree : H1 D = none := I1.hok.fresh (by rw [← sD]; exact Nat.le_succ _)
  have kp : ∀ b o, b ∉ [s1.heap.objs.size] → (s1.heap.push (revObj a ((its.toArray.size : Int) - 1))).get? b = some o → s'.heap.get? b = some o := fun b o hb e => by
    refine hm.heap b o (fun z => ?_) (Heap.get?_push_of_some _ e)
    rcases List.mem_cons.mp z with z | z
    · exact absurd (Heap.lt_size e) (by rw [z, hD]; exact Nat.lt_irrefl _)
    · exact hb z
  have new : ObjOk X.prog X.w (upd H1 D (.lst xs.reverse)) s'.heap D (.lst xs.reverse) := ⟨by rw [List.length_reverse]; exact hz, acc.toList, c', vals_rev rv h2, by rw [Array.toArray_toList]; exact h1⟩
  have I3 : Inv X pins σ (upd H1 D (.lst xs.reverse)) { s1 with heap := s'.heap, toks := s'.toks } := I2.turnedNew (t' := s'.toks) (ch := [s1.heap.objs.size]) kp (fun b hb => by rw [List.mem_singleton.mp hb]; exact fp) hle new
  have es0 := Moved.eq_with hm
  have es : s' = { s1 with heap := s'.heap, toks := s'.toks } := es0
  rw [es]
  exact ⟨.ref D, _, I3, rfl, q D hfree⟩
def gRev : D → Option Rv
  | .list ds => some (.own (.ls ds.reverse))
  | _ => none
theorem xe_listRev {X : Cx} {B : Base} {W : WX} {e : Expr} {o : Opd} {p p2 pos pos2 : Pos} (hc : X.calm = true) (hg : Gl X "list") (hm : X.mg "list" = none) (hg2 : Gl X "reversed") (hm2 : X.mg "reversed" = none) (he : XO X B W e o)
    (hs : starEach [e] X.env = (false, eval e X.env) :: starEach [] X.env := by rfl)
    (hs2 : starEach [.Call (.Name "reversed" p2) [e] [] pos2] X.env = (false, eval (.Call (.Name "reversed" p2) [e] [] pos2) X.env) :: starEach [] X.env := by rfl) :
    XE X B W (.Call (.Name "list" p) [.Call (.Name "reversed" p2) [e] [] pos2] [] pos) (mUn gRev o) := by
  refine ⟨(pe_listRev hc hg hm hg2 hm2 he.pe hs hs2).imp (pull1 (r := fun v H1 Q => ∃ (a : Addr) (xs : List V), v = .ref a ∧ SqL X.K H1 a xs ∧ ∀ q, H1 q = none → Q (.ref q) (upd H1 q (.lst xs.reverse))) ?_)⟩
  intro B W σ S H ρ x d rv Q I hx hf q
  cases d <;> cases hf
  obtain ⟨a, xs, rfl, h1, h2⟩ := hx.list
  exact ⟨a, xs, rfl, .of h1, fun p hp => RetR.own_new I q hp (h2.reverse.ext (Ext.laid I.gd hp))⟩
end DL
set_option Elab.async false
set_option linter.all false
set_option maxRecDepth 100000
set_option maxHeartbeats 1000000
namespace DL
open PySem PySem.Spec PyProof.Rows L2 RT

/-! ### comb -/
def gComb : D → D → Option Rv
  | .int i, .int j => if (nonN i && nonN j && leN i 18000) = true then some (.val (.int (PySem.W.mcComb i j))) else none
  | _, _ => none
theorem cComb_ok {i j : Int} (h : (nonN i && nonN j && leN i 18000) = true) : 0 ≤ i ∧ 0 ≤ j ∧ i ≤ 18000 := by
  obtain ⟨h1, h3⟩ := ba2 h
  obtain ⟨h1, h2⟩ := ba2 h1
  rw [nonN_iff] at h1 h2
  rw [leN_iff] at h3
  exact ⟨h1, h2, by omega⟩
abbrev rComb : List V → Hp → VK → Prop := fun xs H Q => ∃ i j, xs = [.int i, .int j] ∧ (0 ≤ i ∧ 0 ≤ j ∧ i ≤ 18000) ∧ Q (.int (PySem.W.mcComb i j)) H
theorem cr_comb {X : Cx} : CallR X (.builtin "math.comb") rComb := by
  intro pins s σ H vs us Q I r h
  obtain ⟨i, j, rfl, ⟨h1, h2, h3⟩, q⟩ := h
  obtain ⟨t, u, rfl⟩ := Vals.int2 r
  exact PySem.W.mc_comb h1 h2 (by omega) (.inr h3) fun _ => ⟨.int _, H, I.tok _, ⟨_, rfl⟩, q⟩
theorem cs_comb {K : PySem.W.Frag} : CSpec K rComb (c2 gComb) := by
  intro B W σ S H ρ xs ds rv Q I hx hf q
  replace hf := c2_some hf
  obtain ⟨d, e, rfl, hf⟩ := hf
  replace hx := hx.two
  obtain ⟨x, y, rfl, hx, hy⟩ := hx
  unfold gComb at hf
  split at hf
  · split at hf
    · rename_i hc; cases hf; exact ⟨_, _, by rw [hx.int, hy.int], cComb_ok hc, RetR.here I q (.int _)⟩
    · cases hf
  · cases hf

/-! ### sum of a list or tuple of ints -/
def gSumA : D → Option Rv
  | .list ds => (intsD ds).map fun ns => .val (.int ns.sum)
  | .tuple ds => (intsD ds).map fun ns => .val (.int ns.sum)
  | _ => none
abbrev rSumA (K : PySem.W.Frag) : List V → Hp → VK → Prop := fun vs H Q => ∃ (a : Addr) (k : Bool) (ns : List Int), vs = [V.ref a] ∧ SqK K H k a (ns.map V.int) ∧ Q (.int ns.sum) H
theorem preSum_list : ∀ (ns : List Int) (j : Nat), preSum (fun i => ns.getD i 0) j = (ns.take j).sum
  | ns, 0 => by simp [preSum]
  | ns, j + 1 => by
    rw [preSum, preSum_list ns j]
    by_cases h : j < ns.length
    · rw [List.take_succ_eq_append_getElem h, List.sum_append, List.sum_singleton, List.getD_eq_getElem?_getD, List.getElem?_eq_getElem h]; rfl
    · rw [List.take_of_length_le (by omega), List.take_of_length_le (by omega), List.getD_eq_getElem?_getD, List.getElem?_eq_none (by omega)]; simp
theorem cr_sumA {X : Cx} (hc : X.calm = true) : CallR X (.builtin "sum") (rSumA X.K) := by
  intro pins s σ H vs us Q I r h
  obtain ⟨a, k, ns, rfl, hs, q⟩ := h
  obtain ⟨its, rv, p⟩ := sqK_heap I hs
  rw [Vals.ref1 r]
  have ni := rv.ints
  obtain ⟨o0, g0⟩ := p.at_
  have hlt : a < s.heap.objs.size := Heap.lt_size g0
  refine call_sum_walkG ((beginsK k a its.toArray).iter _ _ _ _ s _ p ?_)
  have hne : a ≠ s.heap.objs.size := Nat.ne_of_lt hlt
  have pn : IsK k (s.heap.push (objK k a)) a its.toArray := (beginsK k a its.toArray).keeps _ _ p fun b o e => Heap.get?_push_of_some _ e
  have itn : IsItK k (s.heap.push (objK k a)) s.heap.objs.size a 0 := itK_of (Heap.get?_push_size _ (beginsK k a its.toArray).free)
  have hin : ∀ (i : Nat) (v : Value), its.toArray[i]? = some v → ∃ t, v = Value.int (ns.getD i 0) t := fun i v e => by
    obtain ⟨n, t, h1, h2⟩ := ni.at i v (by simpa using e)
    exact ⟨t, by rw [h1, List.getD_eq_getElem?_getD, h2]; rfl⟩
  have done : ∀ (h' : Heap) (tk t' : Nat), (∀ b o, b ∉ [s.heap.objs.size] → (s.heap.push (objK k a)).get? b = some o → h'.get? b = some o) → EP X pins σ Q (Value.int (preSum (fun i => ns.getD i 0) its.toArray.size) t') { s with heap := h', toks := tk } := fun h' tk t' kp => by
    refine ⟨.int ns.sum, H, I.kept fun b o e => kp b o (fun z => ?_) (Heap.get?_push_of_some _ e), ⟨t', ?_⟩, q⟩
    · rw [List.mem_singleton.mp z] at e
      exact absurd (Heap.lt_size e) (Nat.lt_irrefl _)
    · have hl := ni.length
      rw [preSum_list, List.size_toArray, hl, List.take_length]
  have hfp : ∀ b ∈ [s.heap.objs.size, a], b < (s.heap.push (objK k a)).objs.size := fun b hb => by
    rw [Heap.size_push]
    rcases List.mem_cons.mp hb with rfl | hb
    · exact Nat.lt_succ_self _
    · rw [List.mem_singleton.mp hb]; exact Nat.lt_succ_of_lt hlt
  cases k with
  | true => exact ⟨_, _, _, _, _, _, fun i => ns.getD i 0, rfl, Walks.tuple (A := X.A.in1) (I.ok.hd hc) _ a hne its.toArray, ⟨itn, pn⟩, hfp, hin, done⟩
  | false => exact ⟨_, _, _, _, _, _, fun i => ns.getD i 0, rfl, Walks.list (A := X.A.in1) (I.ok.hd hc) _ a hne its.toArray, ⟨itn, pn⟩, hfp, hin, done⟩
theorem cs_sumA {K : PySem.W.Frag} : CSpec K (rSumA K) (c1 gSumA) := by
  intro B W σ S H ρ xs ds rv Q I hx hf q
  replace hf := c1_some hf
  obtain ⟨d, rfl, hf⟩ := hf
  replace hx := hx.one
  obtain ⟨x, rfl, hx⟩ := hx
  unfold gSumA at hf
  split at hf
  · rename_i es
    cases hn : intsD es with
    | none => rw [hn] at hf; cases hf
    | some ns =>
      rw [hn] at hf
      cases hf
      obtain ⟨a, ys, rfl, h1, h2⟩ := hx.list
      rw [intsD_map hn] at h2
      rw [h2.ints] at h1
      exact ⟨a, false, ns, rfl, SqL.of h1, RetR.here I q (.int _)⟩
  · rename_i es
    cases hn : intsD es with
    | none => rw [hn] at hf; cases hf
    | some ns =>
      rw [hn] at hf
      cases hf
      obtain ⟨a, ys, rfl, h1, h2⟩ := hx.tuple
      rw [intsD_map hn] at h2
      rw [h2.ints] at h1
      exact ⟨a, true, ns, rfl, h1, RetR.here I q (.int _)⟩
  · cases hf

/-! ### sorted -/
def isTupN : D → Bool
  | .tuple (_ :: _) => true
  | _ => false
def isPl : D → Bool
  | .none => false
  | .tuple _ => false
  | _ => true
def sortOk (ds : List D) : Bool := (ds.all fun d => ds.all fun e => PySem.W.alike d e) && (ds.all isTupN || ds.all isPl) && flatDs ds && decide (PyData.depthAll ds ≤ 60) && decide (ds.length ≤ sizeLine)
def srtD (ds : List D) : List D := ds.mergeSort (PySem.W.dataLe false id)
def gSorted : D → Option Rv
  | .list ds => if sortOk ds then some (.own (.ls (srtD ds))) else none
  | .tuple ds => none
  | _ => none
theorem depth_le {ds : List D} {d : D} : d ∈ ds → d.depth ≤ PyData.depthAll ds := by
  induction ds with
  | nil => intro h; cases h
  | cons e es ih =>
    intro h
    rw [PyData.depthAll]
    rcases List.mem_cons.mp h with rfl | h
    · exact Nat.le_max_left _ _
    · exact Nat.le_trans (ih h) (Nat.le_max_right _ _)
theorem alike_of (ds : List D) (h : (ds.all fun d => ds.all fun e => PySem.W.alike d e) = true) : PySem.W.AllAlike ds := fun d hd e he => by
  have z := List.all_eq_true.mp h d hd
  exact List.all_eq_true.mp z e he
theorem sortable_of (ds : List D) (h : (ds.all isTupN || ds.all isPl) = true) : PySem.W.Sortable ds := by
  rw [Bool.or_eq_true] at h
  rcases h with h | h
  · refine .inl fun d hd => ?_
    have z := List.all_eq_true.mp h d hd
    cases d <;> try (cases z; done)
    rename_i l
    cases l with
    | nil => cases z
    | cons x r => exact ⟨x, r, rfl⟩
  · refine .inr fun d hd => ?_
    have z := List.all_eq_true.mp h d hd
    cases d <;> first
      | (cases z; done)
      | exact ⟨fun q => (by cases q), fun _ q => (by cases q)⟩
/-- a value and its data, through the heap's objects -/
def VD (K : PySem.W.Frag) (S : AS) (H : Hp) (v : Value) (d : D) : Prop := ∃ x, RelV x v ∧ DS K S H x d
theorem vd_each {K : PySem.W.Frag} {S : AS} {H : Hp} : ∀ {xs : List V} {us : List Value} {ds : List D}, Vals xs us → DSs K S H xs ds → PySem.W.EachIs (VD K S H) us ds
  | [], _, _, r, h => by cases r; cases h; exact .nil
  | x :: xs, _, _, r, h => by
    cases r with | cons r rr => cases h with | cons h1 h2 => exact .cons ⟨x, r, h1⟩ (vd_each rr h2)
theorem each_vd {K : PySem.W.Frag} {S : AS} {H : Hp} : ∀ {us : List Value} {ds : List D}, PySem.W.EachIs (VD K S H) us ds → ∃ xs, Vals xs us ∧ DSs K S H xs ds
  | _, _, .nil => ⟨[], .nil, .nil⟩
  | _, _, .cons ⟨x, h1, h2⟩ t => by
    obtain ⟨xs, q1, q2⟩ := each_vd t
    exact ⟨x :: xs, .cons h1 q1, .cons h2 q2⟩
abbrev rSortD (K : PySem.W.Frag) : List V → Hp → VK → Prop := fun vs H Q => ∃ (a : Addr) (S : AS) (xs : List V) (ds : List D), vs = [V.ref a] ∧ SqL K H a xs ∧ DSs K S H xs ds ∧ sortOk ds = true ∧ ∀ p ys, H p = none → DSs K S H ys (srtD ds) → Q (.ref p) (upd H p (.lst ys))
theorem cr_sortD {X : Cx} (hu : X.A.units + 64 < cLine) : CallR X (.builtin "sorted") (rSortD X.K) := by
  intro pins s σ H vs us Q I r h
  obtain ⟨a, S, xs, ds, rfl, hs, hd, ok, q⟩ := h
  unfold sortOk at ok
  simp only [Bool.and_eq_true] at ok
  obtain ⟨⟨⟨⟨o1, o2⟩, o3⟩, o4⟩, o5⟩ := ok
  obtain ⟨its, rv, hl, hz⟩ := I.list hs
  rw [Vals.ref1 r]
  have flat : ∀ (ds : List D), flatDs ds = true → ∀ d ∈ ds, flatD d = true := by
    intro ds
    induction ds with
    | nil => intro _ d hd; cases hd
    | cons e es ih =>
      intro h d hd
      simp only [flatDs, Bool.and_eq_true] at h
      rcases List.mem_cons.mp hd with rfl | hd
      · exact h.1
      · exact ih h.2 d hd
  have each := vd_each rv hd
  have reads : ∀ (us : List Value) (es : List D), (∀ e ∈ es, e ∈ ds) → PySem.W.EachIs (VD X.K S H) us es → PySem.W.EachIs (fun v b => ∃ as, Reads s.heap v (id b) as) us es := by
    intro us es sub he
    induction he with
    | nil => exact .nil
    | cons h t ih =>
      obtain ⟨x, h1, h2⟩ := h
      exact .cons (Dp.reads I _ x _ (h2.dp _ _ (flat ds o3 _ (sub _ List.mem_cons_self))) h1) (ih fun e z => sub e (List.mem_cons_of_mem _ z))
  refine PySem.W.sorted_data (R := VD X.K S H) (enc := id) hl.isList each (reads _ _ (fun _ z => z) each) (by rw [List.map_id]; exact alike_of ds o1) (by rw [List.map_id]; exact sortable_of ds o2) (of_decide_eq_true o5) (fun b hb => ?_) fun out hlen hout => ?_
  · have := depth_le hb
    have := of_decide_eq_true o4
    show X.A.units + 2 + b.depth < cLine
    omega
  · obtain ⟨ys, q1, q2⟩ := each_vd hout
    obtain ⟨ep, he'⟩ := PyProof.Rows.sortedAll_at s.heap its out.toArray
    have hy : ys.length ≤ sizeLine := by rw [q1.length, hlen]; exact of_decide_eq_true o5
    exact ⟨.ref _, upd H (s.heap.objs.size + 1) (.lst ys), I.laid (t' := s.toks) (fun _ _ => PyProof.Rows.sortedAll_old) (Nat.le_succ _) ⟨hy, out, ep, q1, he'⟩, rfl, q _ ys (I.hok.fresh (Nat.le_succ _)) q2⟩
theorem cs_sorted {K : PySem.W.Frag} : CSpec K (rSortD K) (c1 gSorted) := by
  intro B W σ S H ρ xs ds rv Q I hx hf q
  replace hf := c1_some hf
  obtain ⟨d, rfl, hf⟩ := hf
  replace hx := hx.one
  obtain ⟨x, rfl, hx⟩ := hx
  cases d <;> first
    | (cases hf; done)
    | skip
  rename_i es
  change (if sortOk es = true then some (Rv.own (.ls (srtD es))) else none) = some rv at hf
  by_cases ho : sortOk es = true
  · rw [if_pos ho] at hf
    cases hf
    obtain ⟨a, ys, rfl, h1, h2⟩ := hx.list
    exact ⟨a, S, ys, es, rfl, .of h1, h2, ho, fun p zs hp hz => RetR.own_new I q hp (hz.ext (Ext.laid I.gd hp))⟩
  · rw [if_neg ho] at hf; cases hf

/-! ### x or y, by truth -/
def mOrO (a : Opd) (b : M) (ρ : Rho) : Out Rv := (a.esc ρ).bind fun r ρ1 => match truD r.dat with
  | some true => .ok (.val r.dat) ρ1
  | some false => b ρ1
  | none => .bad
theorem truD_V {K : PySem.W.Frag} {S : AS} {H : Hp} {v : V} {d : D} {b : Bool} (hd : DS K S H v d) (h : truD d = some b) : TruV K v H b := by
  cases d with
  | none => cases h; cases hd; rfl
  | bool c => cases h; cases hd; rfl
  | int i => cases h; cases hd; rfl
  | str z =>
    cases hd
    unfold truD at h
    dsimp only at h
    by_cases hz : z.length ≤ sizeLine
    · rw [if_pos hz] at h; cases h; exact ⟨hz, rfl⟩
    · rw [if_neg hz] at h; cases h
  | list ds => cases h; cases hd with | lst h1 h2 h3 => exact .inl ⟨_, .of h2, by rw [h3.empty]⟩
  | tuple ds => cases h; cases hd with | tup h1 h2 => exact .inr (.inl ⟨_, h1, by rw [h2.empty]⟩)
  | dict _ => cases h
theorem xe_orT {X : Cx} {B : Base} {W : WX} {a b : Expr} {rest : List Expr} {pos : Pos} {o : Opd} {mb : M} (h : XO X B W a o) (g : XE X B W (.BoolOp .Or (b :: rest) pos) mb) : XE X B W (.BoolOp .Or (a :: b :: rest) pos) (mOrO o mb) := by
  refine ⟨(pe_orT h.xe.pe g.pe).imp fun σ H Q ⟨S, ρ, I, q⟩ => ⟨S, ρ, I, AfterG.ofV (AfterG.imp (AfterG.bind MonoR.ret q) fun r ρ1 S1 H1 I1 e1 q1 v hv => ?_)⟩⟩
  cases ht : truD r.dat with
  | none => rw [ht] at q1; exact q1.elim
  | some k =>
    rw [ht] at q1
    refine ⟨k, truD_V hv ht, ?_⟩
    cases k with
    | true => rw [if_pos rfl]; exact RetR.here I1 q1 hv
    | false => rw [if_neg Bool.false_ne_true]; exact ⟨S1, ρ1, I1, q1⟩
end DL
set_option Elab.async false
set_option linter.all false
set_option maxRecDepth 100000
set_option maxHeartbeats 1000000
namespace DL
open PySem PySem.Spec PyProof.Rows L2 RT

section
variable {X : Cx} {B : Base} {W : WX} {e a b c : Expr} {m : M} {i : Nat} {pos : Pos}
theorem xo_nm (h : PE X e (tVar i)) : XO X B W e (.nm i) := h
theorem xo_ex (h : XE X B W e m) : XO X B W e (.ex m) := h
/-- a name's value, handed on -/
theorem xe_nm (h : PE X e (tVar i)) : XE X B W e (mName i) := XO.xe (o := .nm i) h

/-! ### a op b op' c -/
def mChain (f g : D → D → Option Rv) (a b c : Opd) (ρ : Rho) : Out Rv := (a.ev ρ).bind fun x ρ1 => (b.ev ρ1).bind fun y ρ2 => match x.res ρ2, y.res ρ2 with
  | some d, some e => (match f d e with
    | some (.val (.bool true)) => (c.ev ρ2).bind fun z ρ3 => (match y.res ρ3, z.res ρ3 with
      | some e', some d' => (match g e' d' with
        | some r => .ok r ρ3
        | none => .bad)
      | _, _ => .bad)
    | some (.val (.bool false)) => .ok (.val (.bool false)) ρ2
    | _ => .bad)
  | _, _ => .bad
theorem chain_of {K : PySem.W.Frag} {r r' : R2} {f g : D → D → Option Rv} {oa ob oc : Opd} (hs : R2Spec K r f) (hs' : R2Spec K r' g) : ∀ σ H Q, rd K B W (mChain f g oa ob oc) σ H Q → tChain r r' (rdO K B W oa) (rdO K B W ob) (rdO K B W oc) σ H Q := fun σ H Q ⟨S, ρ, I, q⟩ => by
  refine ⟨S, ρ, I, AfterG.imp (AfterG.bind MonoR.ret q) fun x ρ1 S1 H1 I1 e1 q1 v hv => ?_⟩
  refine ⟨S1, ρ1, I1, AfterG.imp (AfterG.bind MonoR.ret q1) fun y ρ2 S3 H3 I3 e3 q3 u hu => ?_⟩
  have hv3 := hv.ext e3
  cases hx : x.res ρ2 with
  | none => rw [hx] at q3; exact q3.elim
  | some d =>
    cases hy : y.res ρ2 with
    | none => rw [hx, hy] at q3; exact q3.elim
    | some e =>
      rw [hx, hy] at q3
      dsimp only at q3
      cases hf : f d e with
      | none => rw [hf] at q3; exact q3.elim
      | some rv =>
        rw [hf] at q3
        cases rv with
        | own _ => exact q3.elim
        | val dv =>
          cases dv <;> try exact False.elim q3
          rename_i k
          refine hs B W σ S3 H3 ρ2 v u d e _ _ I3 (hv3.dq I3 hx) (hu.dq I3 hy) hf fun S4 H4 I4 e4 w hw => ?_
          cases hw
          refine ⟨k, rfl, ?_⟩
          cases k with
          | false => rw [if_neg Bool.false_ne_true]; exact q3 S4 H4 I4 e4 _ (.bl false)
          | true =>
            rw [if_pos rfl]
            have q4 := AfterG.mono MonoR.ret e4 q3
            refine ⟨S4, ρ2, I4, AfterG.imp (AfterG.bind MonoR.ret q4) fun z ρ3 S5 H5 I5 e5 q5 t ht => ?_⟩
            have hu5 := (hu.ext e4).ext e5
            cases hy' : y.res ρ3 with
            | none => rw [hy'] at q5; exact q5.elim
            | some e' =>
              cases hz : z.res ρ3 with
              | none => rw [hy', hz] at q5; exact q5.elim
              | some d' =>
                rw [hy', hz] at q5
                dsimp only at q5
                cases hg : g e' d' with
                | none => rw [hg] at q5; exact q5.elim
                | some rv' =>
                  rw [hg] at q5
                  exact hs' B W σ S5 H5 ρ3 u t e' d' rv' Q I5 (hu5.dq I5 hy') (ht.dq I5 hz) hg q5
theorem xe_chain {op op' : CmpOp} {r r' : R2} {f g : D → D → Option Rv} {oa ob oc : Opd} (ho : OpR X (compareOp op) r) (hs : R2Spec X.K r f) (ho' : OpR X (compareOp op') r') (hs' : R2Spec X.K r' g) (ha : XO X B W a oa) (hb : XO X B W b ob) (hc : XO X B W c oc)
    (hm : lastMarks [op, op'] [b, c] = false := by with_unfolding_all rfl) : XE X B W (.Compare a [op, op'] [b, c] pos) (mChain f g oa ob oc) := ⟨(pe_chain ho ho' ha.pe hb.pe hc.pe hm).imp (chain_of hs hs')⟩
theorem xt_chain {op op' : CmpOp} {r r' : R2} {f g : D → D → Option Rv} {oa ob oc : Opd} (ho : OpR X (compareOp op) r) (hs : R2Spec X.K r f) (ho' : OpR X (compareOp op') r') (hs' : R2Spec X.K r' g) (ha : XO X B W a oa) (hb : XO X B W b ob) (hc : XO X B W c oc)
    (hm : lastMarks [op, op'] [b, c] = false := by with_unfolding_all rfl) : XT X B W (.Compare a [op, op'] [b, c] pos) (mTB (mChain f g oa ob oc)) := by
  refine ⟨(pt_chain ho ho' ha.pe hb.pe hc.pe hm).imp fun σ H Q ⟨S, ρ, I, q⟩ => chain_of hs hs' σ H _ ⟨S, ρ, I, AfterG.imp (AfterG.bind MonoR.c q) fun rv ρ1 S1 H1 I1 e1 q1 => ?_⟩⟩
  cases rv with
  | own c => exact q1.elim
  | val d =>
    cases d <;> first
      | exact False.elim q1
      | (intro v hv; cases hv; exact ⟨_, rfl, q1 S1 H1 I1 I1.refl⟩)
end

/-! ### the script: a list that is read only -/
def mLenZ (i : Nat) (ρ : Rho) : Out Rv := match ρ[i]? with
  | some (.fz ns) => .ok (.val (.int ns.length)) ρ
  | _ => .bad
def mIxZ (i : Nat) (k : Opd) (ρ : Rho) : Out Rv := match ρ[i]? with
  | some (.fz _) => (k.ev ρ).bind fun h ρ1 => (match ρ1[i]?, h.res ρ1 with
    | some (.fz ns), some (.int j) => (match atI ns j with
      | some n => .ok (.val (.int n)) ρ1
      | none => .bad)
    | _, _ => .bad)
  | _ => .bad
section
variable {X : Cx} {B : Base} {W : WX} {e k : Expr} {ok : Opd} {i : Nat} {p pos : Pos}
theorem fz_at {K : PySem.W.Frag} {B : Base} {S : AS} {H : Hp} {σ : L2.St} {ρ : Rho} (I : EnvOk K B S H σ ρ) {ns : List Int} (h : ρ[i]? = some (.fz ns)) : ∃ a, σ[i]? = some (some (.ref a)) ∧ LsS K S H a (ns.map V.int) := by
  obtain ⟨v, e, z⟩ := I.at h
  obtain ⟨a, rfl, z⟩ := z
  exact ⟨a, e, z⟩
theorem xe_lenZ (he : PE X e (tVar i)) (hg : Gl X "len") (hm : X.mg "len" = none) (hv : bootBuiltins "len" = some (.builtin "len")) (hs : starEach [e] X.env = (false, eval e X.env) :: starEach [] X.env := by rfl) : XE X B W (.Call (.Name "len" p) [e] [] pos) (mLenZ i) := by
  refine ⟨(pe_callB call_len_seq hg hm hv (pa_cons he pa_nil hs) (he := hs) (hpl := rfl)).imp fun σ H Q ⟨S, ρ, I, q⟩ => ?_⟩
  unfold mLenZ at q
  cases hr : ρ[i]? with
  | none => rw [hr] at q; exact q.elim
  | some s =>
    rw [hr] at q
    cases s <;> first
      | exact False.elim q
      | skip
    rename_i ns
    obtain ⟨a, e, z⟩ := fz_at I hr
    exact ⟨.ref a, e, a, _, rfl, .inl z.sq, by rw [List.length_map]; exact RetR.here I q (.int _)⟩
theorem xe_ixZ (he : PE X e (tVar i)) (hk : XO X B W k ok) (hp : PlainIx k) : XE X B W (.Subscript e k pos) (mIxZ i ok) := by
  refine ⟨(pe_ix ix_seq he hk.pe hp).imp fun σ H Q ⟨S, ρ, I, q⟩ => ?_⟩
  unfold mIxZ at q
  cases hr : ρ[i]? with
  | none => rw [hr] at q; exact q.elim
  | some s =>
    rw [hr] at q
    cases s <;> first
      | exact False.elim q
      | skip
    obtain ⟨a, ea, _⟩ := fz_at I hr
    refine ⟨.ref a, ea, S, ρ, I, AfterG.imp (AfterG.bind MonoR.ret q) fun h ρ1 S1 H1 I1 e1 q1 v hv => ?_⟩
    cases h1 : ρ1[i]? with
    | none => rw [h1] at q1; exact q1.elim
    | some s =>
      rw [h1] at q1
      cases s <;> first
        | exact False.elim q1
        | skip
      rename_i ns
      cases h2 : h.res ρ1 with
      | none => rw [h2] at q1; exact q1.elim
      | some d =>
        rw [h2] at q1
        cases d <;> first
          | exact False.elim q1
          | skip
        rename_i j
        dsimp only at q1
        cases h3 : atI ns j with
        | none => rw [h3] at q1; exact q1.elim
        | some n =>
          rw [h3] at q1
          obtain ⟨a', ea', z⟩ := fz_at I1 h1
          rw [ea] at ea'; cases ea'
          have hx : L2.atI (ns.map V.int) j = some (.int n) := by
            unfold L2.atI at h3 ⊢
            rw [List.length_map]
            cases g : ixN ns.length j with
            | none => rw [g] at h3; cases h3
            | some t =>
              rw [g] at h3
              have h3 : ns[t]? = some n := h3
              show (ns.map V.int)[t]? = _
              rw [List.getElem?_map, h3]
              rfl
          exact .inl ⟨a, _, j, .int n, rfl, (hv.dq I1 h2).int, z.sq, hx, RetR.here I1 q1 (.int _)⟩
end

/-! ### op= -/
theorem sp_cat {K : PySem.W.Frag} : R2Spec K (fun x y H Q => ∃ i j, x = .str i ∧ y = .str j ∧ i.length + j.length ≤ sizeLine ∧ Q (.str (i ++ j)) H) fAddS := sp_addS
theorem i_add {X : Cx} : OpR X (inplaceOp .Add) (fun x y H Q => (rI0 fun i j => .int (i + j)) x y H Q ∨ ∃ i j, x = .str i ∧ y = .str j ∧ i.length + j.length ≤ sizeLine ∧ Q (.str (i ++ j)) H) := iop_add.or iop_add_str
theorem j_add {K : PySem.W.Frag} : R2Spec K (fun x y H Q => (rI0 fun i j => .int (i + j)) x y H Q ∨ ∃ i j, x = .str i ∧ y = .str j ∧ i.length + j.length ≤ sizeLine ∧ Q (.str (i ++ j)) H) (fOr fAddI fAddS) := .or sp_addI sp_cat
theorem j_div {K : PySem.W.Frag} : R2Spec K (rI CDiv fun i j => .int (i / j)) fDivP := sp_int fun i j h => ⟨cDiv_ok h, rfl⟩
theorem j_mod {K : PySem.W.Frag} : R2Spec K (rI (fun _ j => 0 < j) fun i j => .int (i % j)) fModP := sp_int fun i j h => ⟨posN_iff.mp h, rfl⟩
/-! ### a def, as the head tells of it -/
structure Dn (K : PySem.W.Frag) (mg : Str → Option Value) (x : Str) (st : Stmt) (fd : FuncData) : Prop where
  F : FunD K x x (defArgs st) (defBody st) (defScope st) [] [] (He.ga K x) fd
  g : mg x = some (.ref (He.ga K x))
/-! ### a name that is never changed in place; names forgotten -/
def mSetV (i : Nat) (m : M) (ρ : Rho) : OS := (m ρ).bindS fun r ρ1 => setSl i (.val r.dat) ρ1
theorem setV_of {K : PySem.W.Frag} {B : Base} {W : WX} {E : Ends} {σ : L2.St} {S : AS} {H : Hp} {ρ : Rho} {i : Nat} {m : M} (q : AfterS K B W S H (OwnS σ ρ) E (mSetV i m ρ)) : After K B W σ S H (OwnS σ ρ) (fun x H1 => E.nx (σ.set i (some x)) H1) (m ρ) :=
  AfterG.ofV (AfterG.imp (AfterS.bindS (σ := σ) q) fun _ _ _ _ I1 _ q1 _ hv => setSl_val I1 hv q1)
def forget1 (i : Nat) (ρ : Rho) : Rho := match ρ[i]? with
  | some t => if t.free = true then ρ.set i .un else ρ
  | none => ρ
def forget : List Nat → Rho → Rho
  | [], ρ => ρ
  | i :: is, ρ => forget is (forget1 i ρ)
def mFg (fs : List Nat) (m : MS) (ρ : Rho) : OS := match m ρ with
  | .nx ρ1 => .nx (forget fs ρ1)
  | .ct ρ1 => .ct (forget fs ρ1)
  | .bk ρ1 => .bk ρ1
  | .rt r ρ1 => .rt r ρ1
  | .exc x ρ1 => .exc x ρ1
  | .bad => .bad
section
variable {K : PySem.W.Frag} {B : Base} {W : WX} {S : AS} {H : Hp} {σ : L2.St}
theorem EnvOk.forget1 {ρ : Rho} (I : EnvOk K B S H σ ρ) (i : Nat) : EnvOk K B S H σ (DL.forget1 i ρ) ∧ ∀ a, OwnS σ (DL.forget1 i ρ) a → OwnS σ ρ a := by
  unfold DL.forget1
  cases hr : ρ[i]? with
  | none => exact ⟨I, fun _ z => z⟩
  | some t =>
    dsimp only
    by_cases hf : t.free = true
    · rw [if_pos hf]
      obtain ⟨v, e, _⟩ := I.at hr
      have z := I.setUn (i := i) (v := v) (free_at hr hf)
      rw [set_same e] at z
      refine ⟨z, fun a h => OwnS.setUn (i := i) (v := v) ?_⟩
      rw [set_same e]
      exact h
    · rw [if_neg hf]
      exact ⟨I, fun _ z => z⟩
theorem EnvOk.forget : ∀ (fs : List Nat) {ρ : Rho}, EnvOk K B S H σ ρ → EnvOk K B S H σ (DL.forget fs ρ) ∧ ∀ a, OwnS σ (DL.forget fs ρ) a → OwnS σ ρ a
  | [], _, I => ⟨I, fun _ z => z⟩
  | i :: fs, ρ, I => by
    obtain ⟨I1, o1⟩ := I.forget1 i
    obtain ⟨I2, o2⟩ := EnvOk.forget fs I1
    exact ⟨I2, fun a z => o1 a (o2 a z)⟩
theorem AfterS.fg {O : AS} {E : Ends} {fs : List Nat} {m : MS} {ρ : Rho} (q : AfterS K B W S H O E (mFg fs m ρ)) : AfterS K B W S H O E (m ρ) := by
  unfold mFg at q
  cases hm : m ρ with
  | nx ρ1 =>
    rw [hm] at q
    exact fun S' H' σ' I x => q S' H' σ' (I.forget fs).1 (x.owns fun a z => .inl ((I.forget fs).2 a z))
  | ct ρ1 =>
    rw [hm] at q
    exact fun S' H' σ' I x => q S' H' σ' (I.forget fs).1 (x.owns fun a z => .inl ((I.forget fs).2 a z))
  | bk ρ1 => rw [hm] at q; exact q
  | rt r ρ1 => rw [hm] at q; exact q
  | exc x ρ1 => rw [hm] at q; exact q
  | bad => rw [hm] at q; exact q
end
section
variable {X : Cx} {B : Base} {W : WX} {e : Expr} {m : M} {i : Nat} {x : Str} {pos pos' : Pos}
theorem xss_fg {sts : List Stmt} {ms : MS} (fs : List Nat) (h : XSs X B W sts ms) : XSs X B W sts (mFg fs ms) := ⟨h.pss.imp fun D σ H ⟨S, ρ, I, q⟩ => ⟨S, ρ, I, AfterS.fg q⟩⟩
theorem xs_fg {st : Stmt} {ms : MS} (fs : List Nat) (h : XS X B W st ms) : XS X B W st (mFg fs ms) := ⟨h.ps.imp fun D σ H ⟨S, ρ, I, q⟩ => ⟨S, ρ, I, AfterS.fg q⟩⟩
theorem xs_setV (hN : X.N.Nodup) (hi : X.N[i]? = some x) (hx : Loc X.env.scope x) (he : XE X B W e m) (hs : swapsWith e (some (.Name x pos')) pos.line X.env = pure false := by rfl) (hf : X.fn x = true ∨ X.env.scope.names.lookup x = some .local := by first | exact .inl rfl | exact .inr rfl | assumption) :
    XS X B W (.Assign [.Name x pos'] e pos) (mSetV i m) := ⟨(ps_set hN hi hx he.pe hs hf).imp fun D σ H ⟨S, ρ, I, q⟩ => ⟨S, ρ, I, setV_of q⟩⟩
end
section
variable {X : Cx} {B : Base} {W : WX} {elt tg iter : Expr} {ifs : List Expr} {scope : Scope} {own : List (Str × Nat)} {pos spos py : Pos} {mi : MI} {c : CT} {t : MT} {m : M} {i : Nat} {y : Str}
theorem xs_setLcV (hc : X.calm = true) (hN : X.N.Nodup) (hy : X.N[i]? = some y) (hyl : X.env.scope.names.lookup y = some .local) (hsw : swapsWith (.ListComp elt [⟨tg, iter, ifs, 0⟩] scope pos) (some (.Name y py)) spos.line X.env = pure true)
    (hi : XI X B W tg iter mi) (ok : BlkOk X.N X.env.scope scope own) (hv : ∀ i ∈ slotsCT c, i ∈ own.map (·.2))
    (hg : Blk X scope fun Y => PG Y tg (ctG X.K c)) (ht : Blk X scope fun Y => PTs Y ifs (rdT X.K B noW t)) (he : Blk X scope fun Y => PE Y elt (rd X.K B noW m)) (hs : ∀ x, foldedSetIterable iter X.env x = pure x := by intro _; rfl) :
    XS X B W (.Assign [.Name y py] (.ListComp elt [⟨tg, iter, ifs, 0⟩] scope pos) spos) (mSetV i (mLc (own.map (·.2)) mi c t m)) :=
  ⟨(ps_setLc hc hN hy hyl hsw hi.pi ok hg ht he hs).imp fun D σ H ⟨S, ρ, I, q⟩ => lc_of hv ⟨S, ρ, I, setV_of q⟩⟩
end
end DL
set_option Elab.async false
set_option linter.all false
set_option maxRecDepth 100000
set_option maxHeartbeats 1000000
namespace DL
open PySem PySem.Spec PyProof.Rows L2 RT
theorem cMul_r {i j : Int} (h1 : -(2 ^ 64) < j) (h2 : j < 2 ^ 64) : cMul i j = true := by unfold cMul; rw [Bool.or_eq_true]; exact .inr (leN_iff.mpr (by omega))
theorem cMul_l {i j : Int} (h1 : -(2 ^ 64) < i) (h2 : i < 2 ^ 64) : cMul i j = true := by unfold cMul; rw [Bool.or_eq_true]; exact .inl (leN_iff.mpr (by omega))
theorem fMul_int {i j : Int} (h : cMul i j = true) : fMul (.int i) (.int j) = some (.val (.int (i * j))) := by unfold fMul fOr fMulI fI; simp [h]
theorem fMulI_int {i j : Int} (h : cMul i j = true) : fMulI (.int i) (.int j) = some (.val (.int (i * j))) := by unfold fMulI fI; simp [h]
theorem cDiv_of {i j : Int} (h : 0 < j) (h2 : j < 1073741824) : cDiv i j = true := by unfold cDiv; rw [Bool.and_eq_true]; exact ⟨posN_iff.mpr h, leN_iff.mpr (by omega)⟩
theorem fDiv_int {i j : Int} (h : 0 < j) (h2 : j < 1073741824) : fOr fDivP fDivN (.int i) (.int j) = some (.val (.int (i / j))) := by unfold fOr fDivP fI; simp [cDiv_of h h2]
theorem fDivP_int {i j : Int} (h : 0 < j) (h2 : j < 1073741824) : fDivP (.int i) (.int j) = some (.val (.int (i / j))) := by unfold fDivP fI; simp [cDiv_of h h2]
theorem fMod_int {i j : Int} (h : 0 < j) : fOr fModP fModN (.int i) (.int j) = some (.val (.int (i % j))) := by unfold fOr fModP fI; simp [posN_iff.mpr h]
theorem fAdd_tup {a b : List D} (h : a.length + b.length ≤ sizeLine) : fAdd (.tuple a) (.tuple b) = some (.val (.tuple (a ++ b))) := by unfold fAdd fOr fAddI fI fAddS fAddT; simp [h]
theorem fAdd_list {a b : List D} (h : a.length + b.length ≤ sizeLine) : fAdd (.list a) (.list b) = some (.own (.ls (a ++ b))) := by unfold fAdd fOr fAddI fI fAddS fAddT fAddL; simp [h]
theorem sz_le {n : Nat} (h : n ≤ 16777216) : n ≤ sizeLine := by rw [sizeLine_eq]; exact h
theorem sz_lt {n : Nat} (h : n < 16777216) : n < sizeLine := by rw [sizeLine_eq]; exact h
end DL
set_option Elab.async false
set_option linter.all false
set_option maxRecDepth 100000
set_option maxHeartbeats 1000000
namespace DL
open PySem PySem.Spec PyProof.Rows L2 RT
/-! ### running a mirror: one rule a construct, from the left -/
def RG {α : Type} (m : Rho → Out α) (ρ : Rho) (P : α → Rho → Prop) : Prop := ∃ a ρ', m ρ = .ok a ρ' ∧ P a ρ'
structure RS (m : MS) (ρ : Rho) (Q : OS → Prop) : Prop where
  out : Q (m ρ)
inductive At : Rho → Nat → Sl → Prop
  | z {s : Sl} {ρ : List Sl} : At (s :: ρ) 0 s
  | s {i : Nat} {s t : Sl} {ρ : List Sl} : At ρ i s → At (t :: ρ) (i + 1) s
theorem At.eq : ∀ {ρ : Rho} {i : Nat} {s : Sl}, At ρ i s → ρ[i]? = some s
  | _, _, _, .z => rfl
  | _, _, _, .s h => h.eq
/-- a slot is stored -/
inductive Put : Nat → Sl → Rho → Rho → Prop
  | z {s t : Sl} {ρ : List Sl} : Put 0 s (t :: ρ) (s :: ρ)
  | s {i : Nat} {s t : Sl} {ρ ρ' : List Sl} : Put i s ρ ρ' → Put (i + 1) s (t :: ρ) (t :: ρ')
theorem Put.eq : ∀ {i : Nat} {s : Sl} {ρ ρ' : Rho}, Put i s ρ ρ' → ρ.set i s = ρ'
  | _, _, _, _, .z => rfl
  | _, _, _, _, .s h => congrArg _ h.eq
/-- .. one that is free -/
inductive FPut : Nat → Sl → Rho → Rho → Prop
  | u {s : Sl} {ρ : List Sl} : FPut 0 s (.un :: ρ) (s :: ρ)
  | v {s : Sl} {d : D} {ρ : List Sl} : FPut 0 s (.val d :: ρ) (s :: ρ)
  | o {s : Sl} {c : Oc} {ρ : List Sl} : FPut 0 s (.own c :: ρ) (s :: ρ)
  | f {s : Sl} {ns : List Int} {ρ : List Sl} : FPut 0 s (.fz ns :: ρ) (s :: ρ)
  | g {s t : Sl} {ρ : List Sl} : t.free = true → FPut 0 s (t :: ρ) (s :: ρ)
  | s {i : Nat} {s t : Sl} {ρ ρ' : List Sl} : FPut i s ρ ρ' → FPut (i + 1) s (t :: ρ) (t :: ρ')
theorem FPut.eq : ∀ {i : Nat} {s : Sl} {ρ ρ' : Rho}, FPut i s ρ ρ' → ρ.set i s = ρ' ∧ ∃ t, ρ[i]? = some t ∧ t.free = true
  | _, _, _, _, .u => ⟨rfl, _, rfl, rfl⟩
  | _, _, _, _, .v => ⟨rfl, _, rfl, rfl⟩
  | _, _, _, _, .o => ⟨rfl, _, rfl, rfl⟩
  | _, _, _, _, .f => ⟨rfl, _, rfl, rfl⟩
  | _, _, _, _, .g h => ⟨rfl, _, rfl, h⟩
  | _, _, _, _, .s h => ⟨congrArg _ h.eq.1, h.eq.2⟩
/-- a name's data -/
inductive DAt : Rho → Nat → D → Prop
  | v {d : D} {ρ : List Sl} : DAt (.val d :: ρ) 0 d
  | o {ds : List D} {ρ : List Sl} : DAt (.own (.ls ds) :: ρ) 0 (.list ds)
  | i {ds : List D} {ρ : List Sl} : DAt (.io (.ls ds) :: ρ) 0 (.list ds)
  | od {ds : List (D × D)} {ρ : List Sl} : DAt (.own (.dc ds) :: ρ) 0 (.dict ds)
  | id {ds : List (D × D)} {ρ : List Sl} : DAt (.io (.dc ds) :: ρ) 0 (.dict ds)
  | s {i : Nat} {d : D} {t : Sl} {ρ : List Sl} : DAt ρ i d → DAt (t :: ρ) (i + 1) d
theorem DAt.eq : ∀ {ρ : Rho} {i : Nat} {d : D}, DAt ρ i d → rhoD ρ i = some d
  | _, _, _, .v => rfl
  | _, _, _, .o => rfl
  | _, _, _, .i => rfl
  | _, _, _, .od => rfl
  | _, _, _, .id => rfl
  | _, _, _, .s h => h.eq
/-- a list of one's own, or one that was handed over: where, what it holds when another list stands there -/
inductive LAt : Rho → Nat → List D → (List D → Rho) → Prop
  | o {ds : List D} {ρ : List Sl} : LAt (.own (.ls ds) :: ρ) 0 ds (fun es => .own (.ls es) :: ρ)
  | io {ds : List D} {ρ : List Sl} : LAt (.io (.ls ds) :: ρ) 0 ds (fun es => .io (.ls es) :: ρ)
  | s {i : Nat} {ds : List D} {t : Sl} {ρ : List Sl} {f : List D → Rho} : LAt ρ i ds f → LAt (t :: ρ) (i + 1) ds (fun es => t :: f es)
theorem LAt.eq : ∀ {ρ : Rho} {i : Nat} {ds : List D} {f : List D → Rho}, LAt ρ i ds f → lsAt ρ i = some ds ∧ ∀ es, putLs ρ i es = f es
  | _, _, _, _, .o => ⟨rfl, fun _ => rfl⟩
  | _, _, _, _, .io => ⟨rfl, fun _ => rfl⟩
  | _, _, _, _, .s (t := t) (ρ := ρ) (i := i) h => by
    obtain ⟨h1, h2⟩ := h.eq
    refine ⟨h1, fun es => ?_⟩
    have z := h2 es
    unfold putLs at z ⊢
    rw [List.getElem?_cons_succ]
    cases hr : ρ[i]? with
    | none => rw [hr] at z; exact congrArg (t :: ·) z
    | some s => rw [hr] at z; exact congrArg (t :: ·) z
section
variable {α β : Type} {ρ ρ' ρ1 : Rho} {P : α → Rho → Prop} {Q : OS → Prop} {i j k n : Nat} {d e : D} {r : Rv} {c : Oc} {s : Sl} {ds es : List D}
theorem RG.bind {m : Rho → Out α} {f : α → Rho → Out β} {R : β → Rho → Prop} (h : RG m ρ fun a ρ1 => ∃ b ρ2, f a ρ1 = .ok b ρ2 ∧ R b ρ2) : ∃ b ρ2, (m ρ).bind f = .ok b ρ2 ∧ R b ρ2 := by
  obtain ⟨a, ρ1, h1, h2⟩ := h
  rw [h1]; exact h2
theorem RG.bindS {m : Rho → Out α} {f : α → Rho → OS} (h : RG m ρ fun a ρ1 => Q (f a ρ1)) : Q ((m ρ).bindS f) := by
  obtain ⟨a, ρ1, h1, h2⟩ := h
  rw [h1]; exact h2
theorem RS.mk' {m : MS} (h : Q (m ρ)) : RS m ρ Q := ⟨h⟩
theorem RG.imp {m : Rho → Out α} {R : α → Rho → Prop} (h : RG m ρ P) (g : ∀ a ρ', P a ρ' → R a ρ') : RG m ρ R := by
  obtain ⟨a, ρ1, h1, h2⟩ := h
  exact ⟨a, ρ1, h1, g _ _ h2⟩
theorem RG.ok {m : Rho → Out α} {a : α} (h : RG m ρ fun b ρ1 => b = a ∧ ρ1 = ρ') : m ρ = .ok a ρ' := by
  obtain ⟨b, ρ1, h1, rfl, rfl⟩ := h
  exact h1
/-- a result's data -/
structure DatK (r : Rv) (k : D → Prop) : Prop where
  out : k r.dat
theorem datk_v {k : D → Prop} (h : k d) : DatK (.val d) k := ⟨h⟩
theorem datk_o {k : D → Prop} (h : k (.list ds)) : DatK (.own (.ls ds)) k := ⟨h⟩
theorem datk_d {k : D → Prop} {kv : List (D × D)} (h : k (.dict kv)) : DatK (.own (.dc kv)) k := ⟨h⟩
/-- .. as a slot -/
structure SlK (r : Rv) (k : Sl → Prop) : Prop where
  out : k r.sl
theorem slk_v {k : Sl → Prop} (h : k (.val d)) : SlK (.val d) k := ⟨h⟩
theorem slk_o {k : Sl → Prop} {c : Oc} (h : k (.own c)) : SlK (.own c) k := ⟨h⟩
/-- a branch -/
structure IfK (x : Bool) (A B : Prop) : Prop where
  out : if x = true then A else B
theorem ifk_t {A B : Prop} (h : A) : IfK true A B := ⟨h⟩
theorem ifk_f {A B : Prop} (h : B) : IfK false A B := ⟨h⟩
theorem IfK.t {A B : Prop} (h : IfK true A B) : A := h.out
theorem IfK.f {A B : Prop} (h : IfK false A B) : B := h.out
theorem ifk_d {p : Prop} [Decidable p] {A B : Prop} (h1 : p → A) (h2 : ¬ p → B) : IfK (decide p) A B := by
  by_cases h : p
  · rw [decide_eq_true h]; exact ifk_t (h1 h)
  · rw [decide_eq_false h]; exact ifk_f (h2 h)
theorem ifk_y {p : Prop} [Decidable p] {A B : Prop} (h : p) (h1 : A) : IfK (decide p) A B := by rw [decide_eq_true h]; exact ifk_t h1
theorem ifk_n {p : Prop} [Decidable p] {A B : Prop} (h : ¬ p) (h1 : B) : IfK (decide p) A B := by rw [decide_eq_false h]; exact ifk_f h1
theorem ifk_not {x : Bool} {A B : Prop} (h : IfK x B A) : IfK (!x) A B := by
  cases x
  · exact ifk_t h.f
  · exact ifk_f h.t
theorem ifk_b {x : Bool} {A B : Prop} (h1 : x = true → A) (h2 : x = false → B) : IfK x A B := by
  cases x
  · exact ifk_f (h2 rfl)
  · exact ifk_t (h1 rfl)
theorem ifk_bt {x : Bool} {A B : Prop} (h : x = true) (h1 : A) : IfK x A B := by rw [h]; exact ifk_t h1
theorem ifk_bf {x : Bool} {A B : Prop} (h : x = false) (h1 : B) : IfK x A B := by rw [h]; exact ifk_f h1
/-! expressions -/
theorem g_C {P : Rv → Rho → Prop} (h : P (.val d) ρ) : RG (mC d) ρ P := ⟨_, _, rfl, h⟩
theorem g_nameV {P : Rv → Rho → Prop} (h : At ρ i (.val d)) (g : P (.val d) ρ) : RG (mName i) ρ P := ⟨_, _, by unfold mName; rw [h.eq], g⟩
theorem g_nameO {P : Rv → Rho → Prop} (h : At ρ i (.own (.ls ds))) (hp : Put i (.val (.list ds)) ρ ρ') (g : P (.val (.list ds)) ρ') : RG (mName i) ρ P := ⟨_, _, by unfold mName; rw [h.eq], by rw [← hp.eq] at g; exact g⟩
inductive NmAt : Rho → Nat → D → Rho → Prop
  | v {d : D} {ρ : List Sl} : NmAt (.val d :: ρ) 0 d (.val d :: ρ)
  | o {ds : List D} {ρ : List Sl} : NmAt (.own (.ls ds) :: ρ) 0 (.list ds) (.val (.list ds) :: ρ)
  | od {ds : List (D × D)} {ρ : List Sl} : NmAt (.own (.dc ds) :: ρ) 0 (.dict ds) (.val (.dict ds) :: ρ)
  | s {i : Nat} {d : D} {t : Sl} {ρ ρ' : List Sl} : NmAt ρ i d ρ' → NmAt (t :: ρ) (i + 1) d (t :: ρ')
theorem NmAt.eq : ∀ {ρ : Rho} {i : Nat} {d : D} {ρ' : Rho}, NmAt ρ i d ρ' → mName i ρ = .ok (.val d) ρ'
  | _, _, _, _, .v => rfl
  | _, _, _, _, .o => rfl
  | _, _, _, _, .od => rfl
  | _, _, _, _, .s (i := i) (ρ := ρ) (t := t) h => by
    have z := h.eq
    unfold mName at z ⊢
    rw [List.getElem?_cons_succ]
    cases hr : ρ[i]? with
    | none => rw [hr] at z; cases z
    | some s =>
      rw [hr] at z
      cases s with
      | val d => cases z; rfl
      | own c => injection z with z1 z2; cases z1; rw [← z2]; rfl
      | _ => cases z
theorem g_name {P : Rv → Rho → Prop} (h : NmAt ρ i d ρ') (g : P (.val d) ρ') : RG (mName i) ρ P := ⟨_, _, h.eq, g⟩
inductive RtAt : Rho → Nat → Rv → Rho → Prop
  | v {d : D} {ρ : List Sl} : RtAt (.val d :: ρ) 0 (.val d) (.val d :: ρ)
  | o {c : Oc} {ρ : List Sl} : RtAt (.own c :: ρ) 0 (.own c) (.un :: ρ)
  | s {i : Nat} {d : Rv} {t : Sl} {ρ ρ' : List Sl} : RtAt ρ i d ρ' → RtAt (t :: ρ) (i + 1) d (t :: ρ')
theorem RtAt.eq : ∀ {ρ : Rho} {i : Nat} {r : Rv} {ρ' : Rho}, RtAt ρ i r ρ' → mRetN i ρ = .rt r ρ'
  | _, _, _, _, .v => rfl
  | _, _, _, _, .o => rfl
  | _, _, _, _, .s (i := i) (ρ := ρ) (t := t) h => by
    have z := h.eq
    unfold mRetN at z ⊢
    rw [List.getElem?_cons_succ]
    cases hr : ρ[i]? with
    | none => rw [hr] at z; cases z
    | some s =>
      rw [hr] at z
      cases s with
      | val d => cases z; rfl
      | own c => injection z with z1 z2; cases z1; rw [← z2]; rfl
      | _ => cases z
theorem s_retNm (h : RtAt ρ i r ρ') (g : Q (.rt r ρ')) : RS (mRetN i) ρ Q := ⟨by rw [h.eq]; exact g⟩
theorem g_nm {P : Hd → Rho → Prop} (h : DAt ρ i d) (g : P (.nm i) ρ) : RG (Opd.ev (.nm i)) ρ P := ⟨_, _, by show (match rhoD ρ i with | some _ => Out.ok (Hd.nm i) ρ | none => .bad) = _; rw [h.eq], g⟩
theorem g_ex {P : Hd → Rho → Prop} {m : M} (h : RG m ρ fun r ρ1 => DatK r fun d => P (.dat d) ρ1) : RG (Opd.ev (.ex m)) ρ P := RG.bind (h.imp fun _ _ q => ⟨_, _, rfl, q.out⟩)
theorem g_escN {P : Rv → Rho → Prop} (h : RG (mName i) ρ P) : RG (Opd.esc (.nm i)) ρ P := h
theorem g_escE {P : Rv → Rho → Prop} {m : M} (h : RG m ρ P) : RG (Opd.esc (.ex m)) ρ P := h
inductive Res : Hd → Rho → D → Prop
  | nm {i : Nat} {ρ : Rho} {d : D} : DAt ρ i d → Res (.nm i) ρ d
  | dat {ρ : Rho} {d : D} : Res (.dat d) ρ d
theorem Res.eq : ∀ {h : Hd} {ρ : Rho} {d : D}, Res h ρ d → h.res ρ = some d
  | _, _, _, .nm h => h.eq
  | _, _, _, .dat => rfl
inductive ResAll : List Hd → Rho → List D → Prop
  | nil {ρ : Rho} : ResAll [] ρ []
  | cons {h : Hd} {hs : List Hd} {ρ : Rho} {d : D} {ds : List D} : Res h ρ d → ResAll hs ρ ds → ResAll (h :: hs) ρ (d :: ds)
theorem ResAll.eq : ∀ {hs : List Hd} {ρ : Rho} {ds : List D}, ResAll hs ρ ds → resAll ρ hs = some ds
  | _, _, _, .nil => rfl
  | _, _, _, .cons h t => by unfold resAll; rw [h.eq, t.eq]
def Op2 (f : D → D → Option Rv) (d e : D) (r : Rv) : Prop := f d e = some r
def Op1 (f : D → Option Rv) (d : D) (r : Rv) : Prop := f d = some r
def OpN (f : List D → Option Rv) (ds : List D) (r : Rv) : Prop := f ds = some r
def OpL (f : List D → Option (List D)) (ds : List D) (r : List D) : Prop := f ds = some r
theorem opn_1 {g : D → Option Rv} (h : Op1 g d r) : OpN (c1 g) [d] r := h
theorem opn_2 {g : D → D → Option Rv} (h : Op2 g d e r) : OpN (c2 g) [d, e] r := h
def BinK (f : D → D → Option Rv) (x y : Hd) (ρ : Rho) (P : Rv → Rho → Prop) : Prop := ∃ d e r, x.res ρ = some d ∧ y.res ρ = some e ∧ f d e = some r ∧ P r ρ
theorem bink {f : D → D → Option Rv} {x y : Hd} {P : Rv → Rho → Prop} (h1 : Res x ρ d) (h2 : Res y ρ e) (h3 : Op2 f d e r) (h4 : P r ρ) : BinK f x y ρ P := ⟨d, e, r, h1.eq, h2.eq, h3, h4⟩
theorem g_bin {f : D → D → Option Rv} {a b : Opd} {P : Rv → Rho → Prop} (h : RG a.ev ρ fun x ρ1 => RG b.ev ρ1 fun y ρ2 => BinK f x y ρ2 P) : RG (mBin f a b) ρ P :=
  RG.bind (h.imp fun x ρ1 h1 => RG.bind (h1.imp fun y ρ2 ⟨d, e, r, h2, h3, h4, h5⟩ => ⟨r, ρ2, by rw [h2, h3]; dsimp only; rw [h4], h5⟩))
def UnK (f : D → Option Rv) (x : Hd) (ρ : Rho) (P : Rv → Rho → Prop) : Prop := ∃ d r, x.res ρ = some d ∧ f d = some r ∧ P r ρ
theorem unk {f : D → Option Rv} {x : Hd} {P : Rv → Rho → Prop} (h1 : Res x ρ d) (h3 : Op1 f d r) (h4 : P r ρ) : UnK f x ρ P := ⟨d, r, h1.eq, h3, h4⟩
theorem g_un {f : D → Option Rv} {a : Opd} {P : Rv → Rho → Prop} (h : RG a.ev ρ fun x ρ1 => UnK f x ρ1 P) : RG (mUn f a) ρ P :=
  RG.bind (h.imp fun x ρ1 ⟨d, r, h2, h4, h5⟩ => ⟨r, ρ1, by rw [h2]; dsimp only; rw [h4], h5⟩)
theorem g_evN {P : List Hd → Rho → Prop} (h : P [] ρ) : RG (evAll []) ρ P := ⟨_, _, rfl, h⟩
theorem g_evC {o : Opd} {os : List Opd} {P : List Hd → Rho → Prop} (h : RG o.ev ρ fun x ρ1 => RG (evAll os) ρ1 fun xs ρ2 => P (x :: xs) ρ2) : RG (evAll (o :: os)) ρ P :=
  RG.bind (h.imp fun x ρ1 h1 => RG.bind (h1.imp fun y ρ2 h2 => ⟨_, _, rfl, h2⟩))
def CallK (f : List D → Option Rv) (xs : List Hd) (ρ : Rho) (P : Rv → Rho → Prop) : Prop := ∃ ds r, resAll ρ xs = some ds ∧ f ds = some r ∧ P r ρ
theorem callk {f : List D → Option Rv} {xs : List Hd} {P : Rv → Rho → Prop} (h1 : ResAll xs ρ ds) (h3 : OpN f ds r) (h4 : P r ρ) : CallK f xs ρ P := ⟨ds, r, h1.eq, h3, h4⟩
theorem g_call {f : List D → Option Rv} {os : List Opd} {P : Rv → Rho → Prop} (h : RG (evAll os) ρ fun xs ρ1 => CallK f xs ρ1 P) : RG (mCall f os) ρ P :=
  RG.bind (h.imp fun x ρ1 ⟨ds, r, h2, h4, h5⟩ => ⟨r, ρ1, by rw [h2]; dsimp only; rw [h4], h5⟩)
/-! tests -/
def BoolK (r : Rv) (k : Bool → Prop) : Prop := ∃ b, r = .val (.bool b) ∧ k b
theorem boolk {b : Bool} {k : Bool → Prop} (h : k b) : BoolK (.val (.bool b)) k := ⟨b, rfl, h⟩
theorem g_TB {m : M} {P : Bool → Rho → Prop} (h : RG m ρ fun r ρ1 => BoolK r fun b => P b ρ1) : RG (mTB m) ρ P :=
  RG.bind (h.imp fun r ρ1 ⟨b, e, q⟩ => ⟨b, ρ1, by rw [e], q⟩)
theorem g_and {a b : MT} {P : Bool → Rho → Prop} (h : RG a ρ fun x ρ1 => IfK x (RG b ρ1 P) (P false ρ1)) : RG (mAnd a b) ρ P :=
  RG.bind (h.imp fun x ρ1 q => by
    cases x
    · exact ⟨_, _, rfl, q.f⟩
    · exact q.t)
theorem g_or {a b : MT} {P : Bool → Rho → Prop} (h : RG a ρ fun x ρ1 => IfK x (P true ρ1) (RG b ρ1 P)) : RG (mOr a b) ρ P :=
  RG.bind (h.imp fun x ρ1 q => by
    cases x
    · exact q.f
    · exact ⟨_, _, rfl, q.t⟩)
theorem g_not {a : MT} {P : Bool → Rho → Prop} (h : RG a ρ fun x ρ1 => P (!x) ρ1) : RG (mNot a) ρ P := RG.bind (h.imp fun x ρ1 q => ⟨_, _, rfl, q⟩)
theorem g_V {a : MT} {P : Rv → Rho → Prop} (h : RG a ρ fun x ρ1 => P (.val (.bool x)) ρ1) : RG (mV a) ρ P := RG.bind (h.imp fun x ρ1 q => ⟨_, _, rfl, q⟩)
theorem g_if {c : MT} {a b : M} {P : Rv → Rho → Prop} (h : RG c ρ fun x ρ1 => IfK x (RG a ρ1 P) (RG b ρ1 P)) : RG (mIf c a b) ρ P :=
  RG.bind (h.imp fun x ρ1 q => by
    cases x
    · exact q.f
    · exact q.t)
def TruK (x : Hd) (ρ : Rho) (P : Bool → Rho → Prop) : Prop := ∃ d b, x.res ρ = some d ∧ truD d = some b ∧ P b ρ
theorem truk {x : Hd} {P : Bool → Rho → Prop} {b : Bool} (h1 : Res x ρ d) (h3 : truD d = some b) (h4 : P b ρ) : TruK x ρ P := ⟨d, b, h1.eq, h3, h4⟩
theorem g_tru {a : Opd} {P : Bool → Rho → Prop} (h : RG a.ev ρ fun x ρ1 => TruK x ρ1 P) : RG (mTru a) ρ P :=
  RG.bind (h.imp fun x ρ1 ⟨d, r, h2, h4, h5⟩ => ⟨r, ρ1, by rw [h2]; dsimp only; rw [h4], h5⟩)
theorem g_yes {P : Bool → Rho → Prop} (h : P true ρ) : RG mYes ρ P := ⟨_, _, rfl, h⟩
def ChK (f g : D → D → Option Rv) (x y : Hd) (c : Opd) (ρ : Rho) (P : Rv → Rho → Prop) : Prop := ∃ d e b, x.res ρ = some d ∧ y.res ρ = some e ∧ f d e = some (.val (.bool b)) ∧ IfK b (RG c.ev ρ fun z ρ1 => BinK g y z ρ1 P) (P (.val (.bool false)) ρ)
theorem chk {f g : D → D → Option Rv} {x y : Hd} {c : Opd} {b : Bool} {P : Rv → Rho → Prop} (h1 : Res x ρ d) (h2 : Res y ρ e) (h3 : Op2 f d e (.val (.bool b))) (h4 : IfK b (RG c.ev ρ fun z ρ1 => BinK g y z ρ1 P) (P (.val (.bool false)) ρ)) : ChK f g x y c ρ P := ⟨d, e, b, h1.eq, h2.eq, h3, h4⟩
theorem g_chain {f g : D → D → Option Rv} {a b c : Opd} {P : Rv → Rho → Prop} (h : RG a.ev ρ fun x ρ1 => RG b.ev ρ1 fun y ρ2 => ChK f g x y c ρ2 P) : RG (mChain f g a b c) ρ P :=
  RG.bind (h.imp fun x ρ1 h1 => RG.bind (h1.imp fun y ρ2 ⟨d, e, b, h2, h3, h4, h5⟩ => by
    cases b with
    | false => exact ⟨_, ρ2, by rw [h2, h3]; dsimp only; rw [h4], h5.f⟩
    | true =>
      have h5 : RG c.ev ρ2 fun z ρ1 => BinK g y z ρ1 P := h5.t
      obtain ⟨r, ρ3, q1, q2⟩ := RG.bind (f := fun z ρ3 => match y.res ρ3, z.res ρ3 with
        | some e', some d' => (match g e' d' with
          | some r => Out.ok r ρ3
          | none => .bad)
        | _, _ => .bad) (h5.imp fun z ρ3 ⟨d', e', r, z1, z2, z3, z4⟩ => ⟨r, ρ3, by rw [z1, z2]; dsimp only; rw [z3], z4⟩)
      exact ⟨r, ρ3, by rw [h2, h3]; dsimp only; rw [h4]; exact q1, q2⟩))
/-! lists, tuples -/
theorem g_elN {P : List D → Rho → Prop} (h : P [] ρ) : RG (evEls []) ρ P := ⟨_, _, rfl, h⟩
theorem g_elO {o : Opd} {os : List El} {P : List D → Rho → Prop} (h : RG o.esc ρ fun r ρ1 => DatK r fun d => RG (evEls os) ρ1 fun ds ρ2 => P (d :: ds) ρ2) : RG (evEls (.one o :: os)) ρ P :=
  RG.bind (h.imp fun x ρ1 h1 => RG.bind (RG.imp h1.out fun y ρ2 h2 => ⟨_, _, rfl, h2⟩))
inductive It : D → List D → Prop
  | l {ds : List D} : It (.list ds) ds
  | t {ds : List D} : It (.tuple ds) ds
theorem It.eq : ∀ {d : D} {ds : List D}, It d ds → itD d = some ds
  | _, _, .l => rfl
  | _, _, .t => rfl
def StarK (x : Hd) (ρ : Rho) (k : List D → Prop) : Prop := ∃ es, (x.res ρ).bind itD = some es ∧ k es
theorem stark {x : Hd} {k : List D → Prop} (h1 : Res x ρ d) (h2 : It d es) (h3 : k es) : StarK x ρ k := ⟨es, by rw [h1.eq]; exact h2.eq, h3⟩
theorem g_elS {o : Opd} {os : List El} {P : List D → Rho → Prop} (h : RG o.ev ρ fun x ρ1 => StarK x ρ1 fun es => RG (evEls os) ρ1 fun ds ρ2 => P (es ++ ds) ρ2) : RG (evEls (.star o :: os)) ρ P :=
  RG.bind (h.imp fun x ρ1 ⟨es, h1, h2⟩ => by
    rw [h1]
    exact RG.bind (RG.imp h2 fun y ρ2 h3 => ⟨_, _, rfl, h3⟩))
def Fits (n : Nat) : Prop := n ≤ sizeLine
def Fits1 (n : Nat) : Prop := n < sizeLine
theorem g_tup {os : List El} {P : Rv → Rho → Prop} (h : RG (evEls os) ρ fun ds ρ1 => Fits ds.length ∧ P (.val (.tuple ds)) ρ1) : RG (mTup os) ρ P :=
  RG.bind (h.imp fun ds ρ1 ⟨h1, h2⟩ => ⟨_, ρ1, if_pos h1, h2⟩)
theorem g_lst {os : List El} {P : Rv → Rho → Prop} (h : RG (evEls os) ρ fun ds ρ1 => Fits ds.length ∧ P (.own (.ls ds)) ρ1) : RG (mLst os) ρ P :=
  RG.bind (h.imp fun ds ρ1 ⟨h1, h2⟩ => ⟨_, ρ1, if_pos h1, h2⟩)
def AppK (i : Nat) (d : D) (ρ : Rho) (P : Rv → Rho → Prop) : Prop := ∃ ds, lsAt ρ i = some ds ∧ ds.length < sizeLine ∧ P (.val .none) (putLs ρ i (ds ++ [d]))
theorem appk {P : Rv → Rho → Prop} {f : List D → Rho} (h : LAt ρ i ds f) (h1 : Fits1 ds.length) (h2 : P (.val .none) (f (ds ++ [d]))) : AppK i d ρ P := ⟨ds, h.eq.1, h1, by rw [h.eq.2]; exact h2⟩
theorem g_app {m : M} {P : Rv → Rho → Prop} {f : List D → Rho} (h0 : LAt ρ i ds f) (h : RG m ρ fun r ρ1 => DatK r fun d => AppK i d ρ1 P) : RG (mApp i m) ρ P := by
  obtain ⟨b, ρ2, h1, h2⟩ := RG.bind (f := fun r ρ1 => match lsAt ρ1 i with
    | some ds => if ds.length < sizeLine then Out.ok (.val .none) (putLs ρ1 i (ds ++ [r.dat])) else .bad
    | none => .bad) (R := P) (h.imp fun x ρ1 ⟨ds, h1, h2, h3⟩ => ⟨_, _, by rw [h1]; exact if_pos h2, h3⟩)
  exact ⟨b, ρ2, by unfold mApp; rw [h0.eq.1]; exact h1, h2⟩
theorem g_pop {P : Rv → Rho → Prop} {f : List D → Rho} (h : LAt ρ i ds f) (h1 : ds[ds.length - 1]? = some d) (h2 : P (.val d) (f ds.dropLast)) : RG (mPop i) ρ P := ⟨_, _, by unfold mPop; rw [h.eq.1]; dsimp only; rw [h1], by rw [h.eq.2]; exact h2⟩
/-! iterables -/
theorem g_it {o : Opd} {P : List D → Rho → Prop} (h : RG o.esc ρ fun r ρ1 => DatK r fun d => ∃ ds, It d ds ∧ P ds ρ1) : RG (mIt o) ρ P :=
  RG.bind (h.imp fun r ρ1 ⟨ds, h1, h2⟩ => ⟨ds, ρ1, by rw [h1.eq], h2⟩)
theorem g_rev {o : Opd} {P : List D → Rho → Prop} (h : RG o.esc ρ fun r ρ1 => DatK r fun d => ∃ ds, It d ds ∧ P ds.reverse ρ1) : RG (mRev o) ρ P :=
  RG.bind (h.imp fun r ρ1 ⟨ds, h1, h2⟩ => ⟨ds.reverse, ρ1, by rw [h1.eq], h2⟩)
theorem itk {P : List D → Prop} {d : D} {ds : List D} (h : It d ds) (g : P ds) : ∃ ds, It d ds ∧ P ds := ⟨ds, h, g⟩
theorem g_itZ {ns : List Int} {P : List D → Rho → Prop} (h : At ρ i (.fz ns)) (g : P (ns.map .int) ρ) : RG (mItZ i) ρ P := ⟨_, _, by unfold mItZ; rw [h.eq], g⟩
def RngK (f : List D → Option (List D)) (xs : List Hd) (ρ : Rho) (P : List D → Rho → Prop) : Prop := ∃ ds es, resAll ρ xs = some ds ∧ f ds = some es ∧ P es ρ
theorem rngk {f : List D → Option (List D)} {xs : List Hd} {P : List D → Rho → Prop} (h1 : ResAll xs ρ ds) (h3 : OpL f ds es) (h4 : P es ρ) : RngK f xs ρ P := ⟨ds, es, h1.eq, h3, h4⟩
theorem g_rng {f : List D → Option (List D)} {os : List Opd} {P : List D → Rho → Prop} (h : RG (evAll os) ρ fun xs ρ1 => RngK f xs ρ1 P) : RG (mRng f os) ρ P :=
  RG.bind (h.imp fun x ρ1 ⟨ds, r, h2, h4, h5⟩ => ⟨r, ρ1, by rw [h2, Option.bind_some, h4], h5⟩)
theorem g_itG {f : List D → Option (List D)} {os : List El} {P : List D → Rho → Prop} (h : RG (evEls os) ρ fun ds ρ1 => ∃ es, OpL f ds es ∧ P es ρ1) : RG (mItG f os) ρ P :=
  RG.bind (h.imp fun x ρ1 ⟨es, h2, h5⟩ => ⟨es, ρ1, by rw [show f x = some es from h2], h5⟩)
theorem oplk {P : List D → Prop} {f : List D → Option (List D)} (h : OpL f ds es) (g : P es) : ∃ es, OpL f ds es ∧ P es := ⟨es, h, g⟩
theorem g_lenZ {ns : List Int} {P : Rv → Rho → Prop} (h : At ρ i (.fz ns)) (g : P (.val (.int ns.length)) ρ) : RG (mLenZ i) ρ P := ⟨_, _, by unfold mLenZ; rw [h.eq], g⟩
def IxZK (i : Nat) (x : Hd) (ρ : Rho) (P : Rv → Rho → Prop) : Prop := ∃ ns j n, ρ[i]? = some (.fz ns) ∧ x.res ρ = some (.int j) ∧ atI ns j = some n ∧ P (.val (.int n)) ρ
theorem ixzk {x : Hd} {ns : List Int} {j n : Int} {P : Rv → Rho → Prop} (h1 : At ρ i (.fz ns)) (h2 : Res x ρ (.int j)) (h3 : atI ns j = some n) (h4 : P (.val (.int n)) ρ) : IxZK i x ρ P := ⟨ns, j, n, h1.eq, h2.eq, h3, h4⟩
theorem g_ixZ {o : Opd} {ns : List Int} {P : Rv → Rho → Prop} (h0 : At ρ i (.fz ns)) (h : RG o.ev ρ fun x ρ1 => IxZK i x ρ1 P) : RG (mIxZ i o) ρ P := by
  have z := RG.bind (f := fun x ρ1 => match ρ1[i]?, x.res ρ1 with
    | some (.fz ns), some (.int j) => (match atI ns j with
      | some n => Out.ok (Rv.val (.int n)) ρ1
      | none => .bad)
    | _, _ => .bad) (R := P) (h.imp fun x ρ1 ⟨ns, j, n, h1, h2, h3, h4⟩ => ⟨_, ρ1, by rw [h1, h2]; dsimp only; rw [h3], h4⟩)
  obtain ⟨b, ρ2, h1, h2⟩ := z
  exact ⟨b, ρ2, by unfold mIxZ; rw [h0.eq]; exact h1, h2⟩
/-! comprehensions -/
inductive UnR : List Nat → Rho → Rho → Prop
  | nil {ρ : Rho} : UnR [] ρ ρ
  | cons {i : Nat} {vs : List Nat} {ρ ρ1 ρ2 : Rho} : UnR vs ρ ρ1 → FPut i .un ρ1 ρ2 → UnR (i :: vs) ρ ρ2
theorem UnR.eq : ∀ {vs : List Nat} {ρ ρ' : Rho}, UnR vs ρ ρ' → unR vs ρ = some ρ'
  | _, _, _, .nil => rfl
  | _, _, _, .cons h p => by
    obtain ⟨h1, t, h2, h3⟩ := p.eq
    unfold unR
    rw [h.eq, Option.bind_some, h2]
    dsimp only
    rw [if_pos h3, h1]
def LcE (vs : List Nat) (c : CT) (t : MT) (m : M) (ds : List D) (ρ : Rho) (P : List D → Rho → Prop) : Prop := ∃ rs ρ', lcD vs c t m ds ρ = .ok rs ρ' ∧ P rs ρ'
theorem g_lc {vs : List Nat} {mi : MI} {c : CT} {t : MT} {m : M} {P : Rv → Rho → Prop} (h : RG mi ρ fun ds ρ1 => Fits ds.length ∧ ∃ ρ2, UnR vs ρ1 ρ2 ∧ LcE vs c t m ds ρ2 fun rs ρ3 => P (.own (.ls rs)) ρ3) : RG (mLc vs mi c t m) ρ P :=
  RG.bind (h.imp fun ds ρ1 ⟨h1, ρ2, h2, rs, ρ3, h3, h4⟩ => ⟨_, ρ3, by rw [if_pos (show ds.length ≤ sizeLine from h1), h2.eq]; dsimp only; rw [h3]; rfl, h4⟩)
theorem lck {A : Prop} {vs : List Nat} {B : Rho → Prop} {ρ2 : Rho} (h0 : A) (h1 : UnR vs ρ ρ2) (h2 : B ρ2) : A ∧ ∃ ρ2, UnR vs ρ ρ2 ∧ B ρ2 := ⟨h0, ρ2, h1, h2⟩
theorem lce {vs : List Nat} {c : CT} {t : MT} {m : M} {rs : List D} {P : List D → Rho → Prop} (h1 : lcD vs c t m ds ρ = .ok rs ρ') (h2 : P rs ρ') : LcE vs c t m ds ρ P := ⟨rs, ρ', h1, h2⟩
def OrK (d : D) (ρ : Rho) (b : M) (P : Rv → Rho → Prop) : Prop := ∃ x, truD d = some x ∧ IfK x (P (.val d) ρ) (RG b ρ P)
theorem ork {b : M} {x : Bool} {P : Rv → Rho → Prop} (h : truD d = some x) (g : IfK x (P (.val d) ρ) (RG b ρ P)) : OrK d ρ b P := ⟨x, h, g⟩
theorem g_orO {a : Opd} {b : M} {P : Rv → Rho → Prop} (h : RG a.esc ρ fun r ρ1 => DatK r fun d => OrK d ρ1 b P) : RG (mOrO a b) ρ P :=
  RG.bind (h.imp fun r ρ1 ⟨x, h1, h2⟩ => by
    rw [h1]
    cases x
    · exact h2.f
    · exact ⟨_, _, rfl, h2.t⟩)
/-! slices -/
theorem g_pN {P : Option Int → Rho → Prop} (h : P none ρ) : RG (evP none) ρ P := ⟨_, _, rfl, h⟩
def IntK (x : Hd) (ρ : Rho) (k : Int → Prop) : Prop := ∃ i, x.res ρ = some (.int i) ∧ k i
theorem intk {x : Hd} {i : Int} {k : Int → Prop} (h : Res x ρ (.int i)) (g : k i) : IntK x ρ k := ⟨i, h.eq, g⟩
theorem g_pS {o : Opd} {P : Option Int → Rho → Prop} (h : RG o.ev ρ fun x ρ1 => IntK x ρ1 fun i => P (some i) ρ1) : RG (evP (some o)) ρ P :=
  RG.bind (h.imp fun x ρ1 ⟨i, h1, h2⟩ => ⟨_, _, by rw [h1], h2⟩)
theorem g_cut {a : Opd} {lo hi : Option Opd} {P : Rv → Rho → Prop} (h : RG a.ev ρ fun x ρ1 => RG (evP lo) ρ1 fun l ρ2 => RG (evP hi) ρ2 fun u ρ3 => UnK (gCut l u) x ρ3 P) : RG (mCut a lo hi) ρ P :=
  RG.bind (h.imp fun x ρ1 h1 => RG.bind (h1.imp fun l ρ2 h2 => RG.bind (h2.imp fun u ρ3 ⟨d, r, h2, h4, h5⟩ => ⟨r, ρ3, by rw [h2]; dsimp only; rw [h4], h5⟩)))
/-! calls -/
theorem g_caN {P : List AP → Rho → Prop} (h : P [] ρ) : RG (evCAs []) ρ P := ⟨_, _, rfl, h⟩
theorem g_caV {o : Opd} {as : List CA} {P : List AP → Rho → Prop} (h : RG o.esc ρ fun r ρ1 => DatK r fun d => RG (evCAs as) ρ1 fun hs ρ2 => P (.d d :: hs) ρ2) : RG (evCAs (.v o :: as)) ρ P :=
  RG.bind (RG.bind (h.imp fun x ρ1 h1 => ⟨_, _, rfl, RG.bind (RG.imp h1.out fun y ρ2 h2 => ⟨_, _, rfl, h2⟩)⟩))
theorem g_caI {as : List CA} {f : List D → Rho} {P : List AP → Rho → Prop} (h0 : LAt ρ i ds f) (h : RG (evCAs as) ρ fun hs ρ2 => P (.io i :: hs) ρ2) : RG (evCAs (.io i :: as)) ρ P := by
  have e : CA.ev (.io i) ρ = .ok (.io i) ρ := by
    have z := h0.eq.1
    unfold lsAt at z
    show (match ρ[i]? with | some s => (match s.oc with | some _ => Out.ok (AP.io i) ρ | none => .bad) | none => .bad) = _
    cases hr : ρ[i]? with
    | none => rw [hr] at z; cases z
    | some s =>
      rw [hr] at z
      dsimp only at z ⊢
      cases ho : s.oc with
      | none => rw [ho] at z; cases z
      | some c => rfl
  refine RG.bind ⟨_, _, e, RG.bind (RG.imp h fun y ρ2 h2 => ⟨_, _, rfl, h2⟩)⟩
theorem g_caZ {as : List CA} {ns : List Int} {P : List AP → Rho → Prop} (h0 : At ρ i (.fz ns)) (h : RG (evCAs as) ρ fun hs ρ2 => P (.fz i :: hs) ρ2) : RG (evCAs (.fz i :: as)) ρ P := by
  have e : CA.ev (.fz i) ρ = .ok (.fz i) ρ := by
    show (match ρ[i]? with | some (Sl.fz _) => Out.ok (AP.fz i) ρ | _ => .bad) = _
    rw [h0.eq]
  refine RG.bind ⟨_, _, e, RG.bind (RG.imp h fun y ρ2 h2 => ⟨_, _, rfl, h2⟩)⟩
def FE (f : FD) (xs : List Ar) (r : Rv) (c : Option Oc) : Prop := f xs = .ok r c
inductive RA : List AP → Rho → List Ar → Prop
  | nil {ρ : Rho} : RA [] ρ []
  | d {d : D} {hs : List AP} {ρ : Rho} {xs : List Ar} : RA hs ρ xs → RA (.d d :: hs) ρ (.d d :: xs)
  | io {i : Nat} {ds : List D} {f : List D → Rho} {hs : List AP} {ρ : Rho} {xs : List Ar} : LAt ρ i ds f → RA hs ρ xs → RA (.io i :: hs) ρ (.io (.ls ds) :: xs)
  | fz {i : Nat} {ns : List Int} {hs : List AP} {ρ : Rho} {xs : List Ar} : At ρ i (.fz ns) → RA hs ρ xs → RA (.fz i :: hs) ρ (.fz ns :: xs)
theorem LAt.oc {f : List D → Rho} (h : LAt ρ i ds f) : ∃ s, ρ[i]? = some s ∧ s.oc = some (.ls ds) ∧ ∀ es, ρ.set i (s.put (.ls es)) = f es := by
  obtain ⟨h1, h2⟩ := h.eq
  unfold lsAt at h1
  unfold putLs at h2
  cases hr : ρ[i]? with
  | none => rw [hr] at h1; cases h1
  | some s =>
    rw [hr] at h1 h2
    refine ⟨s, rfl, ?_, h2⟩
    dsimp only at h1
    cases ho : s.oc with
    | none => rw [ho] at h1; cases h1
    | some c => rw [ho] at h1; cases c <;> cases h1; rfl
theorem RA.eq : ∀ {hs : List AP} {ρ : Rho} {xs : List Ar}, RA hs ρ xs → resAPs ρ hs = some xs
  | _, _, _, .nil => rfl
  | _, _, _, .d h => by unfold resAPs; rw [h.eq]; rfl
  | _, ρ, _, .io h0 h => by
    unfold resAPs
    rw [h.eq]
    obtain ⟨s, h1, h2, _⟩ := h0.oc
    have e : ∀ i : Nat, AP.res ρ (.io i) = (match ρ[i]? with | some s => Option.map Ar.io s.oc | none => none) := fun _ => rfl
    rw [e, h1]
    dsimp only
    rw [h2]
    rfl
  | _, ρ, _, .fz h0 h => by
    unfold resAPs
    rw [h.eq]
    have e : ∀ i : Nat, AP.res ρ (.fz i) = (match ρ[i]? with | some (Sl.fz ns) => some (Ar.fz ns) | _ => none) := fun _ => rfl
    rw [e, h0.eq]
def DefK (n : Nat) (f : FD) (hs : List AP) (ρ : Rho) (P : Rv → Rho → Prop) : Prop := ∃ xs r c ρ2, resAPs ρ hs = some xs ∧ (xs.length = n ∧ ioN xs ≤ 1) ∧ f xs = .ok r c ∧ putIo ρ (ioAt hs) c = some ρ2 ∧ P r ρ2
theorem g_def {f : FD} {as : List CA} {P : Rv → Rho → Prop} (h : RG (evCAs as) ρ fun hs ρ1 => DefK n f hs ρ1 P) : RG (mDef n f as) ρ P :=
  RG.bind (h.imp fun hs ρ1 ⟨xs, r, c, ρ2, h1, h2, h3, h4, h5⟩ => ⟨r, ρ2, by rw [h1]; dsimp only; rw [if_pos h2, h3]; dsimp only; rw [h4], h5⟩)
inductive DfO (n : Nat) (xs : List Ar) (hs : List AP) : Prop
  | d : (xs.length = n ∧ ioN xs = 0 ∧ ioAt hs = none) → DfO n xs hs
inductive DfI (n : Nat) (xs : List Ar) : Prop
  | d : (xs.length = n ∧ ioN xs ≤ 1) → DfI n xs
theorem defk_d {f : FD} {hs : List AP} {xs : List Ar} {P : Rv → Rho → Prop} (h1 : RA hs ρ xs) (h3 : DfO n xs hs) (h2 : FE f xs r none) (h : P r ρ) : DefK n f hs ρ P :=
  match h3 with
  | .d h3 => ⟨xs, r, none, ρ, h1.eq, ⟨h3.1, by rw [h3.2.1]; exact Nat.zero_le _⟩, h2, by rw [h3.2.2]; rfl, h⟩
theorem defk_io {f : FD} {g : List D → Rho} {hs : List AP} {xs : List Ar} {P : Rv → Rho → Prop} (h1 : RA (.io i :: hs) ρ xs) (h3 : DfI n xs) (h0 : LAt ρ i ds g) (h2 : FE f xs r (some (.ls es))) (h : P r (g es)) : DefK n f (.io i :: hs) ρ P := by
  obtain ⟨s, z1, z2, z3⟩ := h0.oc
  cases h3 with
  | d h3 => exact ⟨xs, r, _, g es, h1.eq, ⟨h3.1, h3.2⟩, h2, by unfold ioAt putIo; dsimp only; rw [z1]; dsimp only; rw [z3], h⟩
/-! statements -/
structure KS (b : MS) (Q : OS → Prop) (o : OS) : Prop where
  out : Q (o.bind b)
theorem ks_nx {b : MS} (h : RS b ρ Q) : KS b Q (.nx ρ) := ⟨h.out⟩
theorem ks_rt {b : MS} (h : Q (.rt r ρ)) : KS b Q (.rt r ρ) := ⟨h⟩
theorem ks_bk {b : MS} (h : Q (.bk ρ)) : KS b Q (.bk ρ) := ⟨h⟩
theorem ks_ct {b : MS} (h : Q (.ct ρ)) : KS b Q (.ct ρ) := ⟨h⟩
theorem ks_exc {b : MS} {x : Str} (h : Q (.exc x ρ)) : KS b Q (.exc x ρ) := ⟨h⟩
theorem s_seq {a b : MS} (h : RS a ρ (KS b Q)) : RS (mSeq a b) ρ Q := ⟨h.out.out⟩
theorem s_sk (h : Q (.nx ρ)) : RS mSk ρ Q := ⟨h⟩
theorem s_bk (h : Q (.bk ρ)) : RS mBk ρ Q := ⟨h⟩
theorem s_ct (h : Q (.ct ρ)) : RS mCt ρ Q := ⟨h⟩
def StK (i : Nat) (s : Sl) (ρ : Rho) (Q : OS → Prop) : Prop := ∃ ρ', setSl i s ρ = .nx ρ' ∧ Q (.nx ρ')
theorem stk (h : FPut i s ρ ρ') (g : Q (.nx ρ')) : StK i s ρ Q := by
  obtain ⟨h1, t, h2, h3⟩ := h.eq
  exact ⟨ρ', by unfold setSl; rw [h2]; dsimp only; rw [if_pos h3, h1], g⟩
theorem s_setV {m : M} (h : RG m ρ fun r ρ1 => DatK r fun d => StK i (.val d) ρ1 Q) : RS (mSetV i m) ρ Q :=
  ⟨RG.bindS (h.imp fun r ρ1 ⟨ρ2, h1, h2⟩ => by rw [h1]; exact h2)⟩
theorem s_set {m : M} (h : RG m ρ fun r ρ1 => SlK r fun s => StK i s ρ1 Q) : RS (mSet i m) ρ Q :=
  ⟨RG.bindS (h.imp fun r ρ1 ⟨ρ2, h1, h2⟩ => by rw [h1]; exact h2)⟩
theorem s_drop {m : M} (h : RG m ρ fun _ ρ1 => Q (.nx ρ1)) : RS (mDrop m) ρ Q := ⟨RG.bindS h⟩
theorem s_ret {m : M} (h : RG m ρ fun r ρ1 => Q (.rt r ρ1)) : RS (mRet m) ρ Q := ⟨RG.bindS h⟩
theorem s_retNone (h : Q (.rt (.val .none) ρ)) : RS mRetNone ρ Q := ⟨h⟩
theorem s_retV (h : At ρ i (.val d)) (g : Q (.rt (.val d) ρ)) : RS (mRetN i) ρ Q := ⟨by unfold mRetN; rw [h.eq]; exact g⟩
theorem s_retO (h : At ρ i (.own c)) (hp : Put i .un ρ ρ') (g : Q (.rt (.own c) ρ')) : RS (mRetN i) ρ Q := ⟨by unfold mRetN; rw [h.eq]; dsimp only; rw [hp.eq]; exact g⟩
theorem s_ite {c : MT} {a b : MS} (h : RG c ρ fun x ρ1 => IfK x (RS a ρ1 Q) (RS b ρ1 Q)) : RS (mIte c a b) ρ Q :=
  ⟨RG.bindS (h.imp fun x ρ1 q => by
    cases x
    · exact q.f.out
    · exact q.t.out)⟩
def AugK (f : D → D → Option Rv) (i : Nat) (x : Hd) (ρ : Rho) (Q : OS → Prop) : Prop := ∃ d e z, rhoD ρ i = some d ∧ x.res ρ = some e ∧ f d e = some (.val z) ∧ StK i (.val z) ρ Q
theorem augk {f : D → D → Option Rv} {x : Hd} {z : D} (h1 : DAt ρ i d) (h2 : Res x ρ e) (h3 : Op2 f d e (.val z)) (h4 : StK i (.val z) ρ Q) : AugK f i x ρ Q := ⟨d, e, z, h1.eq, h2.eq, h3, h4⟩
theorem s_aug {f : D → D → Option Rv} {o : Opd} (h0 : DAt ρ i d) (h : RG o.ev ρ fun x ρ1 => AugK f i x ρ1 Q) : RS (mAug f i o) ρ Q := by
  refine ⟨?_⟩
  unfold mAug
  rw [h0.eq]
  exact RG.bindS (h.imp fun x ρ1 ⟨d, e, z, h1, h2, h3, ρ2, h4, h5⟩ => by rw [h1, h2]; dsimp only; rw [h3]; dsimp only; rw [h4]; exact h5)
mutual
inductive BCT : CT → D → Rho → Rho → Prop
  | nm {i : Nat} {d : D} {ρ ρ' : Rho} : FPut i (.val d) ρ ρ' → BCT (.nm i) d ρ ρ'
  | tu {l : List CT} {ds : List D} {ρ ρ' : Rho} : BCTs l ds ρ ρ' → BCT (.tu l) (.tuple ds) ρ ρ'
inductive BCTs : List CT → List D → Rho → Rho → Prop
  | nil {ρ : Rho} : BCTs [] [] ρ ρ
  | cons {c : CT} {cs : List CT} {d : D} {ds : List D} {ρ ρ1 ρ2 : Rho} : BCT c d ρ ρ1 → BCTs cs ds ρ1 ρ2 → BCTs (c :: cs) (d :: ds) ρ ρ2
end
mutual
theorem BCT.eq : ∀ {c : CT} {d : D} {ρ ρ' : Rho}, BCT c d ρ ρ' → bindCT c d ρ = some ρ'
  | _, _, _, _, .nm h => by
    obtain ⟨h1, t, h2, h3⟩ := h.eq
    unfold bindCT; rw [h2]; dsimp only; rw [if_pos h3, h1]
  | _, _, _, _, .tu h => by unfold bindCT; exact BCTs.eq h
theorem BCTs.eq : ∀ {c : List CT} {d : List D} {ρ ρ' : Rho}, BCTs c d ρ ρ' → bindCTs c d ρ = some ρ'
  | _, _, _, _, .nil => by unfold bindCTs; rfl
  | _, _, _, _, .cons h t => by unfold bindCTs; rw [BCT.eq h, Option.bind_some]; exact BCTs.eq t
end
def AsgK (c : CT) (d : D) (ρ : Rho) (Q : OS → Prop) : Prop := ∃ ρ', bindCT c d ρ = some ρ' ∧ Q (.nx ρ')
theorem asgk {c : CT} (h : BCT c d ρ ρ') (g : Q (.nx ρ')) : AsgK c d ρ Q := ⟨ρ', h.eq, g⟩
theorem s_asg {c : CT} {m : M} (h : RG m ρ fun r ρ1 => DatK r fun d => AsgK c d ρ1 Q) : RS (mAsg c m) ρ Q :=
  ⟨RG.bindS (h.imp fun r ρ1 ⟨ρ2, h1, h2⟩ => by rw [h1]; exact h2)⟩
def SubK (i : Nat) (r : D) (x : Hd) (ρ : Rho) (Q : OS → Prop) : Prop := ∃ ds j n, lsAt ρ i = some ds ∧ x.res ρ = some (.int j) ∧ ixN ds.length j = some n ∧ Q (.nx (putLs ρ i (ds.set n r)))
theorem subk {x : Hd} {f : List D → Rho} {j : Int} {n : Nat} (h1 : LAt ρ i ds f) (h2 : Res x ρ (.int j)) (h3 : ixN ds.length j = some n) (h4 : Q (.nx (f (ds.set n d)))) : SubK i d x ρ Q := ⟨ds, j, n, h1.eq.1, h2.eq, h3, by rw [h1.eq.2]; exact h4⟩
def SubK0 (i : Nat) (k : Opd) (d : D) (ρ : Rho) (Q : OS → Prop) : Prop := ∃ ds, lsAt ρ i = some ds ∧ RG k.ev ρ fun x ρ1 => SubK i d x ρ1 Q
theorem subk0 {k : Opd} {f : List D → Rho} (h1 : LAt ρ i ds f) (h : RG k.ev ρ fun x ρ1 => SubK i d x ρ1 Q) : SubK0 i k d ρ Q := ⟨ds, h1.eq.1, h⟩
theorem s_sub {k : Opd} {m : M} (h : RG m ρ fun r ρ1 => DatK r fun d => SubK0 i k d ρ1 Q) : RS (mSub i k m) ρ Q :=
  ⟨RG.bindS (h.imp fun r ρ1 ⟨ds, h1, h2⟩ => by
    rw [h1]
    exact RG.bindS (h2.imp fun x ρ2 ⟨ds, j, n, z1, z2, z3, z4⟩ => by rw [z1, z2]; dsimp only; rw [z3]; exact z4))⟩
theorem s_par {a b : M} (h : RG a ρ fun r ρ1 => SlK r fun s => RG b ρ1 fun t ρ2 => SlK t fun u => ∃ ρ3, FPut i s ρ2 ρ3 ∧ StK j u ρ3 Q) : RS (mPar i j a b) ρ Q :=
  ⟨RG.bindS (h.imp fun r ρ1 h1 => RG.bindS (RG.imp h1.out fun t ρ2 ⟨ρ3, h2, ρ4, h3, h4⟩ => by
    obtain ⟨z1, u, z2, z3⟩ := h2.eq
    rw [z2]
    dsimp only
    rw [if_pos z3, z1, h3]
    exact h4))⟩
theorem park {B : Rho → Prop} {s : Sl} {ρ3 : Rho} (h : FPut i s ρ ρ3) (g : B ρ3) : ∃ ρ3, FPut i s ρ ρ3 ∧ B ρ3 := ⟨ρ3, h, g⟩
/-! what is forgotten -/
inductive Fg1 : Nat → Rho → Rho → Prop
  | u {ρ : List Sl} : Fg1 0 (.un :: ρ) (.un :: ρ)
  | v {d : D} {ρ : List Sl} : Fg1 0 (.val d :: ρ) (.un :: ρ)
  | o {c : Oc} {ρ : List Sl} : Fg1 0 (.own c :: ρ) (.un :: ρ)
  | s {i : Nat} {t : Sl} {ρ ρ' : List Sl} : Fg1 i ρ ρ' → Fg1 (i + 1) (t :: ρ) (t :: ρ')
theorem Fg1.eq : ∀ {i : Nat} {ρ ρ' : Rho}, Fg1 i ρ ρ' → forget1 i ρ = ρ'
  | _, _, _, .u => rfl
  | _, _, _, .v => rfl
  | _, _, _, .o => rfl
  | _, _, _, .s (i := i) (ρ := ρ) h => by
    have z := h.eq
    unfold forget1 at z ⊢
    rw [List.getElem?_cons_succ]
    cases hr : ρ[i]? with
    | none => rw [hr] at z; dsimp only at z ⊢; rw [z]
    | some s =>
      rw [hr] at z
      dsimp only at z ⊢
      split
      · rename_i q; rw [if_pos q] at z; rw [List.set_cons_succ, z]
      · rename_i q; rw [if_neg q] at z; rw [z]
inductive Fgs : List Nat → Rho → Rho → Prop
  | nil {ρ : Rho} : Fgs [] ρ ρ
  | cons {i : Nat} {is : List Nat} {ρ ρ1 ρ2 : Rho} : Fg1 i ρ ρ1 → Fgs is ρ1 ρ2 → Fgs (i :: is) ρ ρ2
theorem Fgs.eq : ∀ {is : List Nat} {ρ ρ' : Rho}, Fgs is ρ ρ' → forget is ρ = ρ'
  | _, _, _, .nil => rfl
  | _, _, _, .cons h t => by unfold forget; rw [h.eq]; exact t.eq
def fgO (fs : List Nat) : OS → OS
  | .nx ρ => .nx (forget fs ρ)
  | .ct ρ => .ct (forget fs ρ)
  | o => o
structure KF (fs : List Nat) (Q : OS → Prop) (o : OS) : Prop where
  out : Q (fgO fs o)
theorem kf_nx {fs : List Nat} (h : Fgs fs ρ ρ') (g : Q (.nx ρ')) : KF fs Q (.nx ρ) := ⟨by show Q (.nx (forget fs ρ)); rw [h.eq]; exact g⟩
theorem kf_ct {fs : List Nat} (h : Fgs fs ρ ρ') (g : Q (.ct ρ')) : KF fs Q (.ct ρ) := ⟨by show Q (.ct (forget fs ρ)); rw [h.eq]; exact g⟩
theorem kf_rt {fs : List Nat} (g : Q (.rt r ρ)) : KF fs Q (.rt r ρ) := ⟨g⟩
theorem kf_bk {fs : List Nat} (g : Q (.bk ρ)) : KF fs Q (.bk ρ) := ⟨g⟩
theorem s_fg {fs : List Nat} {m : MS} (h : RS m ρ (KF fs Q)) : RS (mFg fs m) ρ Q := by
  have h := h.out.out
  refine ⟨?_⟩
  unfold mFg
  cases hm : m ρ <;> (rw [hm] at h; exact h)
/-! loops -/
structure ForK (c : CT) (b : MS) (ds : List D) (ρ : Rho) (Q : OS → Prop) : Prop where
  out : Q (forD c b ds ρ)
theorem s_for {mi : MI} {c : CT} {b : MS} (h : RG mi ρ fun ds ρ1 => ForK c b ds ρ1 Q) : RS (mFor mi c b) ρ Q := ⟨RG.bindS (h.imp fun _ _ q => q.out)⟩
theorem forK {c : CT} {b : MS} {o : OS} (h : forD c b ds ρ = o) (g : Q o) : ForK c b ds ρ Q := ⟨by rw [h]; exact g⟩
/-- a turn goes on -/
def QN (P : Rho → Prop) : OS → Prop
  | .nx ρ => P ρ
  | .ct ρ => P ρ
  | _ => False
theorem qn_nx {P : Rho → Prop} (h : P ρ) : QN P (.nx ρ) := h
theorem qn_ct {P : Rho → Prop} (h : P ρ) : QN P (.ct ρ) := h
/-- a for loop by an invariant over what has been walked -/
theorem for_inv {β : Type} {c : CT} {b : MS} (enc : β → D) (P : List β → Rho → Prop) {xs : List β} {ρ : Rho} (h0 : P [] ρ)
    (hs : ∀ pre x suf ρ, xs = pre ++ x :: suf → P pre ρ → ∃ ρ1, BCT c (enc x) ρ ρ1 ∧ RS b ρ1 (QN (P (pre ++ [x])))) : ∃ ρ', forD c b (xs.map enc) ρ = .nx ρ' ∧ P xs ρ' := by
  have go : ∀ (suf pre : List β) (ρ : Rho), xs = pre ++ suf → P pre ρ → ∃ ρ', forD c b (suf.map enc) ρ = .nx ρ' ∧ P xs ρ' := by
    intro suf
    induction suf with
    | nil => intro pre ρ e p; rw [List.append_nil] at e; subst e; exact ⟨ρ, rfl, p⟩
    | cons x suf ih =>
      intro pre ρ e p
      obtain ⟨ρ1, h1, h3⟩ := hs pre x suf ρ e p
      rw [List.map_cons, forD, h1.eq]
      dsimp only
      have h3 := h3.out
      cases hb : b ρ1 with
      | nx ρ2 => rw [hb] at h3; exact ih (pre ++ [x]) ρ2 (by rw [e]; simp) h3
      | ct ρ2 => rw [hb] at h3; exact ih (pre ++ [x]) ρ2 (by rw [e]; simp) h3
      | rt _ _ => rw [hb] at h3; exact h3.elim
      | bk _ => rw [hb] at h3; exact h3.elim
      | exc _ _ => rw [hb] at h3; exact h3.elim
      | bad => rw [hb] at h3; exact h3.elim
  exact go xs [] ρ rfl h0
/-- .. whose state is told by what has been walked -/
theorem for_pre {β : Type} {c : CT} {b : MS} (enc : β → D) (R : List β → Rho) (xs : List β) (h : ∀ pre x suf, xs = pre ++ x :: suf → ∃ ρ1, BCT c (enc x) (R pre) ρ1 ∧ RS b ρ1 (QN (· = R (pre ++ [x])))) : forD c b (xs.map enc) (R []) = .nx (R xs) := by
  obtain ⟨ρ', h1, h2⟩ := for_inv (c := c) (b := b) enc (fun pre ρ => ρ = R pre) (xs := xs) (ρ := R []) rfl fun pre x suf ρ e hp => by subst hp; exact h pre x suf e
  rw [h1, h2]
/-- .. one that may end the def -/
def QR (P : Rho → Prop) (R : Rv → Rho → Prop) : OS → Prop
  | .nx ρ => P ρ
  | .ct ρ => P ρ
  | .rt r ρ => R r ρ
  | _ => False
theorem qr_nx {P : Rho → Prop} {R : Rv → Rho → Prop} (h : P ρ) : QR P R (.nx ρ) := h
theorem qr_ct {P : Rho → Prop} {R : Rv → Rho → Prop} (h : P ρ) : QR P R (.ct ρ) := h
theorem qr_rt {P : Rho → Prop} {R : Rv → Rho → Prop} (h : R r ρ) : QR P R (.rt r ρ) := h
theorem for_ret {β : Type} {c : CT} {b : MS} (enc : β → D) (P : List β → Rho → Prop) (R : Rv → Rho → Prop) {xs : List β} {ρ : Rho} (h0 : P [] ρ)
    (hs : ∀ pre x suf ρ, xs = pre ++ x :: suf → P pre ρ → ∃ ρ1, BCT c (enc x) ρ ρ1 ∧ RS b ρ1 (QR (P (pre ++ [x])) R)) : (∃ ρ', forD c b (xs.map enc) ρ = .nx ρ' ∧ P xs ρ') ∨ ∃ r ρ', forD c b (xs.map enc) ρ = .rt r ρ' ∧ R r ρ' := by
  have go : ∀ (suf pre : List β) (ρ : Rho), xs = pre ++ suf → P pre ρ → (∃ ρ', forD c b (suf.map enc) ρ = .nx ρ' ∧ P xs ρ') ∨ ∃ r ρ', forD c b (suf.map enc) ρ = .rt r ρ' ∧ R r ρ' := by
    intro suf
    induction suf with
    | nil => intro pre ρ e p; rw [List.append_nil] at e; subst e; exact .inl ⟨ρ, rfl, p⟩
    | cons x suf ih =>
      intro pre ρ e p
      obtain ⟨ρ1, h1, h3⟩ := hs pre x suf ρ e p
      rw [List.map_cons, forD, h1.eq]
      dsimp only
      have h3 := h3.out
      cases hb : b ρ1 with
      | nx ρ2 => rw [hb] at h3; exact ih (pre ++ [x]) ρ2 (by rw [e]; simp) h3
      | ct ρ2 => rw [hb] at h3; exact ih (pre ++ [x]) ρ2 (by rw [e]; simp) h3
      | rt r ρ2 => rw [hb] at h3; exact .inr ⟨r, ρ2, rfl, h3⟩
      | bk _ => rw [hb] at h3; exact h3.elim
      | exc _ _ => rw [hb] at h3; exact h3.elim
      | bad => rw [hb] at h3; exact h3.elim
  exact go xs [] ρ rfl h0
/-! a def -/
def endD : OS → DR
  | .nx ρ => .ok (.val .none) (ioR ρ)
  | .rt r ρ => .ok r (ioR ρ)
  | .exc x ρ => .exc x (ioR ρ)
  | _ => .bad
structure QD (P : DR → Prop) (o : OS) : Prop where
  out : P (endD o)
theorem fnD_of {n : Nat} {m : MS} {as : List Ar} {P : DR → Prop} (h : RS m (startR n as) (QD P)) : P (fnD n m as) := by
  unfold fnD
  have h := h.out.out
  cases hm : m (startR n as) <;> (rw [hm] at h; exact h)
theorem ioR_free' {s : Sl} {ρ : Rho} (h : s.free = true) : ioR (s :: ρ) = ioR ρ := by cases s <;> first | rfl | cases h
inductive IoR : Rho → Option Oc → Prop
  | nil : IoR [] none
  | io {c : Oc} {ρ : List Sl} : IoR (.io c :: ρ) (some c)
  | un {ρ : List Sl} {c : Option Oc} : IoR ρ c → IoR (.un :: ρ) c
  | val {d : D} {ρ : List Sl} {c : Option Oc} : IoR ρ c → IoR (.val d :: ρ) c
  | own {o : Oc} {ρ : List Sl} {c : Option Oc} : IoR ρ c → IoR (.own o :: ρ) c
  | fz {ns : List Int} {ρ : List Sl} {c : Option Oc} : IoR ρ c → IoR (.fz ns :: ρ) c
  | fr {s : Sl} {ρ : List Sl} {c : Option Oc} : s.free = true → IoR ρ c → IoR (s :: ρ) c
theorem IoR.eq : ∀ {ρ : Rho} {c : Option Oc}, IoR ρ c → ioR ρ = c
  | _, _, .nil => rfl
  | _, _, .io => rfl
  | _, _, .un h => h.eq
  | _, _, .val h => h.eq
  | _, _, .own h => h.eq
  | _, _, .fz h => h.eq
  | _, _, .fr hs h => (ioR_free' hs).trans h.eq
theorem qd_rt {P : DR → Prop} {r : Rv} {c : Option Oc} (h : IoR ρ c) (g : P (.ok r c)) : QD P (.rt r ρ) := ⟨by show P (.ok r (ioR ρ)); rw [h.eq]; exact g⟩
theorem qd_nx {P : DR → Prop} {c : Option Oc} (h : IoR ρ c) (g : P (.ok (.val .none) c)) : QD P (.nx ρ) := ⟨by show P (.ok _ (ioR ρ)); rw [h.eq]; exact g⟩
/-- what a def hands back, as a statement that a caller uses -/
def FR (f : FD) (as : List Ar) (P : Rv → Option Oc → Prop) : Prop := ∃ r c, f as = .ok r c ∧ P r c
theorem fr_of {n : Nat} {m : MS} {as : List Ar} {P : Rv → Option Oc → Prop} (h : RS m (startR n as) (QD fun o => ∃ r c, o = .ok r c ∧ P r c)) : FR (fnD n m) as P := fnD_of (P := fun o => ∃ r c, o = .ok r c ∧ P r c) h
theorem fe_of {n : Nat} {m : MS} {as : List Ar} {r : Rv} {c : Option Oc} (h : RS m (startR n as) (QD (· = .ok r c))) : fnD n m as = .ok r c := fnD_of (P := (· = .ok r c)) h
end
end DL
set_option Elab.async false
set_option linter.all false
set_option maxRecDepth 100000
set_option maxHeartbeats 1000000
namespace DL
open PySem PySem.Spec PyProof.Rows L2 RT
theorem fits_of {n : Nat} (h : n ≤ 16777216) : Fits n := sz_le h
theorem fits1_of {n : Nat} (h : n < 16777216) : Fits1 n := sz_lt h
theorem oo_add (i j : Int) : Op2 fAdd (.int i) (.int j) (.val (.int (i + j))) := rfl
theorem oo_addT {a b : List D} (h : Fits (a.length + b.length)) : Op2 fAdd (.tuple a) (.tuple b) (.val (.tuple (a ++ b))) := fAdd_tup h
theorem oo_addL {a b : List D} (h : Fits (a.length + b.length)) : Op2 fAdd (.list a) (.list b) (.own (.ls (a ++ b))) := fAdd_list h
theorem oo_sub (i j : Int) : Op2 fSub (.int i) (.int j) (.val (.int (i - j))) := rfl
theorem oo_augI (i j : Int) : Op2 (fOr fAddI fAddS) (.int i) (.int j) (.val (.int (i + j))) := rfl
def MulOk (i j : Int) : Prop := cMul i j = true
theorem mulOk_r {i j : Int} (h1 : -(2 ^ 64) < j) (h2 : j < 2 ^ 64) : MulOk i j := cMul_r h1 h2
theorem mulOk_l {i j : Int} (h1 : -(2 ^ 64) < i) (h2 : i < 2 ^ 64) : MulOk i j := cMul_l h1 h2
theorem oo_mul {i j : Int} (h : MulOk i j) : Op2 fMul (.int i) (.int j) (.val (.int (i * j))) := fMul_int h
theorem oo_mulI {i j : Int} (h : MulOk i j) : Op2 fMulI (.int i) (.int j) (.val (.int (i * j))) := fMulI_int h
def DivOk (j : Int) : Prop := 0 < j ∧ j < 1073741824
theorem oo_div {i j : Int} (h : DivOk j) : Op2 (fOr fDivP fDivN) (.int i) (.int j) (.val (.int (i / j))) := fDiv_int h.1 h.2
theorem oo_divP {i j : Int} (h : DivOk j) : Op2 fDivP (.int i) (.int j) (.val (.int (i / j))) := fDivP_int h.1 h.2
def Pos (j : Int) : Prop := 0 < j
theorem oo_mod {i j : Int} (h : Pos j) : Op2 (fOr fModP fModN) (.int i) (.int j) (.val (.int (i % j))) := fMod_int h
theorem oo_lt (i j : Int) : Op2 fLt (.int i) (.int j) (.val (.bool (decide (i < j)))) := rfl
theorem oo_le (i j : Int) : Op2 fLe (.int i) (.int j) (.val (.bool (decide (i ≤ j)))) := rfl
theorem oo_gt (i j : Int) : Op2 fGt (.int i) (.int j) (.val (.bool (decide (j < i)))) := rfl
theorem oo_ge (i j : Int) : Op2 fGe (.int i) (.int j) (.val (.bool (decide (j ≤ i)))) := rfl
theorem oo_eq (i j : Int) : Op2 fEq (.int i) (.int j) (.val (.bool (decide (i = j)))) := rfl
theorem oo_ne (i j : Int) : Op2 fNe (.int i) (.int j) (.val (.bool (!decide (i = j)))) := rfl
theorem oo_eqS (i j : Str) : Op2 fEq (.str i) (.str j) (.val (.bool (decide (i = j)))) := rfl
theorem oo_neS (i j : Str) : Op2 fNe (.str i) (.str j) (.val (.bool (!decide (i = j)))) := rfl
theorem oo_neg (i : Int) : Op1 fNeg (.int i) (.val (.int (-i))) := rfl
theorem oo_lenL (ds : List D) : Op1 gLen (.list ds) (.val (.int ds.length)) := rfl
theorem oo_lenT (ds : List D) : Op1 gLen (.tuple ds) (.val (.int ds.length)) := rfl
theorem oo_int (i : Int) : Op1 gInt (.int i) (.val (.int i)) := rfl
theorem oo_intB (b : Bool) : Op1 gInt (.bool b) (.val (.int (if b then 1 else 0))) := rfl
theorem oo_max (i j : Int) : Op2 gMax2 (.int i) (.int j) (.val (.int (if j > i then j else i))) := rfl
theorem oo_min (i j : Int) : Op2 gMin2 (.int i) (.int j) (.val (.int (if j < i then j else i))) := rfl
theorem oo_listL (ds : List D) : Op1 gList (.list ds) (.own (.ls ds)) := rfl
theorem oo_listT (ds : List D) : Op1 gList (.tuple ds) (.own (.ls ds)) := rfl
theorem oo_tupL (ds : List D) : Op1 gTup (.list ds) (.val (.tuple ds)) := rfl
theorem oo_tupT (ds : List D) : Op1 gTup (.tuple ds) (.val (.tuple ds)) := rfl
theorem oo_abs (i : Int) : Op1 gAbs (.int i) (.val (.int (if i < 0 then -i else i))) := rfl
theorem oo_rev (ds : List D) : Op1 gRev (.list ds) (.own (.ls ds.reverse)) := rfl
theorem oo_sumL {ds : List D} {ns : List Int} (h : intsD ds = some ns) : Op1 gSumA (.list ds) (.val (.int ns.sum)) := by unfold Op1 gSumA; dsimp only; rw [h]; rfl
theorem oo_sumT {ds : List D} {ns : List Int} (h : intsD ds = some ns) : Op1 gSumA (.tuple ds) (.val (.int ns.sum)) := by unfold Op1 gSumA; dsimp only; rw [h]; rfl
theorem oo_divmod {i j : Int} (h : DivOk j) : Op2 gDivmod (.int i) (.int j) (.val (.tuple [.int (i / j), .int (i % j)])) := by unfold Op2 gDivmod; dsimp only; rw [if_pos (cDiv_of h.1 h.2)]
theorem oo_gcd (i j : Int) : Op2 gGcd (.int i) (.int j) (.val (.int ((Nat.gcd i.natAbs j.natAbs : Nat) : Int))) := rfl
def IxAt (ds : List D) (i : Int) (d : D) : Prop := atI ds i = some d
theorem oo_ixL {ds : List D} {i : Int} {d : D} (h : IxAt ds i d) : Op2 fIx (.list ds) (.int i) (.val d) := by unfold Op2 fIx; dsimp only; rw [show atI ds i = some d from h]; rfl
theorem oo_ixT {ds : List D} {i : Int} {d : D} (h : IxAt ds i d) : Op2 fIx (.tuple ds) (.int i) (.val d) := by unfold Op2 fIx; dsimp only; rw [show atI ds i = some d from h]; rfl
theorem atI_nat {α : Type} {xs : List α} {i : Int} {n : Nat} {x : α} (h : i = (n : Int)) (g : xs[n]? = some x) : atI xs i = some x := by
  subst h
  have hn : n < xs.length := (List.getElem?_eq_some_iff.mp g).1
  unfold atI ixN
  rw [if_pos (by omega), if_pos (by omega)]
  simpa using g
theorem atI_neg {α : Type} {xs : List α} {i : Int} {n : Nat} {x : α} (h : i + (xs.length : Int) = (n : Int)) (hi : i < 0) (g : xs[n]? = some x) : atI xs i = some x := by
  have hn : n < xs.length := (List.getElem?_eq_some_iff.mp g).1
  unfold atI ixN
  rw [if_neg (by omega), if_pos (by omega), h]
  simpa using g
theorem ix0 {d : D} {ds : List D} : IxAt (d :: ds) 0 d := atI_nat (n := 0) rfl rfl
theorem ix1 {a d : D} {ds : List D} : IxAt (a :: d :: ds) 1 d := atI_nat (n := 1) rfl rfl
theorem ix2 {a b d : D} {ds : List D} : IxAt (a :: b :: d :: ds) 2 d := atI_nat (n := 2) rfl rfl
theorem ix3 {a b c d : D} {ds : List D} : IxAt (a :: b :: c :: d :: ds) 3 d := atI_nat (n := 3) rfl rfl
theorem ix4 {a b c e d : D} {ds : List D} : IxAt (a :: b :: c :: e :: d :: ds) 4 d := atI_nat (n := 4) rfl rfl
theorem ixm1 {ds : List D} {d : D} : IxAt (ds ++ [d]) (-1) d := atI_neg (n := ds.length) (by simp; omega) (by decide) (by simp)
theorem ixm1' {ds : List D} {d : D} : IxAt (ds ++ [d]) (-(1 : Int)) d := ixm1
theorem ixN_nat {n i : Nat} (h : i < n) : ixN n (i : Int) = some i := by unfold ixN; rw [if_pos (by omega), if_pos (by omega)]; simp
theorem ixAt_map {β : Type} {enc : β → D} {xs : List β} {i : Int} {n : Nat} {x : β} (h : i = (n : Int)) (g : xs[n]? = some x) : IxAt (xs.map enc) i (enc x) := atI_nat h (by rw [List.getElem?_map, g]; rfl)
theorem oo_pow18 : Op2 fPow (.int 10) (.int 18) (.val (.int 1000000000000000000)) := by unfold Op2 fPow fI; rfl
/-! ranges -/
def rng (lo hi : Int) : List Int := (List.range (hi - lo).toNat).map fun k => lo + (k : Nat)
theorem mem_rng {lo hi x : Int} : x ∈ rng lo hi ↔ lo ≤ x ∧ x < hi := by
  unfold rng
  simp only [List.mem_map, List.mem_range]
  constructor
  · rintro ⟨k, h1, rfl⟩; omega
  · rintro ⟨h1, h2⟩; exact ⟨(x - lo).toNat, by omega, by omega⟩
theorem rng_len (lo hi : Int) : (rng lo hi).length = (hi - lo).toNat := by unfold rng; simp
theorem rngD_map (lo : Int) (n : Nat) : rngD lo n = ((List.range n).map fun (k : Nat) => lo + (k : Int)).map PyData.int := by
  unfold rngD; rw [List.map_map]; rfl
theorem rng_map (lo hi : Int) : rngD lo (hi - lo).toNat = (rng lo hi).map PyData.int := rngD_map _ _
theorem inR_of {j : Int} (h1 : -(2 ^ 62) < j) (h2 : j < 2 ^ 62) : inR j = true := leN_iff.mpr (by omega)
def InR (j : Int) : Prop := -(2 ^ 62) < j ∧ j < 2 ^ 62
theorem opl_r1 {j : Int} (h : InR j) : OpL gR1 [.int j] ((rng 0 j).map PyData.int) := by
  unfold OpL gR1
  simp only [inR_of h.1 h.2, if_true]
  rw [← rng_map, Int.sub_zero]
theorem opl_r2 {i j : Int} (h : InR i) (g : InR j) : OpL gR2 [.int i, .int j] ((rng i j).map PyData.int) := by
  unfold OpL gR2
  simp only [inR_of h.1 h.2, inR_of g.1 g.2, Bool.and_self, if_true]
  rw [← rng_map]
theorem rng_split {lo hi x : Int} {pre suf : List Int} (h : rng lo hi = pre ++ x :: suf) : x = lo + (pre.length : Int) ∧ lo + (pre.length : Int) < hi := by
  have h1 : (rng lo hi)[pre.length]? = some x := by rw [h]; simp
  have h2 : pre.length < (rng lo hi).length := (List.getElem?_eq_some_iff.mp h1).1
  rw [rng_len] at h2
  unfold rng at h1
  rw [List.getElem?_map, List.getElem?_range (by omega)] at h1
  simp at h1
  omega
theorem opl_zip2 {d e : D} {ds es : List D} (h : It d ds) (g : It e es) : OpL gZip2 [d, e] (zip2D ds es) := by unfold OpL gZip2; dsimp only; rw [h.eq, g.eq]; rfl
theorem opl_zip3 {d e f : D} {ds es fs : List D} (h : It d ds) (g : It e es) (k : It f fs) : OpL gZip3 [d, e, f] (zip3D ds es fs) := by unfold OpL gZip3; dsimp only; rw [h.eq, g.eq, k.eq]; rfl
theorem opl_enum {d : D} {ds : List D} (h : It d ds) : OpL gEnum [d] (enumD 0 ds) := by unfold OpL gEnum; dsimp only; rw [h.eq]; rfl
theorem zip2_map {α β : Type} (f : α → D) (g : β → D) : ∀ (xs : List α) (ys : List β), zip2D (xs.map f) (ys.map g) = (xs.zip ys).map fun p => .tuple [f p.1, g p.2]
  | [], _ => by simp [zip2D]
  | _ :: _, [] => by simp [zip2D]
  | x :: xs, y :: ys => by simp [zip2D, zip2_map f g xs ys]
theorem zip3_map {α β γ : Type} (f : α → D) (g : β → D) (h : γ → D) : ∀ (xs : List α) (ys : List β) (zs : List γ), zip3D (xs.map f) (ys.map g) (zs.map h) = (xs.zip (ys.zip zs)).map fun p => .tuple [f p.1, g p.2.1, h p.2.2]
  | [], _, _ => by simp [zip3D]
  | _ :: _, [], _ => by simp [zip3D]
  | _ :: _, _ :: _, [] => by simp [zip3D]
  | x :: xs, y :: ys, z :: zs => by simp [zip3D, zip3_map f g h xs ys zs]
theorem enum_map {α : Type} (f : α → D) : ∀ (xs : List α) (i : Nat), enumD i (xs.map f) = (xs.zipIdx i).map fun p => .tuple [.int (p.2 : Int), f p.1]
  | [], _ => rfl
  | x :: xs, i => by simp [enumD, enum_map f xs (i + 1), List.zipIdx_cons]
theorem ifk_sy {x y : Str} {A B : Prop} (h : x = y) (h1 : A) : IfK (decide (x = y)) A B := ifk_y h h1
theorem ifk_sn {x y : Str} {A B : Prop} (h : x ≠ y) (h1 : B) : IfK (decide (x = y)) A B := ifk_n h h1
/-! a comprehension by what has been walked -/
theorem lc_pre {β : Type} {vs : List Nat} {c : CT} {t : MT} {m : M} (enc : β → D) (R : List β → Rho) (p : β → Bool) (g : β → D) (xs : List β)
    (h : ∀ pre x suf, xs = pre ++ x :: suf → ∃ ρ1, BCT c (enc x) (R pre) ρ1 ∧ RG t ρ1 fun b ρ2 => b = p x ∧ IfK b (RG m ρ2 fun r ρ3 => r.dat = g x ∧ UnR vs ρ3 (R (pre ++ [x]))) (UnR vs ρ2 (R (pre ++ [x])))) :
    lcD vs c t m (xs.map enc) (R []) = .ok ((xs.filter p).map g) (R xs) := by
  have go : ∀ (suf pre : List β), xs = pre ++ suf → lcD vs c t m (suf.map enc) (R pre) = .ok ((suf.filter p).map g) (R xs) := by
    intro suf
    induction suf with
    | nil => intro pre e; rw [List.append_nil] at e; subst e; rfl
    | cons x suf ih =>
      intro pre e
      obtain ⟨ρ1, h1, b, ρ2, h2, h3, h4⟩ := h pre x suf e
      subst h3
      have ih := ih (pre ++ [x]) (by rw [e]; simp)
      rw [List.map_cons, lcD, h1.eq]
      dsimp only
      rw [h2]
      simp only [Out.nox, Out.bind]
      cases hp : p x with
      | true =>
        rw [hp] at h4
        obtain ⟨r, ρ3, h5, h6, h7⟩ := h4.t
        simp only [if_true, h5, Out.nox, Out.bind, h7.eq, ih, h6]
        rw [List.filter_cons_of_pos hp, List.map_cons]
      | false =>
        rw [hp] at h4
        have h4 : UnR vs ρ2 (R (pre ++ [x])) := h4.f
        simp only [Bool.false_eq_true, if_false, h4.eq, ih]
        rw [List.filter_cons_of_neg (by rw [hp]; exact Bool.false_ne_true)]
  exact go xs [] rfl
/-- .. whose state changes, whose turns tell what they give -/
theorem lc_inv {β : Type} {vs : List Nat} {c : CT} {t : MT} {m : M} (enc : β → D) (P : List β → List D → Rho → Prop) {xs : List β} {ρ : Rho} (h0 : P [] [] ρ)
    (h : ∀ pre x suf ds ρ, xs = pre ++ x :: suf → P pre ds ρ → ∃ ρ1, BCT c (enc x) ρ ρ1 ∧ RG t ρ1 fun b ρ2 => IfK b (RG m ρ2 fun r ρ3 => ∃ ρ4, UnR vs ρ3 ρ4 ∧ P (pre ++ [x]) (ds ++ [r.dat]) ρ4) (∃ ρ4, UnR vs ρ2 ρ4 ∧ P (pre ++ [x]) ds ρ4)) :
    ∃ ds ρ', lcD vs c t m (xs.map enc) ρ = .ok ds ρ' ∧ P xs ds ρ' := by
  have go : ∀ (suf pre : List β) (acc : List D) (ρ : Rho), xs = pre ++ suf → P pre acc ρ → ∃ ds ρ', lcD vs c t m (suf.map enc) ρ = .ok ds ρ' ∧ P xs (acc ++ ds) ρ' := by
    intro suf
    induction suf with
    | nil => intro pre acc ρ e p; rw [List.append_nil] at e; subst e; exact ⟨[], ρ, rfl, by rw [List.append_nil]; exact p⟩
    | cons x suf ih =>
      intro pre acc ρ e p
      obtain ⟨ρ1, h1, b, ρ2, h2, h4⟩ := h pre x suf acc ρ e p
      rw [List.map_cons, lcD, h1.eq]
      dsimp only
      rw [h2]
      simp only [Out.nox, Out.bind]
      cases b with
      | true =>
        obtain ⟨r, ρ3, h5, ρ4, h7, h8⟩ := h4.t
        obtain ⟨ds, ρ', z1, z2⟩ := ih (pre ++ [x]) (acc ++ [r.dat]) ρ4 (by rw [e]; simp) h8
        refine ⟨r.dat :: ds, ρ', ?_, by rw [List.append_assoc] at z2; exact z2⟩
        simp only [if_true, h5, Out.nox, Out.bind, h7.eq, z1]
      | false =>
        obtain ⟨ρ4, h7, h8⟩ := h4.f
        obtain ⟨ds, ρ', z1, z2⟩ := ih (pre ++ [x]) acc ρ4 (by rw [e]; simp) h8
        refine ⟨ds, ρ', ?_, z2⟩
        simp only [Bool.false_eq_true, if_false, h7.eq, z1]
  obtain ⟨ds, ρ', h1, h2⟩ := go xs [] [] ρ rfl h0
  exact ⟨ds, ρ', h1, h2⟩
/-! while -/
theorem wh_inv {t : MT} {b : MS} (P : Nat → Rho → Prop) (R : Rho → Prop) : ∀ (n : Nat) (f : Nat) (ρ : Rho), n < f → P n ρ →
    (∀ n ρ, P n ρ → RG t ρ fun x ρ1 => IfK x (RS b ρ1 (QN fun ρ2 => ∃ k, k < n ∧ P k ρ2)) (R ρ1)) → ∃ ρ', whD t b f ρ = .nx ρ' ∧ R ρ'
  | n, 0, _, hl, _, _ => absurd hl (Nat.not_lt_zero _)
  | n, f + 1, ρ, hl, hp, hs => by
    obtain ⟨x, ρ1, h1, h2⟩ := hs n ρ hp
    unfold whD
    rw [h1]
    cases x with
    | false => exact ⟨ρ1, rfl, h2.f⟩
    | true =>
      have h2 := h2.t.out
      show ∃ ρ', loopR (b ρ1) (whD t b f) = .nx ρ' ∧ R ρ'
      cases hb : b ρ1 with
      | nx ρ2 => rw [hb] at h2; obtain ⟨k, hk, h3⟩ := h2; exact wh_inv P R k f ρ2 (by omega) h3 hs
      | ct ρ2 => rw [hb] at h2; obtain ⟨k, hk, h3⟩ := h2; exact wh_inv P R k f ρ2 (by omega) h3 hs
      | rt _ _ => rw [hb] at h2; exact h2.elim
      | bk _ => rw [hb] at h2; exact h2.elim
      | exc _ _ => rw [hb] at h2; exact h2.elim
      | bad => rw [hb] at h2; exact h2.elim
theorem s_wh {F : Rho → Nat} {t : MT} {b : MS} {ρ : Rho} {Q : OS → Prop} {o : OS} (h : whD t b (F ρ) ρ = o) (g : Q o) : RS (mWh F t b) ρ Q := ⟨by unfold mWh; rw [h]; exact g⟩
theorem oo_isT {T : String} {d : D} {b : Bool} (h : isT T d = some b) : Op1 (fun d => (isT T d).map fun b => .val (.bool b)) d (.val (.bool b)) := by unfold Op1; dsimp only; rw [h]; rfl
theorem g_isT {T : String} {a : Opd} {ρ : Rho} {P : Rv → Rho → Prop} (h : RG a.ev ρ fun x ρ1 => UnK (fun d => (isT T d).map fun b => .val (.bool b)) x ρ1 P) : RG (mIsT T a) ρ P := g_un h
theorem oo_repL {a : List D} {k : Int} (h : 0 ≤ k) (h2 : k ≤ 1000000) (h3 : Fits (a.length * k.toNat)) : Op2 fMul (.list a) (.int k) (.own (.ls (List.replicate k.toNat a).flatten)) := by
  unfold Op2 fMul fOr fMulI fI fRepL
  dsimp only
  rw [if_pos ⟨leN_iff.mpr (by omega), h3⟩]
theorem flatten_replicate {α : Type} (a : α) : ∀ n : Nat, (List.replicate n [a]).flatten = List.replicate n a
  | 0 => rfl
  | n + 1 => by rw [List.replicate_succ, List.flatten_cons, flatten_replicate a n]; rfl
theorem oo_rep1 {a : D} {k : Int} {n : Nat} (h : k = (n : Int)) (h2 : n ≤ 1000000) : Op2 fMul (.list [a]) (.int k) (.own (.ls (List.replicate n a))) := by
  subst h
  have z := oo_repL (a := [a]) (k := (n : Int)) (by omega) (by omega) (fits_of (by simp; omega))
  rw [Int.toNat_natCast, flatten_replicate] at z
  exact z
end DL
set_option Elab.async false
set_option linter.all false
set_option maxRecDepth 100000
set_option maxHeartbeats 1000000
namespace DL
open PySem PySem.Spec PyProof.Rows L2 RT
/-! ### data that stand for plain values -/
structure EO {β : Type} [DecidableEq β] (enc : β → D) (m : Nat) : Prop where
  lay : ∀ x, PyData.canLay0 (enc x) = true
  dep : ∀ x, PyData.depth (enc x) ≤ m
  eq : ∀ x y, PyData.eqv (enc x) (enc y) = decide (x = y)
  flat : ∀ x, flatD (enc x) = true
section
variable {β : Type} [DecidableEq β] {enc : β → D} {m : Nat}
theorem canLayAll_map (h : EO enc m) : ∀ (xs : List β), PyData.canLayAll0 (xs.map enc) = true
  | [] => by simp [PyData.canLayAll0]
  | x :: xs => by rw [List.map_cons, PyData.canLayAll0, h.lay x, canLayAll_map h xs]; rfl
theorem flatDs_map (h : EO enc m) : ∀ (xs : List β), flatDs (xs.map enc) = true
  | [] => by simp [flatDs]
  | x :: xs => by rw [List.map_cons, flatDs, h.flat x, flatDs_map h xs]; rfl
theorem depthAll_map (h : EO enc m) : ∀ (xs : List β), PyData.depthAll (xs.map enc) ≤ m
  | [] => by simp [PyData.depthAll]
  | x :: xs => by
    rw [List.map_cons, PyData.depthAll]
    have := h.dep x
    have := depthAll_map h xs
    omega
theorem eqvAll_map (h : EO enc m) : ∀ (xs ys : List β), PyData.eqvAll (xs.map enc) (ys.map enc) = decide (xs = ys)
  | [], [] => by simp [PyData.eqvAll]
  | [], _ :: _ => by simp [PyData.eqvAll]
  | _ :: _, [] => by simp [PyData.eqvAll]
  | x :: xs, y :: ys => by
    rw [List.map_cons, List.map_cons, PyData.eqvAll, h.eq, eqvAll_map h xs ys]
    by_cases h1 : x = y <;> by_cases h2 : xs = ys <;> simp [h1, h2]
theorem EO.int : EO PyData.int 0 := ⟨fun _ => by simp [PyData.canLay0], fun _ => by simp [PyData.depth], fun x y => by rw [PyData.eqv]; rfl, fun _ => by simp [flatD]⟩
theorem EO.tup (h : EO enc m) : EO (fun xs : List β => PyData.tuple (xs.map enc)) (m + 1) :=
  ⟨fun xs => by rw [PyData.canLay0]; exact canLayAll_map h xs, fun xs => by rw [PyData.depth]; have := depthAll_map h xs; omega, fun xs ys => by rw [PyData.eqv]; exact eqvAll_map h xs ys, fun xs => by rw [flatD]; exact flatDs_map h xs⟩
theorem EO.lst (h : EO enc m) : EO (fun xs : List β => PyData.list (xs.map enc)) (m + 1) :=
  ⟨fun xs => by rw [PyData.canLay0]; exact canLayAll_map h xs, fun xs => by rw [PyData.depth]; have := depthAll_map h xs; omega, fun xs ys => by rw [PyData.eqv]; exact eqvAll_map h xs ys, fun xs => by rw [flatD]; exact flatDs_map h xs⟩
theorem EO.shaped (h : EO enc m) (hm : m ≤ 64) (x : β) : SeqAt.shaped (enc x) = true := by
  unfold SeqAt.shaped
  rw [h.lay x, Bool.true_and]
  exact decide_eq_true (Nat.le_trans (h.dep x) hm)
theorem oo_eqL (h : EO enc m) (hm : m ≤ 63) (xs ys : List β) : Op2 fEq (.list (xs.map enc)) (.list (ys.map enc)) (.val (.bool (decide (xs = ys)))) := by
  have z := h.lst
  unfold Op2 fEq eqB
  rw [show eqS (.list (xs.map enc)) (.list (ys.map enc)) = none from rfl]
  dsimp only
  rw [z.shaped (by omega) xs, z.shaped (by omega) ys, z.eq]
  rfl
theorem oo_neL (h : EO enc m) (hm : m ≤ 63) (xs ys : List β) : Op2 fNe (.list (xs.map enc)) (.list (ys.map enc)) (.val (.bool (!decide (xs = ys)))) := by
  have z := h.lst
  unfold Op2 fNe eqB
  rw [show eqS (.list (xs.map enc)) (.list (ys.map enc)) = none from rfl]
  dsimp only
  rw [z.shaped (by omega) xs, z.shaped (by omega) ys, z.eq]
  rfl
theorem oo_eqT (h : EO enc m) (hm : m ≤ 63) (xs ys : List β) : Op2 fEq (.tuple (xs.map enc)) (.tuple (ys.map enc)) (.val (.bool (decide (xs = ys)))) := by
  have z := h.tup
  unfold Op2 fEq eqB
  rw [show eqS (.tuple (xs.map enc)) (.tuple (ys.map enc)) = none from rfl]
  dsimp only
  rw [z.shaped (by omega) xs, z.shaped (by omega) ys, z.eq]
  rfl
theorem oo_neT (h : EO enc m) (hm : m ≤ 63) (xs ys : List β) : Op2 fNe (.tuple (xs.map enc)) (.tuple (ys.map enc)) (.val (.bool (!decide (xs = ys)))) := by
  have z := h.tup
  unfold Op2 fNe eqB
  rw [show eqS (.tuple (xs.map enc)) (.tuple (ys.map enc)) = none from rfl]
  dsimp only
  rw [z.shaped (by omega) xs, z.shaped (by omega) ys, z.eq]
  rfl
theorem oo_eqLnil (h : EO enc m) (hm : m ≤ 63) (xs : List β) : Op2 fEq (.list (xs.map enc)) (.list []) (.val (.bool (decide (xs = [])))) := oo_eqL h hm xs []
theorem oo_neLnil (h : EO enc m) (hm : m ≤ 63) (xs : List β) : Op2 fNe (.list (xs.map enc)) (.list []) (.val (.bool (!decide (xs = [])))) := oo_neL h hm xs []
theorem any_eqv (h : EO enc m) (x : β) : ∀ (ys : List β), ((ys.map enc).any fun z => PyData.eqv z (enc x)) = decide (x ∈ ys)
  | [] => by simp
  | y :: ys => by
    rw [List.map_cons, List.any_cons, any_eqv h x ys, h.eq]
    by_cases h1 : x = y <;> by_cases h2 : x ∈ ys <;> simp [h1, h2, eq_comm]
    all_goals (try exact fun e => h1 e)
theorem fInB_of (h : EO enc m) (hm : m ≤ 63) (x : β) {e : D} (ys : List β) (he : e = .list (ys.map enc) ∨ e = .tuple (ys.map enc)) : fInB (enc x) e = some (decide (x ∈ ys)) := by
  have hi : itD e = some (ys.map enc) := by rcases he with rfl | rfl <;> rfl
  have hs : SeqAt.shaped e = true := by
    rcases he with rfl | rfl
    · exact h.lst.shaped (by omega) ys
    · exact h.tup.shaped (by omega) ys
  have hd : inData (enc x) e = some (decide (x ∈ ys)) := by
    unfold inData
    rw [hi]
    dsimp only
    rw [h.shaped (by omega) x, hs, any_eqv h]
    rfl
  unfold fInB
  cases hf : inFlat (enc x) e with
  | none => dsimp only; rw [hd]
  | some b =>
    unfold inFlat at hf
    rw [hi] at hf
    dsimp only at hf
    split at hf
    · rw [any_eqv h] at hf; exact hf.symm
    · cases hf
theorem oo_inL (h : EO enc m) (hm : m ≤ 63) (x : β) (ys : List β) [inst : Decidable (x ∈ ys)] : Op2 (ofB fInB) (enc x) (.list (ys.map enc)) (.val (.bool (decide (x ∈ ys)))) := by unfold Op2 ofB; rw [fInB_of h hm x ys (.inl rfl)]; simp only [Option.map_some, Option.some.injEq, Rv.val.injEq, PyData.bool.injEq]; congr
theorem oo_inT (h : EO enc m) (hm : m ≤ 63) (x : β) (ys : List β) [inst : Decidable (x ∈ ys)] : Op2 (ofB fInB) (enc x) (.tuple (ys.map enc)) (.val (.bool (decide (x ∈ ys)))) := by unfold Op2 ofB; rw [fInB_of h hm x ys (.inr rfl)]; simp only [Option.map_some, Option.some.injEq, Rv.val.injEq, PyData.bool.injEq]; congr
theorem oo_ninL (h : EO enc m) (hm : m ≤ 63) (x : β) (ys : List β) [inst : Decidable (x ∈ ys)] : Op2 (ofNB fInB) (enc x) (.list (ys.map enc)) (.val (.bool (!decide (x ∈ ys)))) := by unfold Op2 ofNB; rw [fInB_of h hm x ys (.inl rfl)]; simp only [Option.map_some, Option.some.injEq, Rv.val.injEq, PyData.bool.injEq]; congr
theorem oo_ninT (h : EO enc m) (hm : m ≤ 63) (x : β) (ys : List β) [inst : Decidable (x ∈ ys)] : Op2 (ofNB fInB) (enc x) (.tuple (ys.map enc)) (.val (.bool (!decide (x ∈ ys)))) := by unfold Op2 ofNB; rw [fInB_of h hm x ys (.inr rfl)]; simp only [Option.map_some, Option.some.injEq, Rv.val.injEq, PyData.bool.injEq]; congr
omit [DecidableEq β] in
theorem perm_map_inv {l r : List D} (h : l.Perm r) : ∀ xs : List β, r = xs.map enc → ∃ ys : List β, l = ys.map enc ∧ ys.Perm xs := by
  induction h with
  | nil => intro xs e; have : xs = [] := by simpa using e.symm
           subst this; exact ⟨[], rfl, .nil⟩
  | cons x h ih =>
    intro xs e
    cases xs with
    | nil => cases e
    | cons y ys =>
      rw [List.map_cons] at e
      injection e with e1 e2
      obtain ⟨zs, h1, h2⟩ := ih ys e2
      exact ⟨y :: zs, by rw [List.map_cons, ← e1, h1], h2.cons y⟩
  | swap x y l =>
    intro xs e
    cases xs with
    | nil => cases e
    | cons a xs => cases xs with
      | nil => simp at e
      | cons b xs =>
        rw [List.map_cons, List.map_cons] at e
        injection e with e1 e2
        injection e2 with e2 e3
        exact ⟨b :: a :: xs, by rw [List.map_cons, List.map_cons, e1, e2, e3], .swap _ _ _⟩
  | trans h1 h2 ih1 ih2 =>
    intro xs e
    obtain ⟨ys, z1, z2⟩ := ih2 xs e
    obtain ⟨zs, z3, z4⟩ := ih1 ys z1
    exact ⟨zs, z3, z4.trans z2⟩
omit [DecidableEq β] in
theorem srtD_perm (xs : List β) : ∃ ys : List β, srtD (xs.map enc) = ys.map enc ∧ ys.Perm xs := perm_map_inv (List.mergeSort_perm _ _) xs rfl
theorem oo_sorted (h : EO enc m) (hm : m ≤ 60) {xs : List β} (ha : ∀ x ∈ xs, ∀ y ∈ xs, PySem.W.alike (enc x) (enc y) = true) (ht : (∀ x ∈ xs, isTupN (enc x) = true) ∨ (∀ x ∈ xs, isPl (enc x) = true)) (hl : xs.length ≤ 1000000) :
    Op1 gSorted (.list (xs.map enc)) (.own (.ls (srtD (xs.map enc)))) := by
  unfold Op1 gSorted
  dsimp only
  refine if_pos ?_
  unfold sortOk
  have h1 : ((xs.map enc).all fun d => (xs.map enc).all fun e => PySem.W.alike d e) = true := by
    rw [List.all_map, List.all_eq_true]
    intro x hx
    show ((xs.map enc).all fun e => PySem.W.alike (enc x) e) = true
    rw [List.all_map, List.all_eq_true]
    exact fun y hy => ha x hx y hy
  have h2 : ((xs.map enc).all isTupN || (xs.map enc).all isPl) = true := by
    rw [Bool.or_eq_true]
    rcases ht with ht | ht
    · exact .inl (by rw [List.all_map, List.all_eq_true]; exact ht)
    · exact .inr (by rw [List.all_map, List.all_eq_true]; exact ht)
  rw [h1, h2, flatDs_map h, decide_eq_true (Nat.le_trans (depthAll_map h xs) hm), decide_eq_true (sz_le (by rw [List.length_map]; omega))]
  rfl
end
theorem oo_cutL (lo hi : Option Int) (ds : List D) : Op1 (gCut lo hi) (.list ds) (.own (.ls (cutD ds lo hi))) := rfl
theorem oo_cutT (lo hi : Option Int) (ds : List D) : Op1 (gCut lo hi) (.tuple ds) (.val (.tuple (cutD ds lo hi))) := rfl
theorem cutD_map {α β : Type} (f : α → β) (xs : List α) (lo hi : Option Int) : cutD (xs.map f) lo hi = (cutD xs lo hi).map f := by unfold cutD; rw [List.length_map, List.map_take, List.map_drop]
theorem cutD_sub {α : Type} (xs : List α) (lo hi : Option Int) : (cutD xs lo hi).Sublist xs := (List.take_sublist _ _).trans (List.drop_sublist _ _)
inductive Rel2 {α β : Type} (R : α → β → Prop) : List α → List β → Prop
  | nil : Rel2 R [] []
  | cons {a : α} {b : β} {as : List α} {bs : List β} : R a b → Rel2 R as bs → Rel2 R (a :: as) (b :: bs)
theorem Rel2.len {α β : Type} {R : α → β → Prop} : ∀ {as : List α} {bs : List β}, Rel2 R as bs → as.length = bs.length
  | _, _, .nil => rfl
  | _, _, .cons _ h => congrArg (· + 1) h.len
theorem Rel2.get {α β : Type} {R : α → β → Prop} : ∀ {as : List α} {bs : List β} {i : Nat} {a : α}, Rel2 R as bs → as[i]? = some a → ∃ b, bs[i]? = some b ∧ R a b
  | _, _, _, _, .nil, h => by simp at h
  | _, _, 0, _, .cons r _, h => by simp at h; subst h; exact ⟨_, rfl, r⟩
  | _, _, i + 1, _, .cons _ t, h => by
    obtain ⟨b, h1, h2⟩ := Rel2.get (i := i) t (by simpa using h)
    exact ⟨b, by simpa using h1, h2⟩
theorem Rel2.snoc {α β : Type} {R : α → β → Prop} {a : α} {b : β} : ∀ {as : List α} {bs : List β}, Rel2 R as bs → R a b → Rel2 R (as ++ [a]) (bs ++ [b])
  | _, _, .nil, r => .cons r .nil
  | _, _, .cons q t, r => .cons q (t.snoc r)
theorem Rel2.imp {α β : Type} {R S : α → β → Prop} (h : ∀ a b, R a b → S a b) : ∀ {as : List α} {bs : List β}, Rel2 R as bs → Rel2 S as bs
  | _, _, .nil => .nil
  | _, _, .cons q t => .cons (h _ _ q) (t.imp h)
theorem oo_sortI {ns : List Int} (hl : ns.length ≤ 1000000) : ∃ ms : List Int, Op1 gSorted (.list (ns.map PyData.int)) (.own (.ls (ms.map PyData.int))) ∧ ms.Perm ns := by
  obtain ⟨ms, h1, h2⟩ := srtD_perm (enc := PyData.int) ns
  refine ⟨ms, ?_, h2⟩
  rw [← h1]
  exact oo_sorted EO.int (by decide) (fun x _ y _ => by simp [PySem.W.alike]) (.inr fun x _ => rfl) hl
theorem oo_sortT {ps : List (List Int)} (hl : ps.length ≤ 1000000) (hn : ∀ p ∈ ps, p ≠ []) : ∃ qs : List (List Int), Op1 gSorted (.list (ps.map fun p => PyData.tuple (p.map PyData.int))) (.own (.ls (qs.map fun p => PyData.tuple (p.map PyData.int)))) ∧ qs.Perm ps := by
  obtain ⟨ms, h1, h2⟩ := srtD_perm (enc := fun p => PyData.tuple (p.map PyData.int)) ps
  refine ⟨ms, ?_, h2⟩
  rw [← h1]
  refine oo_sorted EO.int.tup (by decide) (fun x _ y _ => ?_) (.inl fun x hx => ?_) hl
  · show PySem.W.alikeAll _ _ = true
    exact PySem.W.alike_ints x y
  · have := hn x hx
    cases x with
    | nil => exact absurd rfl this
    | cons a x => rfl
end DL
set_option Elab.async false
set_option linter.all false
set_option maxRecDepth 100000
set_option maxHeartbeats 4000000
namespace LW
open PySem PySem.Spec PyProof.Rows L2 RT DL
def fuel : Rho → Nat := fun _ => 1000000
/-! _law_draws: 0 script, 1 draws, 2 cell, 3 number, 4 first, 5 k, 6 seed -/
def lb__law_draws_1 : MS :=
  (mFg [5] (mIte (mTB (mBin fGt (.nm 3) (.ex (mC (.int 0))))) (mSeq (mDrop (mApp 1 (mBin (fOr fModP fModN) (.ex (mCall (c1 gInt) [(.nm 3)])) (.ex (mC (.int 997))))))
  (mSetV 3 (mBin (fOr fDivP fDivN) (.nm 3) (.ex (mC (.int 997)))))) mSk))
def lb__law_draws_2 : MS :=
  (mFg [2, 3, 4, 5] (mSeq (mSetV 3 (mCall (c1 gAbs) [(.nm 2)]))
  (mSeq (mIte (mTB (mBin fLt (.nm 3) (.ex (mBin fPow (.ex (mC (.int 10))) (.ex (mC (.int 18))))))) (mSeq (mSetV 4 (mBin (fOr fModP fModN) (.ex (mCall (c1 gInt) [(.ex (mBin fAdd (.ex (mBin fMul (.nm 3) (.ex (mC (.int 48271))))) (.ex (mC (.int 11)))))])) (.ex (mC (.int 2147483647)))))
  (mSeq (mDrop (mApp 1 (mBin (fOr fModP fModN) (.ex (mCall (c1 gInt) [(.ex (mBin fAdd (.ex (mBin fMul (.nm 4) (.ex (mC (.int 69621))))) (.nm 3)))])) (.ex (mC (.int 2147483629))))))
  (mSeq (mDrop (mApp 1 (mBin (fOr fModP fModN) (.ex (mCall (c1 gInt) [(.ex (mBin fAdd (.nm 4) (.ex (mBin (fOr fDivP fDivN) (.nm 3) (.ex (mC (.int 7)))))))])) (.ex (mC (.int 1000003))))))
  (mSetV 3 (mC (.int 0)))))) mSk)
  (mFor (mRng gR1 [(.ex (mC (.int 60)))]) (.nm 5) lb__law_draws_1))))
def lb__law_draws_3 : MS :=
  (mFg [5] (mSeq (mSetV 6 (mBin (fOr fModP fModN) (.ex (mCall (c1 gInt) [(.ex (mBin fAdd (.ex (mBin fMul (.nm 6) (.ex (mC (.int 48271))))) (.ex (mC (.int 69621)))))])) (.ex (mC (.int 2147483647)))))
  (mDrop (mApp 1 (mBin (fOr fDivP fDivN) (.nm 6) (.ex (mC (.int 5))))))))
def m__law_draws : MS :=
  (mSeq (mSet 1 (mLst []))
  (mSeq (mFor (mItZ 0) (.nm 2) lb__law_draws_2)
  (mSeq (mSetV 6 (mC (.int 1)))
  (mSeq (mIte (mTB (mBin fGt (.ex (mLenZ 0)) (.ex (mC (.int 0))))) (mSetV 6 (mBin fAdd (.ex (mC (.int 1))) (.ex (mCall (c1 gAbs) [(.ex (mIxZ 0 (.ex (mC (.int 0)))))])))) mSk)
  (mSeq (mFor (mRng gR1 [(.ex (mC (.int 900)))]) (.nm 5) lb__law_draws_3)
  (mRet (mUn gRev (.nm 1))))))))
def f__law_draws : FD := fnD 7 m__law_draws
/-! _law_take: 0 draws, 1 bound -/
def m__law_take : MS :=
  (mSeq (mIte (mTB (mBin fEq (.ex (mCall (c1 gLen) [(.nm 0)])) (.ex (mC (.int 0))))) (mRet (mC (.int 0))) mSk)
  (mRet (mBin (fOr fModP fModN) (.ex (mCall (c1 gInt) [(.ex (mPop 0))])) (.nm 1))))
def f__law_take : FD := fnD 2 m__law_take
/-! _law_parts: 0 field, 1 kind, 2 n, 3 k, 4 found, 5 turn, 6 more, 7 part, 8 first, 9 number -/
def lb__law_parts_1 : MS :=
  (mFg [9] (mDrop (mApp 6 (mBin fAdd (.nm 7) (.ex (mTup [.one (.nm 9)]))))))
def lb__law_parts_2 : MS :=
  (mFg [7, 8, 9] (mSeq (mSetV 8 (mC (.int 0)))
  (mSeq (mIte (mTB (mBin fEq (.nm 1) (.ex (mC (.str "choice"))))) (mSetV 8 (mBin fAdd (.ex (mC (.int 1))) (.ex (mCall (c1 gMax1) [(.ex (mBin fAdd (.ex (mLst [.one (.ex (mC (.int 0)))])) (.ex (mCall (c1 gList) [(.nm 7)]))))])))) mSk)
  (mFor (mRng gR2 [(.nm 8), (.ex (mBin fAdd (.nm 2) (.ex (mCall (c1 gInt) [(.ex (mBin fEq (.nm 1) (.ex (mC (.str "choice")))))]))))]) (.nm 9) lb__law_parts_1))))
def lb__law_parts_3 : MS :=
  (mFg [5, 6, 7, 8, 9] (mSeq (mSet 6 (mLst []))
  (mSeq (mFor (mIt (.nm 4)) (.nm 7) lb__law_parts_2)
  (mSetV 4 (mName 6)))))
def m__law_parts : MS :=
  (mSeq (mAsg (.tu [(.nm 1), (.nm 2), (.nm 3)]) (mName 0))
  (mSeq (mSetV 4 (mLst [.one (.ex (mTup []))]))
  (mSeq (mFor (mRng gR1 [(.nm 3)]) (.nm 5) lb__law_parts_3)
  (mRetN 4))))
def f__law_parts : FD := fnD 10 m__law_parts
/-! _law_game: 0 draws, 1 most, 2 turn, 3 game, 4 many_v, 5 k, 6 kind, 7 n, 8 taken -/
def lb__law_game_1 : MS :=
  (mFg [5, 6, 7, 8] (mSeq (mSetV 6 (mBin fIx (.ex (mLst [.one (.ex (mC (.str "choice"))), .one (.ex (mC (.str "figures"))), .one (.ex (mC (.str "tail")))])) (.ex (mDef 2 f__law_take [.io 0, .v (.ex (mC (.int 3)))]))))
  (mSeq (mSetV 7 (mBin fAdd (.ex (mC (.int 2))) (.ex (mDef 2 f__law_take [.io 0, .v (.ex (mBin fIx (.ex (mLst [.one (.ex (mC (.int 4))), .one (.ex (mC (.int 8)))])) (.ex (mDef 2 f__law_take [.io 0, .v (.ex (mC (.int 2)))]))))]))))
  (mSeq (mSetV 8 (mBin fAdd (.ex (mC (.int 1))) (.ex (mDef 2 f__law_take [.io 0, .v (.ex (mBin fIx (.ex (mLst [.one (.ex (mC (.int 3))), .one (.nm 7)])) (.ex (mCall (c1 gInt) [(.ex (mBin fEq (.nm 6) (.ex (mC (.str "choice")))))]))))]))))
  (mSeq (mSetV 8 (mCall (c2 gMin2) [(.nm 8), (.ex (mC (.int 3)))]))
  (mSeq (mSetV 3 (mBin fAdd (.nm 3) (.ex (mTup [.one (.ex (mTup [.one (.nm 6), .one (.nm 7), .one (.ex (mCall (c2 gMin2) [(.nm 8), (.nm 7)]))]))]))))
  (mSetV 4 (mBin fMul (.nm 4) (.ex (mCall (c1 gLen) [(.ex (mDef 1 f__law_parts [.v (.ex (mBin fIx (.nm 3) (.ex (mUn fNeg (.ex (mC (.int 1)))))))]))]))))))))))
def lb__law_game_2 : MS :=
  (mFg [2, 3, 4, 5, 6, 7, 8] (mSeq (mSetV 3 (mTup []))
  (mSeq (mSetV 4 (mC (.int 1)))
  (mSeq (mFor (mRng gR1 [(.ex (mBin fAdd (.ex (mC (.int 1))) (.ex (mDef 2 f__law_take [.io 0, .v (.ex (mC (.int 3)))]))))]) (.nm 5) lb__law_game_1)
  (mIte (mTB (mBin fLe (.nm 4) (.nm 1))) (mRetN 3) mSk)))))
def m__law_game : MS :=
  (mSeq (mFor (mRng gR1 [(.ex (mC (.int 12)))]) (.nm 2) lb__law_game_2)
  (mRet (mTup [.one (.ex (mTup [.one (.ex (mC (.str "choice"))), .one (.ex (mC (.int 4))), .one (.ex (mC (.int 2)))]))])))
def f__law_game : FD := fnD 9 m__law_game
/-! _law_picks: 0 game, 1 found, 2 field, 3 more, 4 pick, 5 part -/
def lb__law_picks_1 : MS :=
  (mFg [5] (mDrop (mApp 3 (mBin fAdd (.nm 4) (.ex (mTup [.one (.nm 5)]))))))
def lb__law_picks_2 : MS :=
  (mFg [4, 5] (mFor (mIt (.ex (mDef 1 f__law_parts [.v (.nm 2)]))) (.nm 5) lb__law_picks_1))
def lb__law_picks_3 : MS :=
  (mFg [2, 3, 4, 5] (mSeq (mSet 3 (mLst []))
  (mSeq (mFor (mIt (.nm 1)) (.nm 4) lb__law_picks_2)
  (mSetV 1 (mName 3)))))
def m__law_picks : MS :=
  (mSeq (mSetV 1 (mLst [.one (.ex (mTup []))]))
  (mSeq (mFor (mIt (.nm 0)) (.nm 2) lb__law_picks_3)
  (mRetN 1)))
def f__law_picks : FD := fnD 6 m__law_picks
/-! _law_all_hits: 0 game, 1 found, 2 kind, 3 n, 4 k, 5 more, 6 one, 7 number -/
def lb__law_all_hits_1 : MS :=
  (mFg [7] (mDrop (mApp 5 (mBin fAdd (.nm 6) (.ex (mTup [.one (.nm 7)]))))))
def lb__law_all_hits_2 : MS :=
  (mFg [6, 7] (mFor (mRng gR1 [(.ex (mBin fAdd (.nm 4) (.ex (mC (.int 1)))))]) (.nm 7) lb__law_all_hits_1))
def lb__law_all_hits_3 : MS :=
  (mFg [2, 3, 4, 5, 6, 7] (mSeq (mSet 5 (mLst []))
  (mSeq (mFor (mIt (.nm 1)) (.nm 6) lb__law_all_hits_2)
  (mSetV 1 (mName 5)))))
def m__law_all_hits : MS :=
  (mSeq (mSetV 1 (mLst [.one (.ex (mTup []))]))
  (mSeq (mFor (mIt (.nm 0)) (.tu [(.nm 2), (.nm 3), (.nm 4)]) lb__law_all_hits_3)
  (mRetN 1)))
def f__law_all_hits : FD := fnD 8 m__law_all_hits
/-! _law_classes: 0 draws, 1 game, 2 rows, 3 found, 4 k, 5 own, 6 one -/
def lb__law_classes_1 : MS :=
  (mFg [4, 5] (mSeq (mSetV 5 (mCall (c1 gSorted) [(.ex (mLc [6] (mIt (.nm 2)) (.nm 6) (mTB (mBin fEq (.ex (mDef 2 f__law_take [.io 0, .v (.ex (mC (.int 4)))])) (.ex (mC (.int 0))))) (mName 6)))]))
  (mSeq (mIte (mAnd (mTB (mBin fEq (.nm 5) (.ex (mLst [])))) (mTB (mBin fNe (.nm 2) (.ex (mLst []))))) (mSetV 5 (mLst [.one (.ex (mBin fIx (.nm 2) (.ex (mDef 2 f__law_take [.io 0, .v (.ex (mCall (c1 gLen) [(.nm 2)]))]))))])) mSk)
  (mSeq (mSetV 2 (mLc [6] (mIt (.nm 2)) (.nm 6) (mTB (mBin (ofNB fInB) (.nm 6) (.nm 5))) (mName 6)))
  (mIte (mTB (mBin fNe (.nm 5) (.ex (mLst [])))) (mDrop (mApp 3 (mCall (c1 gTup) [(.nm 5)]))) mSk)))))
def m__law_classes : MS :=
  (mSeq (mSetV 2 (mDef 1 f__law_all_hits [.v (.nm 1)]))
  (mSeq (mSet 3 (mLst []))
  (mSeq (mFor (mRng gR1 [(.ex (mBin fAdd (.ex (mC (.int 1))) (.ex (mDef 2 f__law_take [.io 0, .v (.ex (mC (.int 4)))]))))]) (.nm 4) lb__law_classes_1)
  (mRet (mCall (c1 gTup) [(.nm 3)])))))
def f__law_classes : FD := fnD 7 m__law_classes
/-! _law_table: 0 draws, 1 many_v, 2 rows, 3 k, 4 word -/
def lb__law_table_1 : MS :=
  (mFg [3, 4] (mSeq (mSetV 4 (mBin fIx (.ex (mLst [.one (.ex (mC (.str "fixed"))), .one (.ex (mC (.str "shared")))])) (.ex (mDef 2 f__law_take [.io 0, .v (.ex (mC (.int 2)))]))))
  (mIte (mTB (mBin fEq (.nm 4) (.ex (mC (.str "fixed"))))) (mSetV 2 (mBin fAdd (.nm 2) (.ex (mTup [.one (.ex (mTup [.one (.ex (mC (.str "fixed"))), .one (.ex (mDef 2 f__law_take [.io 0, .v (.ex (mC (.int 90)))])), .one (.ex (mTup [.one (.ex (mC (.int 0))), .one (.ex (mC (.int 1)))])), .one (.ex (mC (.int 0))), .one (.ex (mC (.str "keep")))]))])))) (mSetV 2 (mBin fAdd (.nm 2) (.ex (mTup [.one (.ex (mTup [.one (.ex (mC (.str "shared"))), .one (.ex (mDef 2 f__law_take [.io 0, .v (.ex (mC (.int 40)))])), .one (.ex (mBin fIx (.ex (mLst [.one (.ex (mTup [.one (.ex (mC (.int 0))), .one (.ex (mC (.int 1)))])), .one (.ex (mTup [.one (.ex (mC (.int 1))), .one (.ex (mC (.int 10)))])), .one (.ex (mTup [.one (.ex (mC (.int 1))), .one (.ex (mC (.int 12)))]))])) (.ex (mDef 2 f__law_take [.io 0, .v (.ex (mC (.int 3)))])))), .one (.ex (mBin fIx (.ex (mLst [.one (.ex (mC (.int 0))), .one (.ex (mC (.int 25)))])) (.ex (mDef 2 f__law_take [.io 0, .v (.ex (mC (.int 2)))])))), .one (.ex (mBin fIx (.ex (mLst [.one (.ex (mC (.str "roll"))), .one (.ex (mC (.str "down"))), .one (.ex (mC (.str "keep")))])) (.ex (mDef 2 f__law_take [.io 0, .v (.ex (mC (.int 3)))]))))]))])))))))
def m__law_table : MS :=
  (mSeq (mSetV 2 (mTup []))
  (mSeq (mFor (mRng gR1 [(.nm 1)]) (.nm 3) lb__law_table_1)
  (mRet (mTup [.one (.ex (mBin fAdd (.ex (mC (.int 1))) (.ex (mDef 2 f__law_take [.io 0, .v (.ex (mC (.int 9)))])))), .one (.ex (mBin fIx (.ex (mLst [.one (.ex (mTup [.one (.ex (mC (.int 0))), .one (.ex (mC (.int 1)))])), .one (.ex (mTup [.one (.ex (mC (.int 1))), .one (.ex (mC (.int 7)))]))])) (.ex (mDef 2 f__law_take [.io 0, .v (.ex (mC (.int 2)))])))), .one (.ex (mDef 2 f__law_take [.io 0, .v (.ex (mC (.int 60)))])), .one (.nm 2)]))))
def f__law_table : FD := fnD 5 m__law_table
/-! _law_system: 0 draws, 1 game, 2 found, 3 kind, 4 n, 5 k, 6 rows, 7 number, 8 left, 9 places, 10 turn, 11 figure -/
def lb__law_system_1 : MS :=
  (mFg [6, 10] (mSeq (mSetV 6 (mLc [11] (mRng gR1 [(.nm 4)]) (.nm 11) (mTB (mBin fEq (.ex (mDef 2 f__law_take [.io 0, .v (.ex (mC (.int 3)))])) (.ex (mC (.int 0))))) (mName 11)))
  (mSetV 9 (mBin fAdd (.nm 9) (.ex (mTup [.one (.ex (mCall (c1 gTup) [(.ex (mOrO (.nm 6) (mLst [.one (.ex (mDef 2 f__law_take [.io 0, .v (.nm 4)]))])))]))]))))))
def lb__law_system_2 : MS :=
  (mFg [3, 4, 5, 6, 8, 9, 10] (mIte (mTB (mBin fEq (.nm 3) (.ex (mC (.str "choice"))))) (mSeq (mSetV 6 (mCall (c1 gSorted) [(.ex (mLc [7] (mRng gR2 [(.ex (mC (.int 1))), (.ex (mBin fAdd (.nm 4) (.ex (mC (.int 1)))))]) (.nm 7) (mTB (mBin fEq (.ex (mDef 2 f__law_take [.io 0, .v (.ex (mC (.int 2)))])) (.ex (mC (.int 0))))) (mName 7)))]))
  (mSeq (mSetV 8 (mLc [7] (mRng gR2 [(.ex (mC (.int 1))), (.ex (mBin fAdd (.nm 4) (.ex (mC (.int 1)))))]) (.nm 7) (mTB (mBin (ofNB fInB) (.nm 7) (.nm 6))) (mName 7)))
  (mSetV 2 (mBin fAdd (.nm 2) (.ex (mTup [.one (.ex (mCall (c1 gTup) [(.ex (mCall (c1 gSorted) [(.ex (mBin fAdd (.nm 6) (.ex (mCut (.nm 8) none (some (.ex (mCall (c2 gMax2) [(.ex (mC (.int 0))), (.ex (mBin fSub (.nm 5) (.ex (mCall (c1 gLen) [(.nm 6)]))))])))))))]))]))])))))) (mSeq (mSetV 9 (mTup []))
  (mSeq (mFor (mRng gR1 [(.nm 5)]) (.nm 10) lb__law_system_1)
  (mSetV 2 (mBin fAdd (.nm 2) (.ex (mTup [.one (.nm 9)]))))))))
def m__law_system : MS :=
  (mSeq (mSetV 2 (mTup []))
  (mSeq (mFor (mIt (.nm 1)) (.tu [(.nm 3), (.nm 4), (.nm 5)]) lb__law_system_2)
  (mRetN 2)))
def f__law_system : FD := fnD 12 m__law_system
/-! rounded: 0 fraction, 1 way, 2 part, 3 whole, 4 low, 5 rest -/
def m_rounded : MS :=
  (mSeq (mIte (mTB (mBin (ofNB fInB) (.nm 1) (.ex (mTup [.one (.ex (mC (.str "down"))), .one (.ex (mC (.str "up"))), .one (.ex (mC (.str "near")))])))) mBad mSk)
  (mSeq (mAsg (.tu [(.nm 2), (.nm 3)]) (mName 0))
  (mSeq (mAsg (.tu [(.nm 4), (.nm 5)]) (mCall (c2 gDivmod) [(.nm 2), (.nm 3)]))
  (mSeq (mIte (mOr (mTB (mBin fEq (.nm 1) (.ex (mC (.str "down"))))) (mTB (mBin fEq (.nm 5) (.ex (mC (.int 0)))))) (mRetN 4) mSk)
  (mSeq (mIte (mOr (mTB (mBin fEq (.nm 1) (.ex (mC (.str "up"))))) (mTB (mBin fGt (.ex (mBin fMul (.ex (mC (.int 2))) (.nm 5))) (.nm 3)))) (mRet (mBin fAdd (.nm 4) (.ex (mC (.int 1))))) mSk)
  (mRet (mIf (mTB (mBin fEq (.ex (mBin fMul (.ex (mC (.int 2))) (.nm 5))) (.nm 3))) (mBin fAdd (.nm 4) (.ex (mBin (fOr fModP fModN) (.nm 4) (.ex (mC (.int 2)))))) (mName 4))))))))
def f_rounded : FD := fnD 6 m_rounded
/-! made: 0 part, 1 whole, 2 turned, 3 common -/
def m_made : MS :=
  (mSeq (mIte (mTB (mBin fEq (.nm 1) (.ex (mC (.int 0))))) mBad mSk)
  (mSeq (mSetV 2 (mIf (mTB (mBin fLt (.nm 1) (.ex (mC (.int 0))))) (mUn fNeg (.ex (mC (.int 1)))) (mC (.int 1))))
  (mSeq (mSetV 3 (mBin fMul (.ex (mCall (c2 gGcd) [(.nm 0), (.nm 1)])) (.nm 2)))
  (mRet (mTup [.one (.ex (mBin (fOr fDivP fDivN) (.nm 0) (.nm 3))), .one (.ex (mBin (fOr fDivP fDivN) (.nm 1) (.nm 3)))])))))
def f_made : FD := fnD 4 m_made
/-! times: 0 one, 1 other -/
def m_times : MS :=
  (mRet (mDef 2 f_made [.v (.ex (mBin fMul (.ex (mBin fIx (.nm 0) (.ex (mC (.int 0))))) (.ex (mBin fIx (.nm 1) (.ex (mC (.int 0))))))), .v (.ex (mBin fMul (.ex (mBin fIx (.nm 0) (.ex (mC (.int 1))))) (.ex (mBin fIx (.nm 1) (.ex (mC (.int 1)))))))]))
def f_times : FD := fnD 2 m_times
/-! share_of: 0 rate, 1 stakes -/
def m_share_of : MS :=
  (mRet (mDef 2 f_rounded [.v (.ex (mDef 2 f_times [.v (.nm 0), .v (.ex (mTup [.one (.nm 1), .one (.ex (mC (.int 1)))]))])), .v (.ex (mC (.str "down")))]))
def f_share_of : FD := fnD 2 m_share_of
/-! raised: 0 base, 1 exponent, 2 product, 3 _ -/
def lb_raised_1 : MS :=
  (mFg [3] (mAug fMulI 2 (.nm 0)))
def m_raised : MS :=
  (mSeq (mSetV 2 (mC (.int 1)))
  (mSeq (mFor (mRng gR1 [(.nm 1)]) (.nm 3) lb_raised_1)
  (mRetN 2)))
def f_raised : FD := fnD 4 m_raised
/-! pay: 0 one, 1 pot, 2 winners, 3 raised, 4 each -/
def m_pay : MS :=
  (mSeq (mIte (mTB (mBin fEq (.nm 2) (.ex (mC (.int 0))))) (mRet (mTup [.one (.ex (mC (.int 0))), .one (.ex (mC (.int 0)))])) mSk)
  (mSeq (mSetV 3 (mCall (c2 gMax2) [(.ex (mBin fSub (.ex (mBin fIx (.nm 0) (.ex (mC (.int 1))))) (.nm 1))), (.ex (mC (.int 0)))]))
  (mSeq (mSetV 4 (mBin (fOr fDivP fDivN) (.ex (mBin fAdd (.nm 1) (.nm 3))) (.nm 2)))
  (mSeq (mIte (mTB (mBin fGt (.ex (mBin fIx (.nm 0) (.ex (mC (.int 3))))) (.ex (mC (.int 0))))) (mSetV 4 (mCall (c2 gMin2) [(.nm 4), (.ex (mBin fIx (.nm 0) (.ex (mC (.int 3)))))])) mSk)
  (mRet (mTup [.one (.nm 4), .one (.nm 3)]))))))
def f_pay : FD := fnD 5 m_pay
/-! settle: 0 table, 1 state, 2 outcome, 3 price, 4 due_rate, 5 most, 6 classes, 7 sold, 8 winners, 9 stakes, 10 due, 11 change, 12 fallen, 13 prizes, 14 carried, 15 k, 16 one, 17 kept, 18 rolled, 19 share, 20 pot, 21 each, 22 raised, 23 left -/
def lb_settle_1 : MS :=
  (mFg [15, 16, 17, 18, 19, 20, 21, 22, 23] (mSeq (mSetV 17 (mC (.int 0)))
  (mSeq (mSetV 18 (mC (.int 0)))
  (mSeq (mIte (mTB (mBin fEq (.ex (mBin fIx (.nm 16) (.ex (mC (.int 0))))) (.ex (mC (.str "fixed"))))) (mSeq (mDrop (mApp 13 (mIf (mTB (mBin fGt (.ex (mBin fIx (.nm 8) (.nm 15))) (.ex (mC (.int 0))))) (mBin fIx (.nm 16) (.ex (mC (.int 1)))) (mC (.int 0)))))
  (mSeq (mAug fSub 11 (.ex (mBin fMul (.ex (mBin fIx (.nm 16) (.ex (mC (.int 1))))) (.ex (mBin fIx (.nm 8) (.nm 15))))))
  (mPar 17 12 (mName 12) (mC (.int 0))))) (mSeq (mSetV 19 (mDef 2 f_share_of [.v (.ex (mBin fIx (.nm 16) (.ex (mC (.int 2))))), .v (.nm 9)]))
  (mSeq (mSetV 20 (mBin fAdd (.ex (mBin fAdd (.ex (mBin fIx (.nm 1) (.nm 15))) (.nm 19))) (.nm 12)))
  (mSeq (mAsg (.tu [(.nm 21), (.nm 22)]) (mDef 3 f_pay [.v (.nm 16), .v (.nm 20), .v (.ex (mBin fIx (.nm 8) (.nm 15)))]))
  (mSeq (mSetV 23 (mBin fSub (.ex (mBin fAdd (.nm 20) (.nm 22))) (.ex (mBin fMul (.nm 21) (.ex (mBin fIx (.nm 8) (.nm 15)))))))
  (mSeq (mDrop (mApp 13 (mName 21)))
  (mSeq (mAug fSub 11 (.ex (mBin fAdd (.nm 19) (.nm 22))))
  (mSeq (mSetV 12 (mC (.int 0)))
  (mIte (mTB (mBin fEq (.ex (mBin fIx (.nm 16) (.ex (mC (.int 4))))) (.ex (mC (.str "roll"))))) (mSeq (mSetV 18 (mCall (c2 gMin2) [(.nm 23), (.nm 5)]))
  (mSetV 17 (mBin fSub (.nm 23) (.nm 18)))) (mIte (mTB (mBin fEq (.ex (mBin fIx (.nm 16) (.ex (mC (.int 4))))) (.ex (mC (.str "down"))))) (mSetV 12 (mName 23)) (mSetV 17 (mName 23))))))))))))
  (mSeq (mDrop (mApp 14 (mName 18)))
  (mAug (fOr fAddI fAddS) 11 (.nm 17)))))))
def m_settle : MS :=
  (mSeq (mAsg (.tu [(.nm 3), (.nm 4), (.nm 5), (.nm 6)]) (mName 0))
  (mSeq (mAsg (.tu [(.nm 7), (.nm 8)]) (mName 2))
  (mSeq (mSetV 9 (mBin fMul (.nm 3) (.nm 7)))
  (mSeq (mSetV 10 (mDef 2 f_share_of [.v (.nm 4), .v (.nm 9)]))
  (mSeq (mSetV 11 (mBin fSub (.nm 9) (.nm 10)))
  (mSeq (mSetV 12 (mC (.int 0)))
  (mSeq (mPar 13 14 (mLst []) (mLst []))
  (mSeq (mFor (mItG gEnum [.one (.nm 6)]) (.tu [(.nm 15), (.nm 16)]) lb_settle_1)
  (mRet (mTup [.one (.ex (mCall (c1 gTup) [(.nm 13)])), .one (.nm 10), .one (.ex (mCall (c1 gTup) [(.nm 14)])), .one (.ex (mBin fAdd (.nm 11) (.nm 12)))]))))))))))
def f_settle : FD := fnD 24 m_settle
/-! is_number: 0 value, 1 least, 2 most -/
def m_is_number : MS :=
  (mSeq (mIte (mOr (mTru (.ex (mIsT "bool" (.nm 0)))) (mNot (mTru (.ex (mIsT "int" (.nm 0)))))) (mRet (mC (.bool false))) mSk)
  (mRet (mChain fLe fLe (.nm 1) (.nm 0) (.nm 2))))
def f_is_number : FD := fnD 3 m_is_number
/-! check_place: 0 classes, 1 place -/
def m_check_place : MS :=
  (mIte (mNot (mTru (.ex (mDef 3 f_is_number [.v (.nm 1), .v (.ex (mC (.int 0))), .v (.ex (mBin fSub (.ex (mCall (c1 gLen) [(.nm 0)])) (.ex (mC (.int 1)))))])))) mBad mSk)
def f_check_place : FD := fnD 2 m_check_place
/-! parts_many: 0 field, 1 kind, 2 size, 3 taken -/
def m_parts_many : MS :=
  (mSeq (mAsg (.tu [(.nm 1), (.nm 2), (.nm 3)]) (mName 0))
  (mRet (mIf (mTB (mBin fEq (.nm 1) (.ex (mC (.str "choice"))))) (mCall (c2 gComb) [(.nm 2), (.nm 3)]) (mDef 2 f_raised [.v (.nm 2), .v (.nm 3)]))))
def f_parts_many : FD := fnD 4 m_parts_many
/-! many: 0 game, 1 found, 2 field -/
def lb_many_1 : MS :=
  (mFg [2] (mAug fMulI 1 (.ex (mDef 1 f_parts_many [.v (.nm 2)]))))
def m_many : MS :=
  (mSeq (mSetV 1 (mC (.int 1)))
  (mSeq (mFor (mIt (.nm 0)) (.nm 2) lb_many_1)
  (mRetN 1)))
def f_many : FD := fnD 3 m_many
/-! ways_to_hit: 0 field, 1 h, 2 kind, 3 size, 4 taken -/
def m_ways_to_hit : MS :=
  (mSeq (mAsg (.tu [(.nm 2), (.nm 3), (.nm 4)]) (mName 0))
  (mSeq (mIte (mNot (mTru (.ex (mDef 3 f_is_number [.v (.nm 1), .v (.ex (mC (.int 0))), .v (.nm 4)])))) (mRet (mC (.int 0))) mSk)
  (mSeq (mIte (mTB (mBin fEq (.nm 2) (.ex (mC (.str "choice"))))) (mRet (mBin fMul (.ex (mCall (c2 gComb) [(.nm 4), (.nm 1)])) (.ex (mCall (c2 gComb) [(.ex (mBin fSub (.nm 3) (.nm 4))), (.ex (mBin fSub (.nm 4) (.nm 1)))])))) mSk)
  (mSeq (mIte (mTB (mBin fEq (.nm 2) (.ex (mC (.str "figures"))))) (mRet (mBin fMul (.ex (mCall (c2 gComb) [(.nm 4), (.nm 1)])) (.ex (mDef 2 f_raised [.v (.ex (mBin fSub (.nm 3) (.ex (mC (.int 1))))), .v (.ex (mBin fSub (.nm 4) (.nm 1)))])))) mSk)
  (mRet (mIf (mTB (mBin fEq (.nm 1) (.nm 4))) (mC (.int 1)) (mBin fMul (.ex (mBin fSub (.nm 3) (.ex (mC (.int 1))))) (.ex (mDef 2 f_raised [.v (.nm 3), .v (.ex (mBin fSub (.ex (mBin fSub (.nm 4) (.nm 1))) (.ex (mC (.int 1)))))])))))))))
def f_ways_to_hit : FD := fnD 5 m_ways_to_hit
/-! chance: 0 game, 1 classes, 2 place, 3 count, 4 row, 5 product, 6 field, 7 hit -/
def lb_chance_1 : MS :=
  (mFg [6, 7] (mAug fMulI 5 (.ex (mDef 2 f_ways_to_hit [.v (.nm 6), .v (.nm 7)]))))
def lb_chance_2 : MS :=
  (mFg [4, 5, 6, 7] (mSeq (mSetV 5 (mC (.int 1)))
  (mSeq (mFor (mItG gZip2 [.one (.nm 0), .one (.nm 4)]) (.tu [(.nm 6), (.nm 7)]) lb_chance_1)
  (mAug (fOr fAddI fAddS) 3 (.nm 5)))))
def m_chance : MS :=
  (mSeq (mDrop (mDef 2 f_check_place [.v (.nm 1), .v (.nm 2)]))
  (mSeq (mSetV 3 (mC (.int 0)))
  (mSeq (mFor (mIt (.ex (mBin fIx (.nm 1) (.nm 2)))) (.nm 4) lb_chance_2)
  (mRet (mDef 2 f_made [.v (.nm 3), .v (.ex (mDef 1 f_many [.v (.nm 0)]))])))))
def f_chance : FD := fnD 8 m_chance
/-! places_ways: 0 part, 1 drawn, 2 ways, 3 figures, 4 figure, 5 same, 6 other, 7 one, 8 before -/
def lb_places_ways_1 : MS :=
  (mFg [3, 4, 5, 6] (mSeq (mSetV 5 (mIf (mTB (mBin (ofB fInB) (.nm 4) (.nm 3))) (mC (.int 1)) (mC (.int 0))))
  (mSeq (mSetV 6 (mBin fSub (.ex (mCall (c1 gLen) [(.nm 3)])) (.nm 5)))
  (mSetV 2 (mLc [7, 8] (mItG gZip2 [.one (.ex (mLst [.star (.nm 2), .one (.ex (mC (.int 0)))])), .one (.ex (mLst [.one (.ex (mC (.int 0))), .star (.nm 2)]))]) (.tu [(.nm 7), (.nm 8)]) mYes (mBin fAdd (.ex (mBin fMul (.nm 7) (.nm 6))) (.ex (mBin fMul (.nm 8) (.nm 5)))))))))
def m_places_ways : MS :=
  (mSeq (mSetV 2 (mLst [.one (.ex (mC (.int 1)))]))
  (mSeq (mFor (mItG gZip2 [.one (.nm 0), .one (.nm 1)]) (.tu [(.nm 3), (.nm 4)]) lb_places_ways_1)
  (mRetN 2)))
def f_places_ways : FD := fnD 9 m_places_ways
/-! end_ways: 0 part, 1 drawn, 2 ways, 3 ahead, 4 figures, 5 place, 6 same -/
def lb_end_ways_1 : MS :=
  (mFg [4] (mAug fMulI 3 (.ex (mCall (c1 gLen) [(.nm 4)]))))
def lb_end_ways_2 : MS :=
  (mFg [4, 5, 6] (mSeq (mSetV 4 (mBin fIx (.nm 0) (.nm 5)))
  (mSeq (mAug fDivP 3 (.ex (mCall (c1 gLen) [(.nm 4)])))
  (mSeq (mSetV 6 (mIf (mTB (mBin (ofB fInB) (.ex (mBin fIx (.nm 1) (.nm 5))) (.nm 4))) (mC (.int 1)) (mC (.int 0))))
  (mSeq (mDrop (mApp 2 (mBin fMul (.nm 3) (.ex (mBin fSub (.ex (mCall (c1 gLen) [(.nm 4)])) (.nm 6))))))
  (mIte (mTB (mBin fEq (.nm 6) (.ex (mC (.int 0))))) (mRet (mLst [.star (.nm 2), .star (.ex (mBin fMul (.ex (mLst [.one (.ex (mC (.int 0)))])) (.ex (mBin fAdd (.nm 5) (.ex (mC (.int 1)))))))])) mSk))))))
def m_end_ways : MS :=
  (mSeq (mSet 2 (mLst []))
  (mSeq (mSetV 3 (mC (.int 1)))
  (mSeq (mFor (mIt (.nm 0)) (.nm 4) lb_end_ways_1)
  (mSeq (mFor (mRng gR3 [(.ex (mBin fSub (.ex (mCall (c1 gLen) [(.nm 0)])) (.ex (mC (.int 1))))), (.ex (mUn fNeg (.ex (mC (.int 1))))), (.ex (mUn fNeg (.ex (mC (.int 1)))))]) (.nm 5) lb_end_ways_2)
  (mRet (mLst [.star (.nm 2), .one (.ex (mC (.int 1)))]))))))
def f_end_ways : FD := fnD 7 m_end_ways
/-! part_ways: 0 field, 1 part, 2 drawn, 3 kind, 4 _, 5 taken, 6 inside, 7 number, 8 outside, 9 count -/
def m_part_ways : MS :=
  (mSeq (mAsg (.tu [(.nm 3), (.nm 4), (.nm 5)]) (mName 0))
  (mSeq (mIte (mTB (mBin fEq (.nm 3) (.ex (mC (.str "figures"))))) (mRet (mDef 2 f_places_ways [.v (.nm 1), .v (.nm 2)])) mSk)
  (mSeq (mIte (mTB (mBin fEq (.nm 3) (.ex (mC (.str "tail"))))) (mRet (mDef 2 f_end_ways [.v (.nm 1), .v (.nm 2)])) mSk)
  (mSeq (mSetV 6 (mCall (c1 gLen) [(.ex (mLc [7] (mIt (.nm 1)) (.nm 7) (mTB (mBin (ofB fInB) (.nm 7) (.nm 2))) (mC (.int 1))))]))
  (mSeq (mSetV 8 (mBin fSub (.ex (mCall (c1 gLen) [(.nm 1)])) (.nm 6)))
  (mRet (mLc [9] (mRng gR1 [(.ex (mBin fAdd (.nm 5) (.ex (mC (.int 1)))))]) (.nm 9) mYes (mBin fMul (.ex (mCall (c2 gComb) [(.nm 6), (.nm 9)])) (.ex (mCall (c2 gComb) [(.nm 8), (.ex (mBin fSub (.nm 5) (.nm 9)))]))))))))))
def f_part_ways : FD := fnD 10 m_part_ways
/-! wins: 0 game, 1 classes, 2 system, 3 drawn, 4 ways, 5 field, 6 part, 7 other, 8 found, 9 row, 10 count, 11 one, 12 product, 13 own, 14 hit -/
def lb_wins_1 : MS :=
  (mFg [13, 14] (mAug fMulI 12 (.ex (mBin fIx (.nm 13) (.nm 14)))))
def lb_wins_2 : MS :=
  (mFg [11, 12, 13, 14] (mSeq (mSetV 12 (mC (.int 1)))
  (mSeq (mFor (mItG gZip2 [.one (.nm 4), .one (.nm 11)]) (.tu [(.nm 13), (.nm 14)]) lb_wins_1)
  (mAug (fOr fAddI fAddS) 10 (.nm 12)))))
def lb_wins_3 : MS :=
  (mFg [9, 10, 11, 12, 13, 14] (mSeq (mSetV 10 (mC (.int 0)))
  (mSeq (mFor (mIt (.nm 9)) (.nm 11) lb_wins_2)
  (mDrop (mApp 8 (mName 10))))))
def m_wins : MS :=
  (mSeq (mSetV 4 (mLc [5, 6, 7] (mItG gZip3 [.one (.nm 0), .one (.nm 2), .one (.nm 3)]) (.tu [(.nm 5), (.nm 6), (.nm 7)]) mYes (mDef 3 f_part_ways [.v (.nm 5), .v (.nm 6), .v (.nm 7)])))
  (mSeq (mSet 8 (mLst []))
  (mSeq (mFor (mIt (.nm 1)) (.nm 9) lb_wins_3)
  (mRet (mCall (c1 gTup) [(.nm 8)])))))
def f_wins : FD := fnD 15 m_wins
/-! start_state: 0 table, 1 one -/
def m_start_state : MS :=
  (mRet (mCall (c1 gTup) [(.ex (mLc [1] (mIt (.ex (mBin fIx (.nm 0) (.ex (mC (.int 3)))))) (.nm 1) mYes (mC (.int 0))))]))
def f_start_state : FD := fnD 2 m_start_state
/-! same_in_places: 0 part, 1 drawn, 2 one, 3 other -/
def m_same_in_places : MS :=
  (mRet (mCall (c1 gLen) [(.ex (mLc [2, 3] (mItG gZip2 [.one (.nm 0), .one (.nm 1)]) (.tu [(.nm 2), (.nm 3)]) (mTB (mBin fEq (.nm 2) (.nm 3))) (mC (.int 1))))]))
def f_same_in_places : FD := fnD 4 m_same_in_places
/-! same_at_end: 0 part, 1 drawn, 2 count -/
def lb_same_at_end_1 : MS :=
  (mAug (fOr fAddI fAddS) 2 (.ex (mC (.int 1))))
def m_same_at_end : MS :=
  (mSeq (mSetV 2 (mC (.int 0)))
  (mSeq (mWh fuel (mAnd (mTB (mBin fLt (.nm 2) (.ex (mCall (c1 gLen) [(.nm 0)])))) (mTB (mBin fEq (.ex (mBin fIx (.nm 0) (.ex (mBin fSub (.ex (mUn fNeg (.ex (mC (.int 1))))) (.nm 2))))) (.ex (mBin fIx (.nm 1) (.ex (mBin fSub (.ex (mUn fNeg (.ex (mC (.int 1))))) (.nm 2)))))))) lb_same_at_end_1)
  (mRetN 2)))
def f_same_at_end : FD := fnD 3 m_same_at_end
/-! hits: 0 game, 1 pick, 2 drawn, 3 found, 4 field, 5 part, 6 other, 7 number -/
def lb_hits_1 : MS :=
  (mFg [4, 5, 6] (mIte (mTB (mBin fEq (.ex (mBin fIx (.nm 4) (.ex (mC (.int 0))))) (.ex (mC (.str "choice"))))) (mDrop (mApp 3 (mCall (c1 gLen) [(.ex (mLc [7] (mIt (.nm 5)) (.nm 7) (mTB (mBin (ofB fInB) (.nm 7) (.nm 6))) (mC (.int 1))))]))) (mIte (mTB (mBin fEq (.ex (mBin fIx (.nm 4) (.ex (mC (.int 0))))) (.ex (mC (.str "figures"))))) (mDrop (mApp 3 (mDef 2 f_same_in_places [.v (.nm 5), .v (.nm 6)]))) (mDrop (mApp 3 (mDef 2 f_same_at_end [.v (.nm 5), .v (.nm 6)]))))))
def m_hits : MS :=
  (mSeq (mSet 3 (mLst []))
  (mSeq (mFor (mItG gZip3 [.one (.nm 0), .one (.nm 1), .one (.nm 2)]) (.tu [(.nm 4), (.nm 5), (.nm 6)]) lb_hits_1)
  (mRet (mCall (c1 gTup) [(.nm 3)]))))
def f_hits : FD := fnD 8 m_hits
/-! class_of: 0 game, 1 classes, 2 pick, 3 drawn, 4 own, 5 place, 6 row -/
def lb_class_of_1 : MS :=
  (mFg [5, 6] (mIte (mTB (mBin (ofB fInB) (.nm 4) (.nm 6))) (mRetN 5) mSk))
def m_class_of : MS :=
  (mSeq (mSetV 4 (mDef 3 f_hits [.v (.nm 0), .v (.nm 2), .v (.nm 3)]))
  (mSeq (mFor (mItG gEnum [.one (.nm 1)]) (.tu [(.nm 5), (.nm 6)]) lb_class_of_1)
  (mRet (mC .none))))
def f_class_of : FD := fnD 7 m_class_of
/-! _law_holds: 0 game, 1 system, 2 pick, 3 k, 4 number, 5 j -/
def lb__law_holds_1 : MS :=
  (mFg [3] (mIte (mTB (mBin fEq (.ex (mBin fIx (.ex (mBin fIx (.nm 0) (.nm 3))) (.ex (mC (.int 0))))) (.ex (mC (.str "choice"))))) (mIte (mTB (mBin fNe (.ex (mLc [4] (mIt (.ex (mBin fIx (.nm 2) (.nm 3)))) (.nm 4) (mTB (mBin (ofNB fInB) (.nm 4) (.ex (mBin fIx (.nm 1) (.nm 3))))) (mName 4))) (.ex (mLst [])))) (mRet (mC (.bool false))) mSk) (mIte (mTB (mBin fNe (.ex (mLc [5] (mRng gR1 [(.ex (mCall (c1 gLen) [(.ex (mBin fIx (.nm 2) (.nm 3)))]))]) (.nm 5) (mTB (mBin (ofNB fInB) (.ex (mBin fIx (.ex (mBin fIx (.nm 2) (.nm 3))) (.nm 5))) (.ex (mBin fIx (.ex (mBin fIx (.nm 1) (.nm 3))) (.nm 5))))) (mName 5))) (.ex (mLst [])))) (mRet (mC (.bool false))) mSk)))
def m__law_holds : MS :=
  (mSeq (mFor (mRng gR1 [(.ex (mCall (c1 gLen) [(.nm 0)]))]) (.nm 3) lb__law_holds_1)
  (mRet (mC (.bool true))))
def f__law_holds : FD := fnD 6 m__law_holds
/-! law: 0 script, 1 draws, 2 game, 3 picks, 4 classes, 5 table, 6 systems, 7 unused, 8 held, 9 system, 10 pick, 11 counts, 12 sums, 13 drawn, 14 winners, 15 told, 16 k, 17 prizes, 18 due, 19 state, 20 change, 21 own, 22 place, 23 paid, 24 part, 25 whole -/
def lb_law_1 : MS :=
  (mFg [9] (mSetV 8 (mBin fAdd (.nm 8) (.ex (mLc [10] (mIt (.nm 3)) (.nm 10) (mTru (.ex (mDef 3 f__law_holds [.v (.nm 2), .v (.nm 9), .v (.nm 10)]))) (mName 10))))))
def lb_law_2 : MS :=
  (mFg [9, 15] (mSeq (mSetV 15 (mDef 4 f_wins [.v (.nm 2), .v (.nm 4), .v (.nm 9), .v (.nm 13)]))
  (mSetV 14 (mLc [16] (mRng gR1 [(.ex (mCall (c1 gLen) [(.nm 4)]))]) (.nm 16) mYes (mBin fAdd (.ex (mBin fIx (.nm 14) (.nm 16))) (.ex (mBin fIx (.nm 15) (.nm 16))))))))
def lb_law_3 : MS :=
  (mFg [10, 22] (mSeq (mSetV 22 (mDef 4 f_class_of [.v (.nm 2), .v (.nm 4), .v (.nm 10), .v (.nm 13)]))
  (mIte (mTB (mBin fIsNot (.nm 22) (.ex (mC .none)))) (mDrop (mApp 21 (mBin fIx (.nm 17) (.nm 22)))) mSk)))
def lb_law_4 : MS :=
  (mSeq (mSub 11 (.nm 16) (mBin fAdd (.ex (mBin fIx (.nm 11) (.nm 16))) (.ex (mBin fIx (.nm 14) (.nm 16)))))
  (mSub 12 (.nm 16) (mBin fAdd (.ex (mBin fIx (.nm 12) (.nm 16))) (.ex (mBin fMul (.ex (mBin fIx (.nm 14) (.nm 16))) (.ex (mBin fIx (.nm 17) (.nm 16))))))))
def lb_law_5 : MS :=
  (mFg [9, 10, 13, 14, 15, 17, 18, 19, 20, 21, 22, 23] (mSeq (mSetV 14 (mBin fMul (.ex (mLst [.one (.ex (mC (.int 0)))])) (.ex (mCall (c1 gLen) [(.nm 4)]))))
  (mSeq (mFor (mIt (.nm 6)) (.nm 9) lb_law_2)
  (mSeq (mAsg (.tu [(.nm 17), (.nm 18), (.nm 19), (.nm 20)]) (mDef 3 f_settle [.v (.nm 5), .v (.ex (mDef 1 f_start_state [.v (.nm 5)])), .v (.ex (mTup [.one (.ex (mCall (c1 gLen) [(.nm 8)])), .one (.ex (mCall (c1 gTup) [(.nm 14)]))]))]))
  (mSeq (mSet 21 (mLst []))
  (mSeq (mFor (mIt (.nm 8)) (.nm 10) lb_law_3)
  (mSeq (mSetV 23 (mCall (c1 gSumA) [(.ex (mLc [16] (mRng gR1 [(.ex (mCall (c1 gLen) [(.nm 4)]))]) (.nm 16) mYes (mBin fMul (.ex (mBin fIx (.nm 14) (.nm 16))) (.ex (mBin fIx (.nm 17) (.nm 16))))))]))
  (mSeq (mIte (mOr (mTB (mBin fNe (.ex (mCall (c1 gSumA) [(.nm 21)])) (.nm 23))) (mOr (mTB (mBin fNe (.ex (mCall (c1 gLen) [(.nm 21)])) (.ex (mCall (c1 gSumA) [(.nm 14)])))) (mTB (mBin fNe (.ex (mBin fMul (.ex (mBin fIx (.nm 5) (.ex (mC (.int 0))))) (.ex (mCall (c1 gLen) [(.nm 8)])))) (.ex (mBin fAdd (.ex (mBin fAdd (.ex (mBin fAdd (.nm 18) (.nm 23))) (.ex (mCall (c1 gSumA) [(.nm 19)])))) (.nm 20))))))) (mRet (mC (.bool false))) mSk)
  (mFor (mRng gR1 [(.ex (mCall (c1 gLen) [(.nm 4)]))]) (.nm 16) lb_law_4)))))))))
def lb_law_6 : MS :=
  (mFg [16, 24, 25] (mSeq (mAsg (.tu [(.nm 24), (.nm 25)]) (mDef 3 f_chance [.v (.nm 2), .v (.nm 4), .v (.nm 16)]))
  (mSeq (mIte (mTB (mBin fNe (.ex (mBin fMul (.ex (mBin fIx (.nm 11) (.nm 16))) (.nm 25))) (.ex (mBin fMul (.ex (mBin fMul (.ex (mCall (c1 gLen) [(.nm 8)])) (.nm 24))) (.ex (mCall (c1 gLen) [(.nm 3)])))))) (mRet (mC (.bool false))) mSk)
  (mIte (mAnd (mTB (mBin fEq (.ex (mBin fIx (.ex (mBin fIx (.ex (mBin fIx (.nm 5) (.ex (mC (.int 3))))) (.nm 16))) (.ex (mC (.int 0))))) (.ex (mC (.str "fixed"))))) (mTB (mBin fNe (.ex (mBin fMul (.ex (mBin fIx (.nm 12) (.nm 16))) (.nm 25))) (.ex (mBin fMul (.ex (mBin fMul (.ex (mBin fMul (.ex (mCall (c1 gLen) [(.nm 8)])) (.nm 24))) (.ex (mCall (c1 gLen) [(.nm 3)])))) (.ex (mBin fIx (.ex (mBin fIx (.ex (mBin fIx (.nm 5) (.ex (mC (.int 3))))) (.nm 16))) (.ex (mC (.int 1)))))))))) (mRet (mC (.bool false))) mSk))))
def m_law : MS :=
  (mSeq (mSet 1 (mDef 1 f__law_draws [.fz 0]))
  (mSeq (mSetV 2 (mDef 2 f__law_game [.io 1, .v (.ex (mC (.int 60)))]))
  (mSeq (mSetV 3 (mDef 1 f__law_picks [.v (.nm 2)]))
  (mSeq (mSetV 4 (mDef 2 f__law_classes [.io 1, .v (.nm 2)]))
  (mSeq (mSetV 5 (mDef 2 f__law_table [.io 1, .v (.ex (mCall (c1 gLen) [(.nm 4)]))]))
  (mSeq (mSetV 6 (mLc [7] (mRng gR1 [(.ex (mDef 2 f__law_take [.io 1, .v (.ex (mC (.int 4)))]))]) (.nm 7) mYes (mDef 2 f__law_system [.io 1, .v (.nm 2)])))
  (mSeq (mSetV 8 (mLst []))
  (mSeq (mFor (mIt (.nm 6)) (.nm 9) lb_law_1)
  (mSeq (mSet 11 (mBin fMul (.ex (mLst [.one (.ex (mC (.int 0)))])) (.ex (mCall (c1 gLen) [(.nm 4)]))))
  (mSeq (mSet 12 (mBin fMul (.ex (mLst [.one (.ex (mC (.int 0)))])) (.ex (mCall (c1 gLen) [(.nm 4)]))))
  (mSeq (mFor (mIt (.nm 3)) (.nm 13) lb_law_5)
  (mSeq (mFor (mRng gR1 [(.ex (mCall (c1 gLen) [(.nm 4)]))]) (.nm 16) lb_law_6)
  (mRet (mC (.bool true)))))))))))))))
def f_law : FD := fnD 26 m_law
end LW
set_option Elab.async false
set_option linter.all false
set_option maxRecDepth 100000
set_option maxHeartbeats 4000000
namespace LW
open PySem PySem.Spec PyProof.Rows L2 RT DL
abbrev iL (ns : List Int) : List D := ns.map PyData.int
theorem iL_snoc (ns : List Int) (a : Int) : iL ns ++ [PyData.int a] = iL (ns ++ [a]) := by simp
def tk (ds : List Int) (n : Int) : Int := match ds.getLast? with
  | none => 0
  | some x => x % n
def tkr (ds : List Int) : List Int := ds.dropLast
theorem take_eq (ds : List Int) (n : Int) (hn : 0 < n) : FE f__law_take [.io (.ls (iL ds)), .d (.int n)] (.val (.int (tk ds n))) (some (.ls (iL (tkr ds)))) := by
  refine fe_of ?_
  unfold m__law_take
  show RS _ [.io (.ls (iL ds)), .val (.int n)] _
  ((with_reducible (apply s_seq; apply s_ite; apply g_TB; apply g_bin; apply g_ex; apply g_call; apply g_evC; apply g_nm; exact DAt.i; apply g_evN; apply callk; apply ResAll.cons; apply Res.nm; exact DAt.i; exact ResAll.nil; apply opn_1; exact oo_lenL _; apply datk_v; apply g_ex; apply g_C; apply datk_v; apply bink; (iterate 2 exact Res.dat); exact oo_eq _ _; apply boolk)))
  refine ifk_d (fun h => ?_) (fun h => ?_)
  · ((with_reducible (apply s_ret; apply g_C; apply ks_rt; apply qd_rt; exact IoR.io)))
    have e : ds = [] := by simpa using h
    subst e
    rfl
  · ((with_reducible (apply s_sk; apply ks_nx; apply s_ret; apply g_bin; apply g_ex; apply g_call; apply g_evC; apply g_ex)))
    have hl : ds ≠ [] := fun e => h (by rw [e]; rfl)
    refine g_pop (d := .int (ds.getLast hl)) .io ?_ ?_
    · rw [← List.getLast?_eq_getElem?, List.getLast?_map, List.getLast?_eq_some_getLast hl]; rfl
    ((with_reducible (apply datk_v; apply g_evN; apply callk; apply ResAll.cons; exact Res.dat; exact ResAll.nil; apply opn_1; exact oo_int _; apply datk_v; apply g_nm; apply DAt.s; exact DAt.v; apply bink; exact Res.dat; apply Res.nm; apply DAt.s; exact DAt.v; apply oo_mod)); (unfold DL.Pos; (first | assumption | decide | omega)); (with_reducible (apply qd_rt; exact IoR.io)))
    unfold tk tkr
    rw [List.getLast?_eq_some_getLast hl]; simp only [iL, List.map_dropLast]
theorem defk_take {ds : List Int} {n : Int} {i : Nat} {ρ : Rho} {g : List D → Rho} {P : Rv → Rho → Prop} (h0 : LAt ρ i (iL ds) g) (hn : DL.Pos n) (h : ∀ (x : Int) (ds' : List Int), 0 ≤ x → x < n → P (.val (.int x)) (g (iL ds'))) : DefK 2 f__law_take [.io i, .d (.int n)] ρ P :=
  defk_io (.io h0 (.d .nil)) (.d ⟨rfl, Nat.le_refl _⟩) h0 (take_eq ds n hn) (h _ _ (by unfold tk; split; exact Int.le_refl _; exact Int.emod_nonneg _ (Int.ne_of_gt hn)) (by unfold tk; split; exact hn; exact Int.emod_lt_of_pos _ hn))
theorem tk_nonneg (ds : List Int) {n : Int} (hn : 0 < n) : 0 ≤ tk ds n := by
  unfold tk
  split
  · exact Int.le_refl _
  · exact Int.emod_nonneg _ (by omega)
theorem tk_lt (ds : List Int) {n : Int} (hn : 0 < n) : tk ds n < n := by
  unfold tk
  split
  · exact hn
  · exact Int.emod_lt_of_pos _ hn
theorem draws1 {ns : List Int} {s2 s4 : Sl} (n0 : Int) (ds0 : List Int) (h0 : ds0.length ≤ 10000000) (h2 : s2.free = true) (h4 : s4.free = true) :
    ∃ ds n, ds.length ≤ ds0.length + 60 ∧ forD (.nm 5) lb__law_draws_1 ((rng 0 60).map PyData.int) [.fz ns, .own (.ls (iL ds0)), s2, .val (.int n0), s4, .un, .un] = .nx [.fz ns, .own (.ls (iL ds)), s2, .val (.int n), s4, .un, .un] := by
  obtain ⟨ρ', h1, ds, n, hl, rfl⟩ := for_inv (c := .nm 5) (b := lb__law_draws_1) PyData.int (fun pre ρ => ∃ ds n, ds.length ≤ ds0.length + pre.length ∧ ρ = [.fz ns, .own (.ls (iL ds)), s2, .val (.int n), s4, .un, .un]) (xs := rng 0 60)
    (ρ := [.fz ns, .own (.ls (iL ds0)), s2, .val (.int n0), s4, .un, .un]) ⟨ds0, n0, Nat.le_refl _, rfl⟩ (by
      rintro pre x suf ρ e ⟨ds, n, hl, rfl⟩
      have hp := rng_split e
      refine ⟨_, .nm (by ((with_reducible ((iterate 5 apply FPut.s); exact FPut.u)))), ?_⟩
      unfold lb__law_draws_1
      ((with_reducible (apply s_fg; apply s_ite; apply g_TB; apply g_bin; apply g_nm; (iterate 3 apply DAt.s); exact DAt.v; apply g_ex; apply g_C; apply datk_v; apply bink; apply Res.nm; (iterate 3 apply DAt.s); exact DAt.v; exact Res.dat; exact oo_gt _ _; apply boolk)))
      refine ifk_d (fun h => ?_) (fun h => ?_)
      · ((with_reducible (apply s_seq; apply s_drop; apply g_app; apply LAt.s; exact LAt.o; apply g_bin; apply g_ex; apply g_call; apply g_evC; apply g_nm; (iterate 3 apply DAt.s); exact DAt.v; apply g_evN; apply callk; apply ResAll.cons; apply Res.nm; (iterate 3 apply DAt.s); exact DAt.v; exact ResAll.nil; apply opn_1; exact oo_int _; apply datk_v; apply g_ex; apply g_C; apply datk_v; apply bink; (iterate 2 exact Res.dat); apply oo_mod)); (unfold DL.Pos; (first | assumption | decide | omega)); (with_reducible (apply datk_v; apply appk; apply LAt.s; exact LAt.o)); ((with_reducible apply fits1_of); ((try simp only [List.length_append, List.length_cons, List.length_nil, List.length_map, List.length_replicate, List.length_reverse, List.length_dropLast]); (first | assumption | omega | decide))); (with_reducible (apply ks_nx; apply s_setV; apply g_bin; apply g_nm; (iterate 3 apply DAt.s); exact DAt.v; apply g_ex; apply g_C; apply datk_v; apply bink; apply Res.nm; (iterate 3 apply DAt.s); exact DAt.v; exact Res.dat; apply oo_div)); (refine ⟨?_, ?_⟩ <;> (first | decide | omega)); (with_reducible (apply datk_v; apply stk; (iterate 3 apply FPut.s); exact FPut.v; apply kf_nx; apply Fgs.cons; (iterate 5 apply Fg1.s); exact Fg1.v; exact Fgs.nil; apply qn_nx)))
        exact ⟨ds ++ [n % 997], n / 997, by simp; omega, by simp⟩
      · ((with_reducible (apply s_sk; apply kf_nx; apply Fgs.cons; (iterate 5 apply Fg1.s); exact Fg1.v; exact Fgs.nil; apply qn_nx)))
        exact ⟨ds, n, by simp; omega, rfl⟩)
  have e : (rng 0 60).length = 60 := by rw [rng_len]; rfl
  exact ⟨ds, n, by omega, h1⟩
theorem draws2 (ns : List Int) (hns : ns.length ≤ 1000) :
    ∃ ds, ds.length ≤ 62 * ns.length ∧ forD (.nm 2) lb__law_draws_2 (ns.map PyData.int) [.fz ns, .own (.ls (iL [])), .un, .un, .un, .un, .un] = .nx [.fz ns, .own (.ls (iL ds)), .un, .un, .un, .un, .un] := by
  obtain ⟨ρ', h1, ds, hl, rfl⟩ := for_inv (c := .nm 2) (b := lb__law_draws_2) PyData.int (fun pre ρ => ∃ ds, ds.length ≤ 62 * pre.length ∧ ρ = [.fz ns, .own (.ls (iL ds)), .un, .un, .un, .un, .un]) (xs := ns)
    (ρ := [.fz ns, .own (.ls (iL [])), .un, .un, .un, .un, .un]) ⟨[], Nat.le_refl _, rfl⟩ (by
      rintro pre x suf ρ e ⟨ds, hl, rfl⟩
      have hp : pre.length < ns.length := by rw [e]; simp
      refine ⟨_, .nm (by ((with_reducible ((iterate 2 apply FPut.s); exact FPut.u)))), ?_⟩
      unfold lb__law_draws_2
      ((with_reducible (apply s_fg; apply s_seq; apply s_setV; apply g_call; apply g_evC; apply g_nm; (iterate 2 apply DAt.s); exact DAt.v; apply g_evN; apply callk; apply ResAll.cons; apply Res.nm; (iterate 2 apply DAt.s); exact DAt.v; exact ResAll.nil; apply opn_1; exact oo_abs _; apply datk_v; apply stk; (iterate 3 apply FPut.s); exact FPut.u; apply ks_nx; apply s_seq; apply s_ite; apply g_TB; apply g_bin; apply g_nm; (iterate 3 apply DAt.s); exact DAt.v; apply g_ex; apply g_bin; apply g_ex; apply g_C; apply datk_v; apply g_ex; apply g_C; apply datk_v; apply bink; (iterate 2 exact Res.dat); exact oo_pow18; apply datk_v; apply bink; apply Res.nm; (iterate 3 apply DAt.s); exact DAt.v; exact Res.dat; exact oo_lt _ _; apply boolk)))
      refine ifk_d (fun h => ?_) (fun h => ?_)
      · ((with_reducible (apply s_seq; apply s_setV; apply g_bin; apply g_ex; apply g_call; apply g_evC; apply g_ex; apply g_bin; apply g_ex; apply g_bin; apply g_nm; (iterate 3 apply DAt.s); exact DAt.v; apply g_ex; apply g_C; apply datk_v; apply bink; apply Res.nm; (iterate 3 apply DAt.s); exact DAt.v; exact Res.dat; apply oo_mul)); ((with_reducible refine mulOk_r ?_ ?_) <;> (first | decide | omega)); (with_reducible (apply datk_v; apply g_ex; apply g_C; apply datk_v; apply bink; (iterate 2 exact Res.dat); exact oo_add _ _; apply datk_v; apply g_evN; apply callk; apply ResAll.cons; exact Res.dat; exact ResAll.nil; apply opn_1; exact oo_int _; apply datk_v; apply g_ex; apply g_C; apply datk_v; apply bink; (iterate 2 exact Res.dat); apply oo_mod)); (unfold DL.Pos; (first | assumption | decide | omega)); (with_reducible (apply datk_v; apply stk; (iterate 4 apply FPut.s); exact FPut.u; apply ks_nx; apply s_seq; apply s_drop; apply g_app; apply LAt.s; exact LAt.o; apply g_bin; apply g_ex; apply g_call; apply g_evC; apply g_ex; apply g_bin; apply g_ex; apply g_bin; apply g_nm; (iterate 4 apply DAt.s); exact DAt.v; apply g_ex; apply g_C; apply datk_v; apply bink; apply Res.nm; (iterate 4 apply DAt.s); exact DAt.v; exact Res.dat; apply oo_mul)); ((with_reducible refine mulOk_r ?_ ?_) <;> (first | decide | omega)); (with_reducible (apply datk_v; apply g_nm; (iterate 3 apply DAt.s); exact DAt.v; apply bink; exact Res.dat; apply Res.nm; (iterate 3 apply DAt.s); exact DAt.v; exact oo_add _ _; apply datk_v; apply g_evN; apply callk; apply ResAll.cons; exact Res.dat; exact ResAll.nil; apply opn_1; exact oo_int _; apply datk_v; apply g_ex; apply g_C; apply datk_v; apply bink; (iterate 2 exact Res.dat); apply oo_mod)); (unfold DL.Pos; (first | assumption | decide | omega)); (with_reducible (apply datk_v; apply appk; apply LAt.s; exact LAt.o)); ((with_reducible apply fits1_of); ((try simp only [List.length_append, List.length_cons, List.length_nil, List.length_map, List.length_replicate, List.length_reverse, List.length_dropLast]); (first | assumption | omega | decide))); (with_reducible (apply ks_nx; apply s_seq; apply s_drop; apply g_app; apply LAt.s; exact LAt.o; apply g_bin; apply g_ex; apply g_call; apply g_evC; apply g_ex; apply g_bin; apply g_nm; (iterate 4 apply DAt.s); exact DAt.v; apply g_ex; apply g_bin; apply g_nm; (iterate 3 apply DAt.s); exact DAt.v; apply g_ex; apply g_C; apply datk_v; apply bink; apply Res.nm; (iterate 3 apply DAt.s); exact DAt.v; exact Res.dat; apply oo_div)); (refine ⟨?_, ?_⟩ <;> (first | decide | omega)); (with_reducible (apply datk_v; apply bink; apply Res.nm; (iterate 4 apply DAt.s); exact DAt.v; exact Res.dat; exact oo_add _ _; apply datk_v; apply g_evN; apply callk; apply ResAll.cons; exact Res.dat; exact ResAll.nil; apply opn_1; exact oo_int _; apply datk_v; apply g_ex; apply g_C; apply datk_v; apply bink; (iterate 2 exact Res.dat); apply oo_mod)); (unfold DL.Pos; (first | assumption | decide | omega)); (with_reducible (apply datk_v; apply appk; apply LAt.s; exact LAt.o)); ((with_reducible apply fits1_of); ((try simp only [List.length_append, List.length_cons, List.length_nil, List.length_map, List.length_replicate, List.length_reverse, List.length_dropLast]); (first | assumption | omega | decide))); (with_reducible (apply ks_nx; apply s_setV; apply g_C; apply datk_v; apply stk; (iterate 3 apply FPut.s); exact FPut.v; apply ks_nx; apply s_for; apply g_rng; apply g_evC; apply g_ex; apply g_C; apply datk_v; apply g_evN; apply rngk; apply ResAll.cons; exact Res.dat; exact ResAll.nil; apply opl_r1)); (refine ⟨?_, ?_⟩ <;> (first | decide | omega)))
        simp only [iL_snoc]
        obtain ⟨ds', n', hl', h1⟩ := draws1 (ns := ns) (s2 := .val (.int x)) (s4 := .val (.int (((if x < 0 then -x else x) * 48271 + 11) % 2147483647))) 0 (ds ++ [(((if x < 0 then -x else x) * 48271 + 11) % 2147483647 * 69621 + if x < 0 then -x else x) % 2147483629] ++ [(((if x < 0 then -x else x) * 48271 + 11) % 2147483647 + (if x < 0 then -x else x) / 7) % 1000003]) (by simp only [List.length_append, List.length_cons, List.length_nil]; omega) rfl rfl
        refine forK h1 ?_
        ((with_reducible (apply kf_nx; apply Fgs.cons; (iterate 2 apply Fg1.s); exact Fg1.v; apply Fgs.cons; (iterate 3 apply Fg1.s); exact Fg1.v; apply Fgs.cons; (iterate 4 apply Fg1.s); exact Fg1.v; apply Fgs.cons; (iterate 5 apply Fg1.s); exact Fg1.u; exact Fgs.nil; apply qn_nx)))
        exact ⟨ds', by simp only [List.length_append, List.length_cons, List.length_nil] at hl' ⊢; omega, rfl⟩
      · ((with_reducible (apply s_sk; apply ks_nx; apply s_for; apply g_rng; apply g_evC; apply g_ex; apply g_C; apply datk_v; apply g_evN; apply rngk; apply ResAll.cons; exact Res.dat; exact ResAll.nil; apply opl_r1)); (refine ⟨?_, ?_⟩ <;> (first | decide | omega)))
        obtain ⟨ds', n', hl', h1⟩ := draws1 (ns := ns) (s2 := .val (.int x)) (s4 := .un) (if x < 0 then -x else x) ds (by omega) rfl rfl
        refine forK h1 ?_
        ((with_reducible (apply kf_nx; apply Fgs.cons; (iterate 2 apply Fg1.s); exact Fg1.v; apply Fgs.cons; (iterate 3 apply Fg1.s); exact Fg1.v; apply Fgs.cons; (iterate 4 apply Fg1.s); exact Fg1.u; apply Fgs.cons; (iterate 5 apply Fg1.s); exact Fg1.u; exact Fgs.nil; apply qn_nx)))
        exact ⟨ds', by simp only [List.length_append, List.length_cons, List.length_nil] at hl' ⊢; omega, rfl⟩)
  exact ⟨ds, hl, h1⟩
theorem draws3 {ns : List Int} (n0 : Int) (ds0 : List Int) (h0 : ds0.length ≤ 10000000) :
    ∃ ds n, forD (.nm 5) lb__law_draws_3 ((rng 0 900).map PyData.int) [.fz ns, .own (.ls (iL ds0)), .un, .un, .un, .un, .val (.int n0)] = .nx [.fz ns, .own (.ls (iL ds)), .un, .un, .un, .un, .val (.int n)] := by
  obtain ⟨ρ', h1, ds, n, hl, rfl⟩ := for_inv (c := .nm 5) (b := lb__law_draws_3) PyData.int (fun pre ρ => ∃ ds n, ds.length ≤ ds0.length + pre.length ∧ ρ = [.fz ns, .own (.ls (iL ds)), .un, .un, .un, .un, .val (.int n)]) (xs := rng 0 900)
    (ρ := [.fz ns, .own (.ls (iL ds0)), .un, .un, .un, .un, .val (.int n0)]) ⟨ds0, n0, Nat.le_refl _, rfl⟩ (by
      rintro pre x suf ρ e ⟨ds, n, hl, rfl⟩
      have hp := rng_split e
      refine ⟨_, .nm (by ((with_reducible ((iterate 5 apply FPut.s); exact FPut.u)))), ?_⟩
      unfold lb__law_draws_3
      ((with_reducible (apply s_fg; apply s_seq; apply s_setV; apply g_bin; apply g_ex; apply g_call; apply g_evC; apply g_ex; apply g_bin; apply g_ex; apply g_bin; apply g_nm; (iterate 6 apply DAt.s); exact DAt.v; apply g_ex; apply g_C; apply datk_v; apply bink; apply Res.nm; (iterate 6 apply DAt.s); exact DAt.v; exact Res.dat; apply oo_mul)); ((with_reducible refine mulOk_r ?_ ?_) <;> (first | decide | omega)); (with_reducible (apply datk_v; apply g_ex; apply g_C; apply datk_v; apply bink; (iterate 2 exact Res.dat); exact oo_add _ _; apply datk_v; apply g_evN; apply callk; apply ResAll.cons; exact Res.dat; exact ResAll.nil; apply opn_1; exact oo_int _; apply datk_v; apply g_ex; apply g_C; apply datk_v; apply bink; (iterate 2 exact Res.dat); apply oo_mod)); (unfold DL.Pos; (first | assumption | decide | omega)); (with_reducible (apply datk_v; apply stk; (iterate 6 apply FPut.s); exact FPut.v; apply ks_nx; apply s_drop; apply g_app; apply LAt.s; exact LAt.o; apply g_bin; apply g_nm; (iterate 6 apply DAt.s); exact DAt.v; apply g_ex; apply g_C; apply datk_v; apply bink; apply Res.nm; (iterate 6 apply DAt.s); exact DAt.v; exact Res.dat; apply oo_div)); (refine ⟨?_, ?_⟩ <;> (first | decide | omega)); (with_reducible (apply datk_v; apply appk; apply LAt.s; exact LAt.o)); ((with_reducible apply fits1_of); ((try simp only [List.length_append, List.length_cons, List.length_nil, List.length_map, List.length_replicate, List.length_reverse, List.length_dropLast]); (first | assumption | omega | decide))); (with_reducible (apply kf_nx; apply Fgs.cons; (iterate 5 apply Fg1.s); exact Fg1.v; exact Fgs.nil; apply qn_nx)))
      exact ⟨ds ++ [(n * 48271 + 69621) % 2147483647 / 5], _, by simp; omega, by simp; rfl⟩)
  exact ⟨ds, n, h1⟩
theorem draws_eq (ns : List Int) (hns : ns.length ≤ 1000) : ∃ ds, FE f__law_draws [.fz ns] (.own (.ls (iL ds))) none := by
  obtain ⟨ds, hl, h1⟩ := draws2 ns hns
  cases ns with
  | nil =>
    obtain ⟨ds', n', h2⟩ := draws3 (ns := []) 1 ds (by simp at hl; simp [hl])
    refine ⟨ds'.reverse, ?_⟩
    refine fe_of ?_
    unfold m__law_draws
    show RS _ [.fz [], .un, .un, .un, .un, .un, .un] _
    ((with_reducible (apply s_seq; apply s_set; apply g_lst; apply g_elN; apply And.intro (a := Fits _))); ((with_reducible apply fits_of); ((try simp only [List.length_append, List.length_cons, List.length_nil, List.length_map, List.length_replicate, List.length_reverse, List.length_dropLast]); (first | assumption | omega | decide))); (with_reducible (apply slk_o; apply stk; apply FPut.s; exact FPut.u; apply ks_nx; apply s_seq; apply s_for; apply g_itZ; exact At.z)))
    refine forK h1 ?_
    ((with_reducible (apply ks_nx; apply s_seq; apply s_setV; apply g_C; apply datk_v; apply stk; (iterate 6 apply FPut.s); exact FPut.u; apply ks_nx; apply s_seq; apply s_ite; apply g_TB; apply g_bin; apply g_ex; apply g_lenZ; exact At.z; apply datk_v; apply g_ex; apply g_C; apply datk_v; apply bink; (iterate 2 exact Res.dat); exact oo_gt _ _; apply boolk)))
    refine ifk_n (by decide) ?_
    ((with_reducible (apply s_sk; apply ks_nx; apply s_seq; apply s_for; apply g_rng; apply g_evC; apply g_ex; apply g_C; apply datk_v; apply g_evN; apply rngk; apply ResAll.cons; exact Res.dat; exact ResAll.nil; apply opl_r1)); (refine ⟨?_, ?_⟩ <;> (first | decide | omega)))
    refine forK h2 ?_
    ((with_reducible (apply ks_nx; apply s_ret; apply g_un; apply g_nm; apply DAt.s; exact DAt.o; apply unk; apply Res.nm; apply DAt.s; exact DAt.o; exact oo_rev _; apply qd_rt; apply IoR.fz; apply IoR.own; (iterate 4 apply IoR.un); apply IoR.val; exact IoR.nil)))
    simp only [iL, List.map_reverse]
  | cons x ns =>
    obtain ⟨ds', n', h2⟩ := draws3 (ns := x :: ns) (1 + if x < 0 then -x else x) ds (by omega)
    refine ⟨ds'.reverse, ?_⟩
    refine fe_of ?_
    unfold m__law_draws
    show RS _ [.fz (x :: ns), .un, .un, .un, .un, .un, .un] _
    ((with_reducible (apply s_seq; apply s_set; apply g_lst; apply g_elN; apply And.intro (a := Fits _))); ((with_reducible apply fits_of); ((try simp only [List.length_append, List.length_cons, List.length_nil, List.length_map, List.length_replicate, List.length_reverse, List.length_dropLast]); (first | assumption | omega | decide))); (with_reducible (apply slk_o; apply stk; apply FPut.s; exact FPut.u; apply ks_nx; apply s_seq; apply s_for; apply g_itZ; exact At.z)))
    refine forK h1 ?_
    ((with_reducible (apply ks_nx; apply s_seq; apply s_setV; apply g_C; apply datk_v; apply stk; (iterate 6 apply FPut.s); exact FPut.u; apply ks_nx; apply s_seq; apply s_ite; apply g_TB; apply g_bin; apply g_ex; apply g_lenZ; exact At.z; apply datk_v; apply g_ex; apply g_C; apply datk_v; apply bink; (iterate 2 exact Res.dat); exact oo_gt _ _; apply boolk)))
    refine ifk_y (by simp only [List.length_cons]; omega) ?_
    ((with_reducible (apply s_setV; apply g_bin; apply g_ex; apply g_C; apply datk_v; apply g_ex; apply g_call; apply g_evC; apply g_ex)))
    refine g_ixZ .z ?_
    ((with_reducible (apply g_ex; apply g_C; apply datk_v)))
    refine ixzk .z .dat (n := x) (by simp [atI, ixN]) ?_
    ((with_reducible (apply datk_v; apply g_evN; apply callk; apply ResAll.cons; exact Res.dat; exact ResAll.nil; apply opn_1; exact oo_abs _; apply datk_v; apply bink; (iterate 2 exact Res.dat); exact oo_add _ _; apply datk_v; apply stk; (iterate 6 apply FPut.s); exact FPut.v; apply ks_nx; apply s_seq; apply s_for; apply g_rng; apply g_evC; apply g_ex; apply g_C; apply datk_v; apply g_evN; apply rngk; apply ResAll.cons; exact Res.dat; exact ResAll.nil; apply opl_r1)); (refine ⟨?_, ?_⟩ <;> (first | decide | omega)))
    refine forK h2 ?_
    ((with_reducible (apply ks_nx; apply s_ret; apply g_un; apply g_nm; apply DAt.s; exact DAt.o; apply unk; apply Res.nm; apply DAt.s; exact DAt.o; exact oo_rev _; apply qd_rt; apply IoR.fz; apply IoR.own; (iterate 4 apply IoR.un); apply IoR.val; exact IoR.nil)))
    simp only [iL, List.map_reverse]

end LW
set_option Elab.async false
set_option linter.all false
set_option maxRecDepth 100000
set_option maxHeartbeats 4000000
namespace LW
open PySem PySem.Spec PyProof.Rows L2 RT DL
inductive Kd where
  | ch | fi | ta
  deriving DecidableEq
def Kd.s : Kd → Str
  | .ch => "choice"
  | .fi => "figures"
  | .ta => "tail"
theorem kd_ch {k : Kd} : k.s = "choice" ↔ k = .ch := by cases k <;> decide
theorem kd_fi {k : Kd} : k.s = "figures" ↔ k = .fi := by cases k <;> decide
theorem kd_ta {k : Kd} : k.s = "tail" ↔ k = .ta := by cases k <;> decide
structure Fd where
  kd : Kd
  n : Nat
  k : Nat
abbrev encF (f : Fd) : D := .tuple [.str f.kd.s, .int f.n, .int f.k]
abbrev enc1 (p : List Int) : D := .tuple (iL p)
abbrev encL (ps : List (List Int)) : D := .list (ps.map enc1)
def mx (p : List Int) : Int := p.foldl (fun a b => if b > a then b else a) 0
def fst1 (f : Fd) (p : List Int) : Int := if f.kd = .ch then 1 + mx p else 0
def lst1 (f : Fd) : Int := if f.kd = .ch then f.n + 1 else f.n
def ext1 (f : Fd) (p : List Int) : List (List Int) := (rng (fst1 f p) (lst1 f)).map fun x => p ++ [x]
def partsN (f : Fd) : Nat → List (List Int)
  | 0 => [[]]
  | t + 1 => (partsN f t).flatMap (ext1 f)
def parts (f : Fd) : List (List Int) := partsN f f.k
theorem mx_bound : ∀ (p : List Int) (a b : Int), a ≤ b → (∀ x ∈ p, x ≤ b) → a ≤ p.foldl (fun a b => if b > a then b else a) a ∧ p.foldl (fun a b => if b > a then b else a) a ≤ b
  | [], a, b, h, _ => ⟨Int.le_refl _, h⟩
  | x :: p, a, b, h, hp => by
    have hx := hp x List.mem_cons_self
    obtain ⟨h1, h2⟩ := mx_bound p (if x > a then x else a) b (by split <;> omega) fun y hy => hp y (List.mem_cons_of_mem _ hy)
    refine ⟨?_, h2⟩
    rw [List.foldl_cons]
    refine Int.le_trans ?_ h1
    split <;> omega
theorem partsN_bound (f : Fd) : ∀ (t : Nat) (p : List Int), p ∈ partsN f t → ∀ x ∈ p, 0 ≤ x ∧ x ≤ f.n
  | 0, p, h, x, hx => by
    have e : p = [] := by simpa [partsN] using h
    subst e; cases hx
  | t + 1, p, h, x, hx => by
    simp only [partsN, List.mem_flatMap, ext1, List.mem_map] at h
    obtain ⟨q, hq, y, hy, rfl⟩ := h
    have ih := partsN_bound f t q hq
    rcases List.mem_append.mp hx with hx | hx
    · exact ih x hx
    · have e : x = y := by simpa using hx
      subst e
      obtain ⟨h1, h2⟩ := mem_rng.mp hy
      unfold fst1 at h1
      unfold lst1 at h2
      have := (mx_bound q 0 f.n (by omega) fun z hz => (ih z hz).2).1
      unfold mx at h1
      split at h1 <;> (split at h2 <;> omega)
theorem fst1_bound (f : Fd) {t : Nat} {p : List Int} (h : p ∈ partsN f t) : 0 ≤ fst1 f p ∧ fst1 f p ≤ f.n + 1 := by
  have := mx_bound p 0 f.n (by omega) fun z hz => (partsN_bound f t p h z hz).2
  unfold fst1 mx
  split <;> omega
theorem lst1_bound (f : Fd) : 0 ≤ lst1 f ∧ lst1 f ≤ f.n + 1 := by unfold lst1; split <;> omega
theorem partsN_len (f : Fd) : ∀ (t : Nat) (p : List Int), p ∈ partsN f t → p.length = t
  | 0, p, h => by have e : p = [] := by simpa [partsN] using h
                  subst e; rfl
  | t + 1, p, h => by
    simp only [partsN, List.mem_flatMap, ext1, List.mem_map] at h
    obtain ⟨q, hq, y, hy, rfl⟩ := h
    rw [List.length_append, partsN_len f t q hq]; rfl
theorem flatMap_len_le {α β : Type} (f : α → List β) (m : Nat) : ∀ (xs : List α), (∀ x ∈ xs, (f x).length ≤ m) → (xs.flatMap f).length ≤ xs.length * m
  | [], _ => by simp
  | x :: xs, h => by
    rw [List.flatMap_cons, List.length_append, List.length_cons, Nat.add_mul, Nat.one_mul]
    have := h x List.mem_cons_self
    have := flatMap_len_le f m xs fun y hy => h y (List.mem_cons_of_mem _ hy)
    omega
theorem partsN_size (f : Fd) (hn : f.n ≤ 9) : ∀ (t : Nat), (partsN f t).length ≤ 11 ^ t
  | 0 => by simp [partsN]
  | t + 1 => by
    have ih := partsN_size f hn t
    have := flatMap_len_le (ext1 f) 11 (partsN f t) fun p hp => by
      unfold ext1
      rw [List.length_map, rng_len]
      have := fst1_bound f hp
      have := lst1_bound f
      omega
    show ((partsN f t).flatMap (ext1 f)).length ≤ _
    rw [Nat.pow_succ]
    exact Nat.le_trans this (Nat.mul_le_mul_right _ ih)
theorem max1_of (p : List Int) : Op1 gMax1 (.list ([.int 0] ++ iL p)) (.val (.int (mx p))) := by
  unfold Op1 gMax1
  have e : intsD (.int 0 :: iL p) = some (0 :: p) := intsD_of (0 :: p)
  simp [e, topI, mx]
/-- the innermost loop: one number more -/
theorem parts1 {s0 s1 s2 s3 s4 s5 s8 : Sl} {A : List D} {p : List Int} (hp : p.length ≤ 1000) (xs : List Int) (hA : A.length + xs.length ≤ 16000000) :
    forD (.nm 9) lb__law_parts_1 (xs.map PyData.int) [s0, s1, s2, s3, s4, s5, .own (.ls A), .val (enc1 p), s8, .un] = .nx [s0, s1, s2, s3, s4, s5, .own (.ls (A ++ xs.map fun x => enc1 (p ++ [x]))), .val (enc1 p), s8, .un] := by
  have key := for_pre (c := .nm 9) (b := lb__law_parts_1) PyData.int (fun pre => [s0, s1, s2, s3, s4, s5, .own (.ls (A ++ pre.map fun x => enc1 (p ++ [x]))), .val (enc1 p), s8, .un]) xs (by
    intro pre x suf e
    have hl : pre.length < xs.length := by rw [e]; simp
    refine ⟨_, .nm (by ((with_reducible ((iterate 9 apply FPut.s); exact FPut.u)))), ?_⟩
    unfold lb__law_parts_1
    ((with_reducible (apply s_fg; apply s_drop; apply g_app; (iterate 6 apply LAt.s); exact LAt.o; apply g_bin; apply g_nm; (iterate 7 apply DAt.s); exact DAt.v; apply g_ex; apply g_tup; apply g_elO; apply g_escN; apply g_name; (iterate 9 apply NmAt.s); exact NmAt.v; apply datk_v; apply g_elN; apply And.intro (a := Fits _))); ((with_reducible apply fits_of); ((try simp only [List.length_append, List.length_cons, List.length_nil, List.length_map, List.length_replicate, List.length_reverse, List.length_dropLast]); (first | assumption | omega | decide))); (with_reducible (apply datk_v; apply bink; apply Res.nm; (iterate 7 apply DAt.s); exact DAt.v; exact Res.dat; apply oo_addT)); ((with_reducible apply fits_of); ((try simp only [List.length_append, List.length_cons, List.length_nil, List.length_map, List.length_replicate, List.length_reverse, List.length_dropLast]); (first | assumption | omega | decide))); (with_reducible (apply datk_v; apply appk; (iterate 6 apply LAt.s); exact LAt.o)); ((with_reducible apply fits1_of); ((try simp only [List.length_append, List.length_cons, List.length_nil, List.length_map, List.length_replicate, List.length_reverse, List.length_dropLast]); (first | assumption | omega | decide))); (with_reducible (apply kf_nx; apply Fgs.cons; (iterate 9 apply Fg1.s); exact Fg1.v; exact Fgs.nil; apply qn_nx)))
    simp)
  simpa using key
theorem parts2 {s0 s3 s5 : Sl} {f : Fd} (hn : f.n ≤ 9) (t : Nat) (ht : t ≤ 3) :
    forD (.nm 7) lb__law_parts_2 ((partsN f t).map enc1) [s0, .val (.str f.kd.s), .val (.int f.n), s3, .val (encL (partsN f t)), s5, .own (.ls []), .un, .un, .un] =
      .nx [s0, .val (.str f.kd.s), .val (.int f.n), s3, .val (encL (partsN f t)), s5, .own (.ls ((partsN f (t + 1)).map enc1)), .un, .un, .un] := by
  have key := for_pre (c := .nm 7) (b := lb__law_parts_2) enc1 (fun pre => [s0, .val (.str f.kd.s), .val (.int f.n), s3, .val (encL (partsN f t)), s5, .own (.ls ((pre.flatMap (ext1 f)).map enc1)), .un, .un, .un]) (partsN f t) (by
    intro pre p suf e
    have hp : p ∈ partsN f t := by rw [e]; simp
    have hA : ((pre.flatMap (ext1 f)).map enc1).length ≤ 1000000 := by
      have e2 : partsN f (t + 1) = (pre.flatMap (ext1 f)) ++ ((p :: suf).flatMap (ext1 f)) := by
        show (partsN f t).flatMap (ext1 f) = _
        rw [e, List.flatMap_append]
      have hl := partsN_size f hn (t + 1)
      have : 11 ^ (t + 1) ≤ 11 ^ 4 := Nat.pow_le_pow_right (by decide) (by omega)
      rw [e2, List.length_append] at hl
      rw [List.length_map]
      omega
    have hb := fst1_bound f hp
    have hlen := partsN_len f t p hp
    have hlb := lst1_bound f
    have hrl : (rng (fst1 f p) (lst1 f)).length ≤ 1000 := by rw [rng_len]; omega
    have h1 := parts1 (s0 := s0) (s1 := .val (.str f.kd.s)) (s2 := .val (.int f.n)) (s3 := s3) (s4 := .val (encL (partsN f t))) (s5 := s5) (s8 := .val (.int (fst1 f p))) (A := (pre.flatMap (ext1 f)).map enc1) (p := p) (by omega) (rng (fst1 f p) (lst1 f)) (by omega)
    refine ⟨_, .nm (by ((with_reducible ((iterate 7 apply FPut.s); exact FPut.u)))), ?_⟩
    unfold lb__law_parts_2
    ((with_reducible (apply s_fg; apply s_seq; apply s_setV; apply g_C; apply datk_v; apply stk; (iterate 8 apply FPut.s); exact FPut.u; apply ks_nx; apply s_seq; apply s_ite; apply g_TB; apply g_bin; apply g_nm; apply DAt.s; exact DAt.v; apply g_ex; apply g_C; apply datk_v; apply bink; apply Res.nm; apply DAt.s; exact DAt.v; exact Res.dat; exact oo_eqS _ _; apply boolk)))
    have fin : ∀ Q : Rho → Prop, Q [s0, .val (.str f.kd.s), .val (.int f.n), s3, .val (encL (partsN f t)), s5, .own (.ls (((pre ++ [p]).flatMap (ext1 f)).map enc1)), .un, .un, .un] → Q [s0, .val (.str f.kd.s), .val (.int f.n), s3, .val (encL (partsN f t)), s5, .own (.ls ((pre.flatMap (ext1 f)).map enc1 ++ (rng (fst1 f p) (lst1 f)).map fun x => enc1 (p ++ [x]))), .un, .un, .un] := by
      intro Q h
      have e1 : ((pre ++ [p]).flatMap (ext1 f)).map enc1 = (pre.flatMap (ext1 f)).map enc1 ++ (rng (fst1 f p) (lst1 f)).map fun x => enc1 (p ++ [x]) := by
        rw [List.flatMap_append, List.map_append, List.flatMap_singleton]
        congr 1
        unfold ext1
        rw [List.map_map]
        rfl
      rw [e1] at h
      exact h
    refine ifk_d (fun h => ?_) (fun h => ?_)
    · have hk := kd_ch.mp h
      have ef : fst1 f p = 1 + mx p := by unfold fst1; rw [if_pos hk]
      have el : lst1 f = f.n + 1 := by unfold lst1; rw [if_pos hk]
      ((with_reducible (apply s_setV; apply g_bin; apply g_ex; apply g_C; apply datk_v; apply g_ex; apply g_call; apply g_evC; apply g_ex; apply g_bin; apply g_ex; apply g_lst; apply g_elO; apply g_escE; apply g_C; apply datk_v; apply g_elN; apply And.intro (a := Fits _))); ((with_reducible apply fits_of); ((try simp only [List.length_append, List.length_cons, List.length_nil, List.length_map, List.length_replicate, List.length_reverse, List.length_dropLast]); (first | assumption | omega | decide))); (with_reducible (apply datk_o; apply g_ex; apply g_call; apply g_evC; apply g_nm; (iterate 7 apply DAt.s); exact DAt.v; apply g_evN; apply callk; apply ResAll.cons; apply Res.nm; (iterate 7 apply DAt.s); exact DAt.v; exact ResAll.nil; apply opn_1; exact oo_listT _; apply datk_o; apply bink; (iterate 2 exact Res.dat); apply oo_addL)); ((with_reducible apply fits_of); ((try simp only [List.length_append, List.length_cons, List.length_nil, List.length_map, List.length_replicate, List.length_reverse, List.length_dropLast]); (first | assumption | omega | decide))); (with_reducible (apply datk_o; apply g_evN; apply callk; apply ResAll.cons; exact Res.dat; exact ResAll.nil; apply opn_1)))
      · exact max1_of p
      ((with_reducible (apply datk_v; apply bink; (iterate 2 exact Res.dat); exact oo_add _ _; apply datk_v; apply stk; (iterate 8 apply FPut.s); exact FPut.v; apply ks_nx; apply s_for; apply g_rng; apply g_evC; apply g_nm; (iterate 8 apply DAt.s); exact DAt.v; apply g_evC; apply g_ex; apply g_bin; apply g_nm; (iterate 2 apply DAt.s); exact DAt.v; apply g_ex; apply g_call; apply g_evC; apply g_ex; apply g_bin; apply g_nm; apply DAt.s; exact DAt.v; apply g_ex; apply g_C; apply datk_v; apply bink; apply Res.nm; apply DAt.s; exact DAt.v; exact Res.dat; exact oo_eqS _ _; apply datk_v; apply g_evN; apply callk; apply ResAll.cons; exact Res.dat; exact ResAll.nil; apply opn_1; exact oo_intB _; apply datk_v; apply bink; apply Res.nm; (iterate 2 apply DAt.s); exact DAt.v; exact Res.dat; exact oo_add _ _; apply datk_v; apply g_evN; apply rngk; apply ResAll.cons; apply Res.nm; (iterate 8 apply DAt.s); exact DAt.v; apply ResAll.cons; exact Res.dat; exact ResAll.nil; apply opl_r2)); (refine ⟨?_, ?_⟩ <;> (first | decide | omega)); (refine ⟨?_, ?_⟩ <;> (first | decide | omega)))
      rw [decide_eq_true h]
      simp only [if_true]
      rw [← el, ← ef]
      skip
      refine forK h1 ?_
      ((with_reducible (apply kf_nx; apply Fgs.cons; (iterate 7 apply Fg1.s); exact Fg1.v; apply Fgs.cons; (iterate 8 apply Fg1.s); exact Fg1.v; apply Fgs.cons; (iterate 9 apply Fg1.s); exact Fg1.u; exact Fgs.nil; apply qn_nx)))
      exact fin (· = _) rfl
    · have hk : ¬ f.kd = .ch := fun z => h (kd_ch.mpr z)
      have ef : fst1 f p = 0 := by unfold fst1; rw [if_neg hk]
      have el : lst1 f = f.n := by unfold lst1; rw [if_neg hk]
      ((with_reducible (apply s_sk; apply ks_nx; apply s_for; apply g_rng; apply g_evC; apply g_nm; (iterate 8 apply DAt.s); exact DAt.v; apply g_evC; apply g_ex; apply g_bin; apply g_nm; (iterate 2 apply DAt.s); exact DAt.v; apply g_ex; apply g_call; apply g_evC; apply g_ex; apply g_bin; apply g_nm; apply DAt.s; exact DAt.v; apply g_ex; apply g_C; apply datk_v; apply bink; apply Res.nm; apply DAt.s; exact DAt.v; exact Res.dat; exact oo_eqS _ _; apply datk_v; apply g_evN; apply callk; apply ResAll.cons; exact Res.dat; exact ResAll.nil; apply opn_1; exact oo_intB _; apply datk_v; apply bink; apply Res.nm; (iterate 2 apply DAt.s); exact DAt.v; exact Res.dat; exact oo_add _ _; apply datk_v; apply g_evN; apply rngk; apply ResAll.cons; apply Res.nm; (iterate 8 apply DAt.s); exact DAt.v; apply ResAll.cons; exact Res.dat; exact ResAll.nil; apply opl_r2)); (refine ⟨?_, ?_⟩ <;> (first | decide | omega)); (refine ⟨?_, ?_⟩ <;> (first | decide | omega)))
      rw [decide_eq_false h]
      simp only [Bool.false_eq_true, if_false, Int.add_zero]
      rw [ef, el] at h1 fin
      skip
      refine forK h1 ?_
      ((with_reducible (apply kf_nx; apply Fgs.cons; (iterate 7 apply Fg1.s); exact Fg1.v; apply Fgs.cons; (iterate 8 apply Fg1.s); exact Fg1.v; apply Fgs.cons; (iterate 9 apply Fg1.s); exact Fg1.u; exact Fgs.nil; apply qn_nx)))
      exact fin (· = _) rfl)
  simpa [partsN] using key

theorem lsOk {ds : List D} (h : Fits ds.length) : Fits ds.length := h
/-- all parts of a field -/
theorem parts_eq (f : Fd) (hn : f.n ≤ 9) (hk : f.k ≤ 3) : FE f__law_parts [.d (encF f)] (.val (encL (parts f))) none := by
  have key := for_pre (c := .nm 5) (b := lb__law_parts_3) PyData.int (fun pre => [.val (encF f), .val (.str f.kd.s), .val (.int f.n), .val (.int f.k), .val (encL (partsN f pre.length)), .un, .un, .un, .un, .un]) (rng 0 f.k) (by
    intro pre x suf e
    have hlen := rng_split e
    have h1 := parts2 (s0 := .val (encF f)) (s3 := .val (.int f.k)) (s5 := .val (.int x)) hn pre.length (by omega)
    refine ⟨_, .nm (by ((with_reducible ((iterate 5 apply FPut.s); exact FPut.u)))), ?_⟩
    unfold lb__law_parts_3
    ((with_reducible (apply s_fg; apply s_seq; apply s_set; apply g_lst; apply g_elN; apply And.intro (a := Fits _))); ((with_reducible apply fits_of); ((try simp only [List.length_append, List.length_cons, List.length_nil, List.length_map, List.length_replicate, List.length_reverse, List.length_dropLast]); (first | assumption | omega | decide))); (with_reducible (apply slk_o; apply stk; (iterate 6 apply FPut.s); exact FPut.u; apply ks_nx; apply s_seq; apply s_for; apply g_it; apply g_escN; apply g_name; (iterate 4 apply NmAt.s); exact NmAt.v; apply datk_v; apply itk; exact It.l)))
    refine forK h1 ?_
    ((with_reducible (apply ks_nx; apply s_setV; apply g_name; (iterate 6 apply NmAt.s); exact NmAt.o; apply datk_v; apply stk; (iterate 4 apply FPut.s); exact FPut.v; apply kf_nx; apply Fgs.cons; (iterate 5 apply Fg1.s); exact Fg1.v; apply Fgs.cons; (iterate 6 apply Fg1.s); exact Fg1.v; apply Fgs.cons; (iterate 7 apply Fg1.s); exact Fg1.u; apply Fgs.cons; (iterate 8 apply Fg1.s); exact Fg1.u; apply Fgs.cons; (iterate 9 apply Fg1.s); exact Fg1.u; exact Fgs.nil; apply qn_nx)))
    rw [List.length_append]
    rfl)
  have e : (rng 0 (f.k : Int)).length = f.k := by rw [rng_len]; omega
  simp only [e, List.length_nil] at key
  refine fe_of ?_
  unfold m__law_parts
  show RS _ [.val (encF f), .un, .un, .un, .un, .un, .un, .un, .un, .un] _
  ((with_reducible (apply s_seq; apply s_asg; apply g_name; exact NmAt.v; apply datk_v; apply asgk; apply BCT.tu; apply BCTs.cons; apply BCT.nm; apply FPut.s; exact FPut.u; apply BCTs.cons; apply BCT.nm; (iterate 2 apply FPut.s); exact FPut.u; apply BCTs.cons; apply BCT.nm; (iterate 3 apply FPut.s); exact FPut.u; exact BCTs.nil; apply ks_nx; apply s_seq; apply s_setV; apply g_lst; apply g_elO; apply g_escE; apply g_tup; apply g_elN; apply And.intro (a := Fits _))); ((with_reducible apply fits_of); ((try simp only [List.length_append, List.length_cons, List.length_nil, List.length_map, List.length_replicate, List.length_reverse, List.length_dropLast]); (first | assumption | omega | decide))); (with_reducible (apply datk_v; apply g_elN; apply And.intro (a := Fits _))); ((with_reducible apply fits_of); ((try simp only [List.length_append, List.length_cons, List.length_nil, List.length_map, List.length_replicate, List.length_reverse, List.length_dropLast]); (first | assumption | omega | decide))); (with_reducible (apply datk_o; apply stk; (iterate 4 apply FPut.s); exact FPut.u; apply ks_nx; apply s_seq; apply s_for; apply g_rng; apply g_evC; apply g_nm; (iterate 3 apply DAt.s); exact DAt.v; apply g_evN; apply rngk; apply ResAll.cons; apply Res.nm; (iterate 3 apply DAt.s); exact DAt.v; exact ResAll.nil; apply opl_r1)); (refine ⟨?_, ?_⟩ <;> (first | decide | omega)))
  refine forK key ?_
  ((with_reducible (apply ks_nx; apply s_retNm; (iterate 4 apply RtAt.s); exact RtAt.v; apply qd_rt; (iterate 5 apply IoR.val); (iterate 5 apply IoR.un); exact IoR.nil)))
  rfl
/-! the games -/
def foldF (g : List Fd) : List (List (List Int)) := g.foldl (fun acc f => acc.flatMap fun pk => (parts f).map fun p => pk ++ [p]) [[]]
abbrev encP (pk : List (List Int)) : D := .tuple (pk.map enc1)
abbrev encG (g : List Fd) : D := .tuple (g.map encF)
def Fd.ok (f : Fd) : Prop := 2 ≤ f.n ∧ f.n ≤ 9 ∧ 1 ≤ f.k ∧ f.k ≤ 3 ∧ f.k ≤ f.n
def manyG (g : List Fd) : Nat := g.foldl (fun a f => a * (parts f).length) 1
theorem parts_eqD {k : Kd} {n t : Int} (h1 : 0 ≤ n ∧ n ≤ 9) (h2 : 0 ≤ t ∧ t ≤ 3) : FE f__law_parts [.d (.tuple [.str k.s, .int n, .int t])] (.val (encL (parts ⟨k, n.toNat, t.toNat⟩))) none := by
  have z := parts_eq ⟨k, n.toNat, t.toNat⟩ (by show n.toNat ≤ 9; omega) (by show t.toNat ≤ 3; omega)
  have e1 : (n.toNat : Int) = n := by omega
  have e2 : (t.toNat : Int) = t := by omega
  unfold encF at z
  dsimp only at z
  rw [e1, e2] at z
  exact z
def kdOf (i : Int) : Kd := if i = 0 then .ch else if i = 1 then .fi else .ta
theorem ix_kind {i : Int} (h0 : 0 ≤ i) (h3 : i < 3) : IxAt [.str "choice", .str "figures", .str "tail"] i (.str (kdOf i).s) := by
  have : i = 0 ∨ i = 1 ∨ i = 2 := by omega
  rcases this with rfl | rfl | rfl
  · exact ix0
  · exact ix1
  · exact ix2
theorem ix_2i {a b i : Int} (h0 : 0 ≤ i) (h3 : i < 2) : IxAt [.int a, .int b] i (.int (if i = 0 then a else b)) := by
  have : i = 0 ∨ i = 1 := by omega
  rcases this with rfl | rfl
  · exact ix0
  · exact ix1
theorem ix_2b {a c : Int} {b : Bool} : IxAt [.int a, .int c] (if b = true then 1 else 0) (.int (if b = true then c else a)) := by
  cases b
  · exact ix0
  · exact ix1
structure IsG (G : List D) (g : List Fd) : Prop where
  e : G = g.map encF
  ok : ∀ f ∈ g, f.ok
theorem IsG.snoc {G : List D} {g : List Fd} (h : IsG G g) {k : Kd} {n t : Int} (hn : 2 ≤ n ∧ n ≤ 9) (ht : 1 ≤ t ∧ t ≤ 3) (hl : t ≤ n) : IsG (G ++ [.tuple [.str k.s, .int n, .int t]]) (g ++ [⟨k, n.toNat, t.toNat⟩]) := by
  refine ⟨?_, fun f hf => ?_⟩
  · rw [h.e, List.map_append]
    have e1 : (n.toNat : Int) = n := by omega
    have e2 : (t.toNat : Int) = t := by omega
    simp [encF, e1, e2]
  · rcases List.mem_append.mp hf with hf | hf
    · exact h.ok f hf
    · have e : f = ⟨k, n.toNat, t.toNat⟩ := by simpa using hf
      subst e
      exact ⟨by show 2 ≤ n.toNat; omega, by show n.toNat ≤ 9; omega, by show 1 ≤ t.toNat; omega, by show t.toNat ≤ 3; omega, by show t.toNat ≤ n.toNat; omega⟩
theorem manyG_snoc (g : List Fd) (f : Fd) : manyG (g ++ [f]) = manyG g * (parts f).length := by unfold manyG; rw [List.foldl_append]; rfl
theorem parts_size {f : Fd} (hn : f.n ≤ 9) (hk : f.k ≤ 3) : (parts f).length ≤ 1331 := by
  have := partsN_size f hn f.k
  have : 11 ^ f.k ≤ 11 ^ 3 := Nat.pow_le_pow_right (by decide) hk
  unfold parts
  omega
theorem mulOk_len {α : Type} {m : Int} {l : List α} (h : l.length ≤ 100000000) : MulOk m (l.length : Nat) := mulOk_r (by omega) (by omega)
theorem mulOk_parts {m : Int} {k : Kd} {n t : Int} (h1 : 0 ≤ n ∧ n ≤ 9) (h2 : 0 ≤ t ∧ t ≤ 3) : MulOk m (((parts ⟨k, n.toNat, t.toNat⟩).map enc1).length : Nat) := by
  refine mulOk_len ?_
  have := parts_size (f := ⟨k, n.toNat, t.toNat⟩) (by show n.toNat ≤ 9; omega) (by show t.toNat ≤ 3; omega)
  rw [List.length_map]
  omega
theorem game_fin {G : List D} {g : List Fd} {k : Kd} {n t x : Int} {pre ds : List Int} {s2 : Sl} (hg : IsG G g) (hl : g.length = pre.length) (hn : 2 ≤ n ∧ n ≤ 9) (ht : 1 ≤ t ∧ t ≤ 3) (htn : t ≤ n) :
    ∃ g' G' ds', IsG G' g' ∧ g'.length = (pre ++ [x]).length ∧ [.io (.ls (iL ds)), .val (.int 60), s2, .val (.tuple (G ++ [.tuple [.str k.s, .int n, .int t]])), .val (.int ((manyG g : Nat) * (((parts ⟨k, n.toNat, t.toNat⟩).map enc1).length : Nat))), .un, .un, .un, .un] =
      [Sl.io (.ls (iL ds')), .val (.int 60), s2, .val (.tuple G'), .val (.int (manyG g' : Nat)), .un, .un, .un, .un] :=
  ⟨_, _, ds, hg.snoc hn ht htn, by simp [hl], by rw [manyG_snoc, Int.natCast_mul, List.length_map]⟩
theorem game1 (j : Int) (hj : j ≤ 3) (t : Int) (ds0 : List Int) : ∃ g ds, ((∀ f ∈ g, f.ok) ∧ g.length = (rng 0 j).length) ∧ forD (.nm 5) lb__law_game_1 ((rng 0 j).map PyData.int) [.io (.ls (iL ds0)), .val (.int 60), .val (.int t), .val (.tuple []), .val (.int 1), .un, .un, .un, .un] =
    .nx [.io (.ls (iL ds)), .val (.int 60), .val (.int t), .val (encG g), .val (.int (manyG g : Nat)), .un, .un, .un, .un] := by
  obtain ⟨ρ', h1, g, G, ds, hg, hl, rfl⟩ := for_inv (c := .nm 5) (b := lb__law_game_1) PyData.int (fun pre ρ => ∃ g G ds, IsG G g ∧ g.length = pre.length ∧ ρ = [.io (.ls (iL ds)), .val (.int 60), .val (.int t), .val (.tuple G), .val (.int (manyG g : Nat)), .un, .un, .un, .un]) (xs := rng 0 j)
    (ρ := [.io (.ls (iL ds0)), .val (.int 60), .val (.int t), .val (.tuple []), .val (.int 1), .un, .un, .un, .un]) ⟨[], [], ds0, ⟨rfl, fun _ h => nomatch h⟩, rfl, rfl⟩ (by
      rintro pre x suf ρ e ⟨g, G, ds, hg, hl, rfl⟩
      have hp := rng_split e
      have hGl : G.length = g.length := by rw [hg.e, List.length_map]
      refine ⟨_, .nm (by ((with_reducible ((iterate 5 apply FPut.s); exact FPut.u)))), ?_⟩
      unfold lb__law_game_1
      ((with_reducible (apply s_fg; apply s_seq; apply s_setV; apply g_bin; apply g_ex; apply g_lst; apply g_elO; apply g_escE; apply g_C; apply datk_v; apply g_elO; apply g_escE; apply g_C; apply datk_v; apply g_elO; apply g_escE; apply g_C; apply datk_v; apply g_elN; apply And.intro (a := Fits _))); ((with_reducible apply fits_of); ((try simp only [List.length_append, List.length_cons, List.length_nil, List.length_map, List.length_replicate, List.length_reverse, List.length_dropLast]); (first | assumption | omega | decide))); (with_reducible (apply datk_o; apply g_ex; apply g_def; apply g_caI; exact LAt.io; apply g_caV; apply g_escE; apply g_C; apply datk_v; apply g_caN; apply defk_take; exact LAt.io)); (unfold DL.Pos; (first | assumption | decide | omega)); ((with_reducible change ∀ (x : Int) (ds' : List Int), 0 ≤ x → x < _ → _); intro _ _ _ _); (with_reducible (apply datk_v; apply bink; (iterate 2 exact Res.dat); apply oo_ixL)))
      · exact ix_kind (by assumption) (by assumption)
      ((with_reducible (apply datk_v; apply stk; (iterate 6 apply FPut.s); exact FPut.u; apply ks_nx; apply s_seq; apply s_setV; apply g_bin; apply g_ex; apply g_C; apply datk_v; apply g_ex; apply g_def; apply g_caI; exact LAt.io; apply g_caV; apply g_escE; apply g_bin; apply g_ex; apply g_lst; apply g_elO; apply g_escE; apply g_C; apply datk_v; apply g_elO; apply g_escE; apply g_C; apply datk_v; apply g_elN; apply And.intro (a := Fits _))); ((with_reducible apply fits_of); ((try simp only [List.length_append, List.length_cons, List.length_nil, List.length_map, List.length_replicate, List.length_reverse, List.length_dropLast]); (first | assumption | omega | decide))); (with_reducible (apply datk_o; apply g_ex; apply g_def; apply g_caI; exact LAt.io; apply g_caV; apply g_escE; apply g_C; apply datk_v; apply g_caN; apply defk_take; exact LAt.io)); (unfold DL.Pos; (first | assumption | decide | omega)); ((with_reducible change ∀ (x : Int) (ds' : List Int), 0 ≤ x → x < _ → _); intro _ _ _ _); (with_reducible (apply datk_v; apply bink; (iterate 2 exact Res.dat); apply oo_ixL)))
      · exact ix_2i (by assumption) (by assumption)
      ((with_reducible (apply datk_v; apply g_caN; apply defk_take; exact LAt.io)); (unfold DL.Pos; (first | assumption | decide | omega)); ((with_reducible change ∀ (x : Int) (ds' : List Int), 0 ≤ x → x < _ → _); intro _ _ _ _); (with_reducible (apply datk_v; apply bink; (iterate 2 exact Res.dat); exact oo_add _ _; apply datk_v; apply stk; (iterate 7 apply FPut.s); exact FPut.u; apply ks_nx; apply s_seq; apply s_setV; apply g_bin; apply g_ex; apply g_C; apply datk_v; apply g_ex; apply g_def; apply g_caI; exact LAt.io; apply g_caV; apply g_escE; apply g_bin; apply g_ex; apply g_lst; apply g_elO; apply g_escE; apply g_C; apply datk_v; apply g_elO; apply g_escN; apply g_name; (iterate 7 apply NmAt.s); exact NmAt.v; apply datk_v; apply g_elN; apply And.intro (a := Fits _))); ((with_reducible apply fits_of); ((try simp only [List.length_append, List.length_cons, List.length_nil, List.length_map, List.length_replicate, List.length_reverse, List.length_dropLast]); (first | assumption | omega | decide))); (with_reducible (apply datk_o; apply g_ex; apply g_call; apply g_evC; apply g_ex; apply g_bin; apply g_nm; (iterate 6 apply DAt.s); exact DAt.v; apply g_ex; apply g_C; apply datk_v; apply bink; apply Res.nm; (iterate 6 apply DAt.s); exact DAt.v; exact Res.dat; exact oo_eqS _ _; apply datk_v; apply g_evN; apply callk; apply ResAll.cons; exact Res.dat; exact ResAll.nil; apply opn_1; exact oo_intB _; apply datk_v; apply bink; (iterate 2 exact Res.dat); apply oo_ixL)))
      · exact ix_2b
      ((with_reducible (apply datk_v; apply g_caN; apply defk_take; exact LAt.io)); (unfold DL.Pos; (first | assumption | decide | omega)); ((with_reducible change ∀ (x : Int) (ds' : List Int), 0 ≤ x → x < _ → _); intro _ _ _ _); (with_reducible (apply datk_v; apply bink; (iterate 2 exact Res.dat); exact oo_add _ _; apply datk_v; apply stk; (iterate 8 apply FPut.s); exact FPut.u; apply ks_nx; apply s_seq; apply s_setV; apply g_call; apply g_evC; apply g_nm; (iterate 8 apply DAt.s); exact DAt.v; apply g_evC; apply g_ex; apply g_C; apply datk_v; apply g_evN; apply callk; apply ResAll.cons; apply Res.nm; (iterate 8 apply DAt.s); exact DAt.v; apply ResAll.cons; exact Res.dat; exact ResAll.nil; apply opn_2; exact oo_min _ _; apply datk_v; apply stk; (iterate 8 apply FPut.s); exact FPut.v; apply ks_nx; apply s_seq; apply s_setV; apply g_bin; apply g_nm; (iterate 3 apply DAt.s); exact DAt.v; apply g_ex; apply g_tup; apply g_elO; apply g_escE; apply g_tup; apply g_elO; apply g_escN; apply g_name; (iterate 6 apply NmAt.s); exact NmAt.v; apply datk_v; apply g_elO; apply g_escN; apply g_name; (iterate 7 apply NmAt.s); exact NmAt.v; apply datk_v; apply g_elO; apply g_escE; apply g_call; apply g_evC; apply g_nm; (iterate 8 apply DAt.s); exact DAt.v; apply g_evC; apply g_nm; (iterate 7 apply DAt.s); exact DAt.v; apply g_evN; apply callk; apply ResAll.cons; apply Res.nm; (iterate 8 apply DAt.s); exact DAt.v; apply ResAll.cons; apply Res.nm; (iterate 7 apply DAt.s); exact DAt.v; exact ResAll.nil; apply opn_2; exact oo_min _ _; apply datk_v; apply g_elN; apply And.intro (a := Fits _))); ((with_reducible apply fits_of); ((try simp only [List.length_append, List.length_cons, List.length_nil, List.length_map, List.length_replicate, List.length_reverse, List.length_dropLast]); (first | assumption | omega | decide))); (with_reducible (apply datk_v; apply g_elN; apply And.intro (a := Fits _))); ((with_reducible apply fits_of); ((try simp only [List.length_append, List.length_cons, List.length_nil, List.length_map, List.length_replicate, List.length_reverse, List.length_dropLast]); (first | assumption | omega | decide))); (with_reducible (apply datk_v; apply bink; apply Res.nm; (iterate 3 apply DAt.s); exact DAt.v; exact Res.dat; apply oo_addT)); ((with_reducible apply fits_of); ((try simp only [List.length_append, List.length_cons, List.length_nil, List.length_map, List.length_replicate, List.length_reverse, List.length_dropLast]); (first | assumption | omega | decide))); (with_reducible (apply datk_v; apply stk; (iterate 3 apply FPut.s); exact FPut.v; apply ks_nx; apply s_setV; apply g_bin; apply g_nm; (iterate 4 apply DAt.s); exact DAt.v; apply g_ex; apply g_call; apply g_evC; apply g_ex; apply g_def; apply g_caV; apply g_escE; apply g_bin; apply g_nm; (iterate 3 apply DAt.s); exact DAt.v; apply g_ex; apply g_un; apply g_ex; apply g_C; apply datk_v; apply unk; exact Res.dat; exact oo_neg _; apply datk_v; apply bink; apply Res.nm; (iterate 3 apply DAt.s); exact DAt.v; exact Res.dat; apply oo_ixT; exact ixm1; apply datk_v; apply g_caN; apply defk_d; apply RA.d; exact RA.nil)); ((with_reducible apply DfO.d); exact ⟨rfl, rfl, rfl⟩))
      · exact parts_eqD (by omega) (by omega)
      ((with_reducible (apply datk_v; apply g_evN; apply callk; apply ResAll.cons; exact Res.dat; exact ResAll.nil; apply opn_1; exact oo_lenL _; apply datk_v; apply bink; apply Res.nm; (iterate 4 apply DAt.s); exact DAt.v; exact Res.dat; apply oo_mul)))
      · exact mulOk_parts (by omega) (by omega)
      ((with_reducible (apply datk_v; apply stk; (iterate 4 apply FPut.s); exact FPut.v; apply kf_nx; apply Fgs.cons; (iterate 5 apply Fg1.s); exact Fg1.v; apply Fgs.cons; (iterate 6 apply Fg1.s); exact Fg1.v; apply Fgs.cons; (iterate 7 apply Fg1.s); exact Fg1.v; apply Fgs.cons; (iterate 8 apply Fg1.s); exact Fg1.v; exact Fgs.nil; apply qn_nx)))
      exact game_fin hg hl (by omega) (by omega) (by omega))
  exact ⟨g, ds, ⟨hg.ok, hl⟩, by rw [h1, hg.e]⟩

theorem game_eq (ds0 : List Int) : ∃ g ds, FE f__law_game [.io (.ls (iL ds0)), .d (.int 60)] (.val (encG g)) (some (.ls (iL ds))) ∧ (∀ f ∈ g, f.ok) ∧ (1 ≤ g.length ∧ g.length ≤ 3) ∧ manyG g ≤ 60 := by
  have key := for_ret (c := .nm 2) (b := lb__law_game_2) PyData.int (fun pre ρ => ∃ ds, ρ = [.io (.ls (iL ds)), .val (.int 60), .un, .un, .un, .un, .un, .un, .un]) (fun r ρ => ∃ g ds, r = .val (encG g) ∧ IoR ρ (some (.ls (iL ds))) ∧ (∀ f ∈ g, f.ok) ∧ (1 ≤ g.length ∧ g.length ≤ 3) ∧ manyG g ≤ 60) (xs := rng 0 12)
    (ρ := [.io (.ls (iL ds0)), .val (.int 60), .un, .un, .un, .un, .un, .un, .un]) ⟨ds0, rfl⟩ (by
      rintro pre x suf ρ e ⟨ds, rfl⟩
      refine ⟨_, .nm (by ((with_reducible ((iterate 2 apply FPut.s); exact FPut.u)))), ?_⟩
      unfold lb__law_game_2
      ((with_reducible (apply s_fg; apply s_seq; apply s_setV; apply g_tup; apply g_elN; apply And.intro (a := Fits _))); ((with_reducible apply fits_of); ((try simp only [List.length_append, List.length_cons, List.length_nil, List.length_map, List.length_replicate, List.length_reverse, List.length_dropLast]); (first | assumption | omega | decide))); (with_reducible (apply datk_v; apply stk; (iterate 3 apply FPut.s); exact FPut.u; apply ks_nx; apply s_seq; apply s_setV; apply g_C; apply datk_v; apply stk; (iterate 4 apply FPut.s); exact FPut.u; apply ks_nx; apply s_seq; apply s_for; apply g_rng; apply g_evC; apply g_ex; apply g_bin; apply g_ex; apply g_C; apply datk_v; apply g_ex; apply g_def; apply g_caI; exact LAt.io; apply g_caV; apply g_escE; apply g_C; apply datk_v; apply g_caN; apply defk_take; exact LAt.io)); (unfold DL.Pos; (first | assumption | decide | omega)); ((with_reducible change ∀ (x : Int) (ds' : List Int), 0 ≤ x → x < _ → _); intro _ _ _ _); (with_reducible (apply datk_v; apply bink; (iterate 2 exact Res.dat); exact oo_add _ _; apply datk_v; apply g_evN; apply rngk; apply ResAll.cons; exact Res.dat; exact ResAll.nil; apply opl_r1)); (refine ⟨?_, ?_⟩ <;> (first | decide | omega)))
      rename_i j ds1 hj0 hj1
      obtain ⟨g, ds2, ⟨hg, hl⟩, h1⟩ := game1 (1 + j) (by omega) x ds1
      refine forK h1 ?_
      ((with_reducible (apply ks_nx; apply s_ite; apply g_TB; apply g_bin; apply g_nm; (iterate 4 apply DAt.s); exact DAt.v; apply g_nm; apply DAt.s; exact DAt.v; apply bink; apply Res.nm; (iterate 4 apply DAt.s); exact DAt.v; apply Res.nm; apply DAt.s; exact DAt.v; exact oo_le _ _; apply boolk)))
      rw [rng_len] at hl
      refine ifk_d (fun h => ?_) (fun h => ?_)
      · ((with_reducible (apply s_retNm; (iterate 3 apply RtAt.s); exact RtAt.v; apply kf_rt; apply qr_rt)))
        exact ⟨g, ds2, rfl, by ((with_reducible (exact IoR.io))), hg, by omega, by omega⟩
      · ((with_reducible (apply s_sk; apply kf_nx; apply Fgs.cons; (iterate 2 apply Fg1.s); exact Fg1.v; apply Fgs.cons; (iterate 3 apply Fg1.s); exact Fg1.v; apply Fgs.cons; (iterate 4 apply Fg1.s); exact Fg1.v; apply Fgs.cons; (iterate 5 apply Fg1.s); exact Fg1.u; apply Fgs.cons; (iterate 6 apply Fg1.s); exact Fg1.u; apply Fgs.cons; (iterate 7 apply Fg1.s); exact Fg1.u; apply Fgs.cons; (iterate 8 apply Fg1.s); exact Fg1.u; exact Fgs.nil; apply qr_nx)))
        exact ⟨ds2, rfl⟩)
  rcases key with ⟨ρ', h1, ds, rfl⟩ | ⟨r, ρ', h1, g, ds, rfl, h2, h3, h4, h5⟩
  · refine ⟨[⟨.ch, 4, 2⟩], ds, ?_, ?_, by decide, by decide +kernel⟩
    · refine fe_of ?_
      unfold m__law_game
      show RS _ [.io (.ls (iL ds0)), .val (.int 60), .un, .un, .un, .un, .un, .un, .un] _
      ((with_reducible (apply s_seq; apply s_for; apply g_rng; apply g_evC; apply g_ex; apply g_C; apply datk_v; apply g_evN; apply rngk; apply ResAll.cons; exact Res.dat; exact ResAll.nil; apply opl_r1)); (refine ⟨?_, ?_⟩ <;> (first | decide | omega)))
      refine forK h1 ?_
      ((with_reducible (apply ks_nx; apply s_ret; apply g_tup; apply g_elO; apply g_escE; apply g_tup; apply g_elO; apply g_escE; apply g_C; apply datk_v; apply g_elO; apply g_escE; apply g_C; apply datk_v; apply g_elO; apply g_escE; apply g_C; apply datk_v; apply g_elN; apply And.intro (a := Fits _))); ((with_reducible apply fits_of); ((try simp only [List.length_append, List.length_cons, List.length_nil, List.length_map, List.length_replicate, List.length_reverse, List.length_dropLast]); (first | assumption | omega | decide))); (with_reducible (apply datk_v; apply g_elN; apply And.intro (a := Fits _))); ((with_reducible apply fits_of); ((try simp only [List.length_append, List.length_cons, List.length_nil, List.length_map, List.length_replicate, List.length_reverse, List.length_dropLast]); (first | assumption | omega | decide))); (with_reducible (apply qd_rt; exact IoR.io)))
      rfl
    · intro f hf
      have e : f = ⟨.ch, 4, 2⟩ := by simpa using hf
      subst e
      unfold Fd.ok
      decide
  · refine ⟨g, ds, ?_, h3, h4, h5⟩
    refine fe_of ?_
    unfold m__law_game
    show RS _ [.io (.ls (iL ds0)), .val (.int 60), .un, .un, .un, .un, .un, .un, .un] _
    ((with_reducible (apply s_seq; apply s_for; apply g_rng; apply g_evC; apply g_ex; apply g_C; apply datk_v; apply g_evN; apply rngk; apply ResAll.cons; exact Res.dat; exact ResAll.nil; apply opl_r1)); (refine ⟨?_, ?_⟩ <;> (first | decide | omega)))
    refine forK h1 ?_
    ((with_reducible (apply ks_rt; apply qd_rt)))
    · exact h2
    rfl

end LW
set_option Elab.async false
set_option linter.all false
set_option maxRecDepth 100000
set_option maxHeartbeats 4000000
namespace LW
open PySem PySem.Spec PyProof.Rows L2 RT DL
def chN : Nat → Nat → Nat
  | _, 0 => 1
  | 0, _ + 1 => 0
  | n + 1, k + 1 => chN n k + chN n (k + 1)
def pmN : Kd → Nat → Nat → Nat
  | .ch, n, k => chN n k
  | _, n, k => n ^ k
theorem len_tab : ∀ n, n < 10 → ∀ k, k < 4 → (parts ⟨.ch, n, k⟩).length = pmN .ch n k ∧ (parts ⟨.fi, n, k⟩).length = pmN .fi n k ∧ (parts ⟨.ta, n, k⟩).length = pmN .ta n k ∧ (2 ≤ n → k ≤ n → 1 ≤ pmN .ch n k ∧ 1 ≤ pmN .fi n k) := by decide +kernel
theorem parts_len {f : Fd} (h : f.ok) : (parts f).length = pmN f.kd f.n f.k ∧ 1 ≤ pmN f.kd f.n f.k := by
  obtain ⟨h1, h2, h3, h4, h5⟩ := h
  obtain ⟨z1, z2, z3, z4⟩ := len_tab f.n (by omega) f.k (by omega)
  obtain ⟨z4, z5⟩ := z4 h1 h5
  cases f with
  | mk kd n k => cases kd
                 · exact ⟨z1, z4⟩
                 · exact ⟨z2, z5⟩
                 · exact ⟨z3, z5⟩
theorem manyG_pos : ∀ (g : List Fd) (a : Nat), (∀ f ∈ g, f.ok) → a ≤ g.foldl (fun a f => a * (parts f).length) a
  | [], a, _ => Nat.le_refl _
  | f :: g, a, h => by
    rw [List.foldl_cons]
    refine Nat.le_trans ?_ (manyG_pos g (a * (parts f).length) fun x hx => h x (List.mem_cons_of_mem _ hx))
    have := (parts_len (h f List.mem_cons_self)).2
    rw [← (parts_len (h f List.mem_cons_self)).1] at this
    exact Nat.le_mul_of_pos_right _ this
theorem manyG_pre {g pre suf : List Fd} (e : g = pre ++ suf) (h : ∀ f ∈ g, f.ok) : manyG pre ≤ manyG g := by
  subst e
  unfold manyG
  rw [List.foldl_append]
  exact manyG_pos suf _ fun f hf => h f (List.mem_append_right _ hf)
theorem foldF_snoc (g : List Fd) (f : Fd) : foldF (g ++ [f]) = (foldF g).flatMap fun pk => (parts f).map fun p => pk ++ [p] := by unfold foldF; rw [List.foldl_append]; rfl
theorem flatMap_len_eq {α β : Type} (f : α → List β) (m : Nat) : ∀ (xs : List α), (∀ x ∈ xs, (f x).length = m) → (xs.flatMap f).length = xs.length * m
  | [], _ => by simp
  | x :: xs, h => by
    rw [List.flatMap_cons, List.length_append, List.length_cons, Nat.add_mul, Nat.one_mul, h x List.mem_cons_self, flatMap_len_eq f m xs fun y hy => h y (List.mem_cons_of_mem _ hy)]
    omega
theorem foldF_len' : ∀ (g : List Fd) (acc : List (List (List Int))), (g.foldl (fun acc f => acc.flatMap fun pk => (parts f).map fun p => pk ++ [p]) acc).length = g.foldl (fun a f => a * (parts f).length) acc.length
  | [], _ => rfl
  | f :: g, acc => by
    rw [List.foldl_cons, List.foldl_cons, foldF_len' g, flatMap_len_eq _ (parts f).length acc fun x _ => List.length_map ..]
theorem foldF_len (g : List Fd) : (foldF g).length = manyG g := foldF_len' g [[]]
theorem foldF_plen' : ∀ (g : List Fd) (acc : List (List (List Int))) (m : Nat), (∀ p ∈ acc, p.length = m) → ∀ p ∈ g.foldl (fun acc f => acc.flatMap fun pk => (parts f).map fun p => pk ++ [p]) acc, p.length = m + g.length
  | [], _, _, h, p, hp => h p hp
  | f :: g, acc, m, h, p, hp => by
    rw [List.foldl_cons] at hp
    have := foldF_plen' g _ (m + 1) (fun q hq => by
      simp only [List.mem_flatMap, List.mem_map] at hq
      obtain ⟨a, ha, b, hb, rfl⟩ := hq
      rw [List.length_append, h a ha]; rfl) p hp
    rw [this, List.length_cons]; omega
theorem foldF_plen {g : List Fd} {p : List (List Int)} (h : p ∈ foldF g) : p.length = g.length := by
  have := foldF_plen' g [[]] 0 (fun p hp => by have e : p = [] := by simpa using hp
                                               subst e; rfl) p h
  omega
theorem picks1 {s0 s1 s2 : Sl} {A : List D} {pk : List (List Int)} (hp : pk.length ≤ 1000) (xs : List (List Int)) (hA : A.length + xs.length ≤ 16000000) :
    forD (.nm 5) lb__law_picks_1 (xs.map enc1) [s0, s1, s2, .own (.ls A), .val (encP pk), .un] = .nx [s0, s1, s2, .own (.ls (A ++ xs.map fun x => encP (pk ++ [x]))), .val (encP pk), .un] := by
  have key := for_pre (c := .nm 5) (b := lb__law_picks_1) enc1 (fun pre => [s0, s1, s2, .own (.ls (A ++ pre.map fun x => encP (pk ++ [x]))), .val (encP pk), .un]) xs (by
    intro pre x suf e
    have hl : pre.length < xs.length := by rw [e]; simp
    refine ⟨_, .nm (by ((with_reducible ((iterate 5 apply FPut.s); exact FPut.u)))), ?_⟩
    unfold lb__law_picks_1
    ((with_reducible (apply s_fg; apply s_drop; apply g_app; (iterate 3 apply LAt.s); exact LAt.o; apply g_bin; apply g_nm; (iterate 4 apply DAt.s); exact DAt.v; apply g_ex; apply g_tup; apply g_elO; apply g_escN; apply g_name; (iterate 5 apply NmAt.s); exact NmAt.v; apply datk_v; apply g_elN; apply And.intro (a := Fits _))); ((with_reducible apply fits_of); ((try simp only [List.length_append, List.length_cons, List.length_nil, List.length_map, List.length_replicate, List.length_reverse, List.length_dropLast]); (first | assumption | omega | decide))); (with_reducible (apply datk_v; apply bink; apply Res.nm; (iterate 4 apply DAt.s); exact DAt.v; exact Res.dat; apply oo_addT)); ((with_reducible apply fits_of); ((try simp only [List.length_append, List.length_cons, List.length_nil, List.length_map, List.length_replicate, List.length_reverse, List.length_dropLast]); (first | assumption | omega | decide))); (with_reducible (apply datk_v; apply appk; (iterate 3 apply LAt.s); exact LAt.o)); ((with_reducible apply fits1_of); ((try simp only [List.length_append, List.length_cons, List.length_nil, List.length_map, List.length_replicate, List.length_reverse, List.length_dropLast]); (first | assumption | omega | decide))); (with_reducible (apply kf_nx; apply Fgs.cons; (iterate 5 apply Fg1.s); exact Fg1.v; exact Fgs.nil; apply qn_nx)))
    simp)
  simpa using key
theorem picks2 {s0 s1 : Sl} {f : Fd} (hf : f.ok) (found : List (List (List Int))) (hl : found.length ≤ 60) (hp : ∀ p ∈ found, p.length ≤ 3) :
    forD (.nm 4) lb__law_picks_2 (found.map encP) [s0, s1, .val (encF f), .own (.ls []), .un, .un] =
      .nx [s0, s1, .val (encF f), .own (.ls ((found.flatMap fun pk => (parts f).map fun p => pk ++ [p]).map encP)), .un, .un] := by
  have hps := parts_size hf.2.1 hf.2.2.2.1
  have key := for_pre (c := .nm 4) (b := lb__law_picks_2) encP (fun pre => [s0, s1, .val (encF f), .own (.ls ((pre.flatMap fun pk => (parts f).map fun p => pk ++ [p]).map encP)), .un, .un]) found (by
    intro pre p suf e
    have hpp := hp p (by rw [e]; simp)
    have hpl : pre.length < found.length := by rw [e]; simp
    have hA : ((pre.flatMap fun pk => (parts f).map fun p => pk ++ [p]).map encP).length ≤ 100000 := by
      rw [List.length_map, flatMap_len_eq _ (parts f).length pre fun x _ => List.length_map ..]
      have := Nat.mul_le_mul (Nat.le_trans (Nat.le_of_lt hpl) hl) hps
      omega
    have h1 := picks1 (s0 := s0) (s1 := s1) (s2 := .val (encF f)) (A := (pre.flatMap fun pk => (parts f).map fun p => pk ++ [p]).map encP) (pk := p) (by omega) (parts f) (by omega)
    refine ⟨_, .nm (by ((with_reducible ((iterate 4 apply FPut.s); exact FPut.u)))), ?_⟩
    unfold lb__law_picks_2
    ((with_reducible (apply s_fg; apply s_for; apply g_it; apply g_escE; apply g_def; apply g_caV; apply g_escN; apply g_name; (iterate 2 apply NmAt.s); exact NmAt.v; apply datk_v; apply g_caN; apply defk_d; apply RA.d; exact RA.nil)); ((with_reducible apply DfO.d); exact ⟨rfl, rfl, rfl⟩))
    · exact parts_eq f hf.2.1 hf.2.2.2.1
    ((with_reducible (apply datk_v; apply itk; exact It.l)))
    refine forK h1 ?_
    ((with_reducible (apply kf_nx; apply Fgs.cons; (iterate 4 apply Fg1.s); exact Fg1.v; apply Fgs.cons; (iterate 5 apply Fg1.s); exact Fg1.u; exact Fgs.nil; apply qn_nx)))
    simp)
  simpa using key
theorem picks_eq (g : List Fd) (hg : ∀ f ∈ g, f.ok) (hl : g.length ≤ 3) (hm : manyG g ≤ 60) : FE f__law_picks [.d (encG g)] (.val (.list ((foldF g).map encP))) none := by
  have key := for_pre (c := .nm 2) (b := lb__law_picks_3) encF (fun pre => [.val (encG g), .val (.list ((foldF pre).map encP)), .un, .un, .un, .un]) g (by
    intro pre f suf e
    have hf : f.ok := hg f (by rw [e]; simp)
    have hpl : pre.length < g.length := by rw [e]; simp
    have h1 := picks2 (s0 := .val (encG g)) (s1 := .val (.list ((foldF pre).map encP))) hf (foldF pre) (by rw [foldF_len]; have := manyG_pre e hg; omega) fun p hp => by have := foldF_plen hp; omega
    refine ⟨_, .nm (by ((with_reducible ((iterate 2 apply FPut.s); exact FPut.u)))), ?_⟩
    unfold lb__law_picks_3
    ((with_reducible (apply s_fg; apply s_seq; apply s_set; apply g_lst; apply g_elN; apply And.intro (a := Fits _))); ((with_reducible apply fits_of); ((try simp only [List.length_append, List.length_cons, List.length_nil, List.length_map, List.length_replicate, List.length_reverse, List.length_dropLast]); (first | assumption | omega | decide))); (with_reducible (apply slk_o; apply stk; (iterate 3 apply FPut.s); exact FPut.u; apply ks_nx; apply s_seq; apply s_for; apply g_it; apply g_escN; apply g_name; apply NmAt.s; exact NmAt.v; apply datk_v; apply itk; exact It.l)))
    refine forK h1 ?_
    ((with_reducible (apply ks_nx; apply s_setV; apply g_name; (iterate 3 apply NmAt.s); exact NmAt.o; apply datk_v; apply stk; apply FPut.s; exact FPut.v; apply kf_nx; apply Fgs.cons; (iterate 2 apply Fg1.s); exact Fg1.v; apply Fgs.cons; (iterate 3 apply Fg1.s); exact Fg1.v; apply Fgs.cons; (iterate 4 apply Fg1.s); exact Fg1.u; apply Fgs.cons; (iterate 5 apply Fg1.s); exact Fg1.u; exact Fgs.nil; apply qn_nx)))
    rw [foldF_snoc])
  refine fe_of ?_
  unfold m__law_picks
  show RS _ [.val (encG g), .un, .un, .un, .un, .un] _
  ((with_reducible (apply s_seq; apply s_setV; apply g_lst; apply g_elO; apply g_escE; apply g_tup; apply g_elN; apply And.intro (a := Fits _))); ((with_reducible apply fits_of); ((try simp only [List.length_append, List.length_cons, List.length_nil, List.length_map, List.length_replicate, List.length_reverse, List.length_dropLast]); (first | assumption | omega | decide))); (with_reducible (apply datk_v; apply g_elN; apply And.intro (a := Fits _))); ((with_reducible apply fits_of); ((try simp only [List.length_append, List.length_cons, List.length_nil, List.length_map, List.length_replicate, List.length_reverse, List.length_dropLast]); (first | assumption | omega | decide))); (with_reducible (apply datk_o; apply stk; apply FPut.s; exact FPut.u; apply ks_nx; apply s_seq; apply s_for; apply g_it; apply g_escN; apply g_name; exact NmAt.v; apply datk_v; apply itk; exact It.t)))
  refine forK key ?_
  ((with_reducible (apply ks_nx; apply s_retNm; apply RtAt.s; exact RtAt.v; apply qd_rt; (iterate 2 apply IoR.val); (iterate 4 apply IoR.un); exact IoR.nil)))
  rfl
/-! all hits -/
def hitsF (g : List Fd) : List (List Int) := g.foldl (fun acc f => acc.flatMap fun h => (rng 0 (f.k + 1)).map fun x => h ++ [x]) [[]]
theorem hitsF_snoc (g : List Fd) (f : Fd) : hitsF (g ++ [f]) = (hitsF g).flatMap fun h => (rng 0 (f.k + 1)).map fun x => h ++ [x] := by unfold hitsF; rw [List.foldl_append]; rfl
theorem hitsF_plen' : ∀ (g : List Fd) (acc : List (List Int)) (m : Nat), (∀ p ∈ acc, p.length = m) → ∀ p ∈ g.foldl (fun acc f => acc.flatMap fun h => (rng 0 (f.k + 1)).map fun x => h ++ [x]) acc, p.length = m + g.length
  | [], _, _, h, p, hp => h p hp
  | f :: g, acc, m, h, p, hp => by
    rw [List.foldl_cons] at hp
    have := hitsF_plen' g _ (m + 1) (fun q hq => by
      simp only [List.mem_flatMap, List.mem_map] at hq
      obtain ⟨a, ha, b, hb, rfl⟩ := hq
      rw [List.length_append, h a ha]; rfl) p hp
    rw [this, List.length_cons]; omega
theorem hitsF_plen {g : List Fd} {p : List Int} (h : p ∈ hitsF g) : p.length = g.length := by
  have := hitsF_plen' g [[]] 0 (fun p hp => by have e : p = [] := by simpa using hp
                                               subst e; rfl) p h
  omega
theorem hitsF_len : ∀ (m : Nat) (g : List Fd), g.length = m → (∀ f ∈ g, f.ok) → (hitsF g).length ≤ 4 ^ m
  | 0, [], _, _ => by decide
  | m + 1, g, h, hg => by
    have hne : g ≠ [] := fun e => by subst e; cases h
    have e := (List.dropLast_concat_getLast hne).symm
    have ih := hitsF_len m g.dropLast (by rw [List.length_dropLast, h]; rfl) fun f hf => hg f (List.dropLast_subset _ hf)
    rw [e, hitsF_snoc]
    have := flatMap_len_le (fun h => (rng 0 (((g.getLast hne).k : Int) + 1)).map fun x => h ++ [x]) 4 (hitsF g.dropLast) fun x _ => by
      rw [List.length_map, rng_len]
      have := (hg _ (List.getLast_mem hne)).2.2.2.1
      omega
    rw [Nat.pow_succ]
    exact Nat.le_trans this (Nat.mul_le_mul_right _ ih)
theorem ah1 {s0 s1 s2 s3 s4 : Sl} {A : List D} {p : List Int} (hp : p.length ≤ 1000) (xs : List Int) (hA : A.length + xs.length ≤ 16000000) :
    forD (.nm 7) lb__law_all_hits_1 (xs.map PyData.int) [s0, s1, s2, s3, s4, .own (.ls A), .val (enc1 p), .un] = .nx [s0, s1, s2, s3, s4, .own (.ls (A ++ xs.map fun x => enc1 (p ++ [x]))), .val (enc1 p), .un] := by
  have key := for_pre (c := .nm 7) (b := lb__law_all_hits_1) PyData.int (fun pre => [s0, s1, s2, s3, s4, .own (.ls (A ++ pre.map fun x => enc1 (p ++ [x]))), .val (enc1 p), .un]) xs (by
    intro pre x suf e
    have hl : pre.length < xs.length := by rw [e]; simp
    refine ⟨_, .nm (by ((with_reducible ((iterate 7 apply FPut.s); exact FPut.u)))), ?_⟩
    unfold lb__law_all_hits_1
    ((with_reducible (apply s_fg; apply s_drop; apply g_app; (iterate 5 apply LAt.s); exact LAt.o; apply g_bin; apply g_nm; (iterate 6 apply DAt.s); exact DAt.v; apply g_ex; apply g_tup; apply g_elO; apply g_escN; apply g_name; (iterate 7 apply NmAt.s); exact NmAt.v; apply datk_v; apply g_elN; apply And.intro (a := Fits _))); ((with_reducible apply fits_of); ((try simp only [List.length_append, List.length_cons, List.length_nil, List.length_map, List.length_replicate, List.length_reverse, List.length_dropLast]); (first | assumption | omega | decide))); (with_reducible (apply datk_v; apply bink; apply Res.nm; (iterate 6 apply DAt.s); exact DAt.v; exact Res.dat; apply oo_addT)); ((with_reducible apply fits_of); ((try simp only [List.length_append, List.length_cons, List.length_nil, List.length_map, List.length_replicate, List.length_reverse, List.length_dropLast]); (first | assumption | omega | decide))); (with_reducible (apply datk_v; apply appk; (iterate 5 apply LAt.s); exact LAt.o)); ((with_reducible apply fits1_of); ((try simp only [List.length_append, List.length_cons, List.length_nil, List.length_map, List.length_replicate, List.length_reverse, List.length_dropLast]); (first | assumption | omega | decide))); (with_reducible (apply kf_nx; apply Fgs.cons; (iterate 7 apply Fg1.s); exact Fg1.v; exact Fgs.nil; apply qn_nx)))
    simp)
  simpa using key
theorem ah2 {s0 s1 s2 s3 : Sl} {k : Nat} (hk : k ≤ 3) (found : List (List Int)) (hl : found.length ≤ 1000) (hp : ∀ p ∈ found, p.length ≤ 3) :
    forD (.nm 6) lb__law_all_hits_2 (found.map enc1) [s0, s1, s2, s3, .val (.int k), .own (.ls []), .un, .un] =
      .nx [s0, s1, s2, s3, .val (.int k), .own (.ls ((found.flatMap fun h => (rng 0 (k + 1)).map fun x => h ++ [x]).map enc1)), .un, .un] := by
  have hrl : (rng 0 ((k : Int) + 1)).length ≤ 4 := by rw [rng_len]; omega
  have key := for_pre (c := .nm 6) (b := lb__law_all_hits_2) enc1 (fun pre => [s0, s1, s2, s3, .val (.int k), .own (.ls ((pre.flatMap fun h => (rng 0 ((k : Int) + 1)).map fun x => h ++ [x]).map enc1)), .un, .un]) found (by
    intro pre p suf e
    have hpp := hp p (by rw [e]; simp)
    have hpl : pre.length < found.length := by rw [e]; simp
    have hA : ((pre.flatMap fun h => (rng 0 ((k : Int) + 1)).map fun x => h ++ [x]).map enc1).length ≤ 100000 := by
      rw [List.length_map, flatMap_len_eq _ (rng 0 ((k : Int) + 1)).length pre fun x _ => List.length_map ..]
      have := Nat.mul_le_mul (Nat.le_trans (Nat.le_of_lt hpl) hl) hrl
      omega
    have h1 := ah1 (s0 := s0) (s1 := s1) (s2 := s2) (s3 := s3) (s4 := .val (.int k)) (A := (pre.flatMap fun h => (rng 0 ((k : Int) + 1)).map fun x => h ++ [x]).map enc1) (p := p) (by omega) (rng 0 ((k : Int) + 1)) (by omega)
    refine ⟨_, .nm (by ((with_reducible ((iterate 6 apply FPut.s); exact FPut.u)))), ?_⟩
    unfold lb__law_all_hits_2
    ((with_reducible (apply s_fg; apply s_for; apply g_rng; apply g_evC; apply g_ex; apply g_bin; apply g_nm; (iterate 4 apply DAt.s); exact DAt.v; apply g_ex; apply g_C; apply datk_v; apply bink; apply Res.nm; (iterate 4 apply DAt.s); exact DAt.v; exact Res.dat; exact oo_add _ _; apply datk_v; apply g_evN; apply rngk; apply ResAll.cons; exact Res.dat; exact ResAll.nil; apply opl_r1)); (refine ⟨?_, ?_⟩ <;> (first | decide | omega)))
    refine forK h1 ?_
    ((with_reducible (apply kf_nx; apply Fgs.cons; (iterate 6 apply Fg1.s); exact Fg1.v; apply Fgs.cons; (iterate 7 apply Fg1.s); exact Fg1.u; exact Fgs.nil; apply qn_nx)))
    simp)
  simpa using key
theorem all_hits_eq (g : List Fd) (hg : ∀ f ∈ g, f.ok) (hl : g.length ≤ 3) : FE f__law_all_hits [.d (encG g)] (.val (encL (hitsF g))) none := by
  have key := for_pre (c := .tu [.nm 2, .nm 3, .nm 4]) (b := lb__law_all_hits_3) encF (fun pre => [.val (encG g), .val (encL (hitsF pre)), .un, .un, .un, .un, .un, .un]) g (by
    intro pre f suf e
    have hf : f.ok := hg f (by rw [e]; simp)
    have hpl : pre.length < g.length := by rw [e]; simp
    have h1 := ah2 (s0 := .val (encG g)) (s1 := .val (encL (hitsF pre))) (s2 := .val (.str f.kd.s)) (s3 := .val (.int f.n)) (k := f.k) hf.2.2.2.1 (hitsF pre) (by
      have := hitsF_len pre.length pre rfl fun f hf => hg f (by rw [e]; exact List.mem_append_left _ hf)
      have : 4 ^ pre.length ≤ 4 ^ 3 := Nat.pow_le_pow_right (by decide) (by omega)
      omega) fun p hp => by have := hitsF_plen hp; omega
    refine ⟨_, (by ((with_reducible (apply BCT.tu; apply BCTs.cons; apply BCT.nm; (iterate 2 apply FPut.s); exact FPut.u; apply BCTs.cons; apply BCT.nm; (iterate 3 apply FPut.s); exact FPut.u; apply BCTs.cons; apply BCT.nm; (iterate 4 apply FPut.s); exact FPut.u; exact BCTs.nil)))), ?_⟩
    unfold lb__law_all_hits_3
    ((with_reducible (apply s_fg; apply s_seq; apply s_set; apply g_lst; apply g_elN; apply And.intro (a := Fits _))); ((with_reducible apply fits_of); ((try simp only [List.length_append, List.length_cons, List.length_nil, List.length_map, List.length_replicate, List.length_reverse, List.length_dropLast]); (first | assumption | omega | decide))); (with_reducible (apply slk_o; apply stk; (iterate 5 apply FPut.s); exact FPut.u; apply ks_nx; apply s_seq; apply s_for; apply g_it; apply g_escN; apply g_name; apply NmAt.s; exact NmAt.v; apply datk_v; apply itk; exact It.l)))
    refine forK h1 ?_
    ((with_reducible (apply ks_nx; apply s_setV; apply g_name; (iterate 5 apply NmAt.s); exact NmAt.o; apply datk_v; apply stk; apply FPut.s; exact FPut.v; apply kf_nx; apply Fgs.cons; (iterate 2 apply Fg1.s); exact Fg1.v; apply Fgs.cons; (iterate 3 apply Fg1.s); exact Fg1.v; apply Fgs.cons; (iterate 4 apply Fg1.s); exact Fg1.v; apply Fgs.cons; (iterate 5 apply Fg1.s); exact Fg1.v; apply Fgs.cons; (iterate 6 apply Fg1.s); exact Fg1.u; apply Fgs.cons; (iterate 7 apply Fg1.s); exact Fg1.u; exact Fgs.nil; apply qn_nx)))
    rw [hitsF_snoc])
  refine fe_of ?_
  unfold m__law_all_hits
  show RS _ [.val (encG g), .un, .un, .un, .un, .un, .un, .un] _
  ((with_reducible (apply s_seq; apply s_setV; apply g_lst; apply g_elO; apply g_escE; apply g_tup; apply g_elN; apply And.intro (a := Fits _))); ((with_reducible apply fits_of); ((try simp only [List.length_append, List.length_cons, List.length_nil, List.length_map, List.length_replicate, List.length_reverse, List.length_dropLast]); (first | assumption | omega | decide))); (with_reducible (apply datk_v; apply g_elN; apply And.intro (a := Fits _))); ((with_reducible apply fits_of); ((try simp only [List.length_append, List.length_cons, List.length_nil, List.length_map, List.length_replicate, List.length_reverse, List.length_dropLast]); (first | assumption | omega | decide))); (with_reducible (apply datk_o; apply stk; apply FPut.s; exact FPut.u; apply ks_nx; apply s_seq; apply s_for; apply g_it; apply g_escN; apply g_name; exact NmAt.v; apply datk_v; apply itk; exact It.t)))
  refine forK key ?_
  ((with_reducible (apply ks_nx; apply s_retNm; apply RtAt.s; exact RtAt.v; apply qd_rt; (iterate 2 apply IoR.val); (iterate 6 apply IoR.un); exact IoR.nil)))
  rfl

end LW
set_option Elab.async false
set_option linter.all false
set_option maxRecDepth 100000
set_option maxHeartbeats 4000000
namespace LW
open PySem PySem.Spec PyProof.Rows L2 RT DL
theorem EO1 : EO enc1 1 := EO.int.tup
theorem EOP : EO encP 2 := EO1.tup
/-! classes -/
theorem cl_sel {s1 s2 s3 s4 s5 : Sl} (rows : List (List Int)) (ds0 : List Int) : ∃ (sel : List (List Int)) (ds : List Int), sel.Sublist rows ∧
    lcD [6] (.nm 6) (mTB (mBin fEq (.ex (mDef 2 f__law_take [.io 0, .v (.ex (mC (.int 4)))])) (.ex (mC (.int 0))))) (mName 6) (rows.map enc1) [.io (.ls (iL ds0)), s1, s2, s3, s4, s5, .un] = .ok (sel.map enc1) [.io (.ls (iL ds)), s1, s2, s3, s4, s5, .un] := by
  obtain ⟨out, ρ', h1, sel, ds, h2, rfl, rfl⟩ := lc_inv (vs := [6]) (c := .nm 6) (t := mTB (mBin fEq (.ex (mDef 2 f__law_take [.io 0, .v (.ex (mC (.int 4)))])) (.ex (mC (.int 0))))) (m := mName 6) enc1
    (fun pre out ρ => ∃ (sel : List (List Int)) (ds : List Int), sel.Sublist pre ∧ out = sel.map enc1 ∧ ρ = [.io (.ls (iL ds)), s1, s2, s3, s4, s5, .un]) (xs := rows) (ρ := [.io (.ls (iL ds0)), s1, s2, s3, s4, s5, .un]) ⟨[], ds0, .slnil, rfl, rfl⟩ (by
      rintro pre x suf out ρ e ⟨sel, ds, h, rfl, rfl⟩
      refine ⟨_, .nm (by ((with_reducible ((iterate 6 apply FPut.s); exact FPut.u)))), ?_⟩
      ((with_reducible (apply g_TB; apply g_bin; apply g_ex; apply g_def; apply g_caI; exact LAt.io; apply g_caV; apply g_escE; apply g_C; apply datk_v; apply g_caN; apply defk_take; exact LAt.io)); (unfold DL.Pos; (first | assumption | decide | omega)); ((with_reducible change ∀ (x : Int) (ds' : List Int), 0 ≤ x → x < _ → _); intro _ _ _ _); (with_reducible (apply datk_v; apply g_ex; apply g_C; apply datk_v; apply bink; (iterate 2 exact Res.dat); exact oo_eq _ _; apply boolk)))
      refine ifk_d (fun h0 => ?_) (fun h0 => ?_)
      · ((with_reducible (apply g_name; (iterate 6 apply NmAt.s); exact NmAt.v)))
        exact ⟨_, by ((with_reducible (apply UnR.cons; exact UnR.nil; (iterate 6 apply FPut.s); exact FPut.v))), sel ++ [x], _, h.append_right [x] |>.trans (List.Sublist.refl _), by simp [Rv.dat], rfl⟩
      · exact ⟨_, by ((with_reducible (apply UnR.cons; exact UnR.nil; (iterate 6 apply FPut.s); exact FPut.v))), sel, _, h.trans (List.sublist_append_left _ _), rfl, rfl⟩)
  exact ⟨sel, ds, h2, h1⟩
theorem cl_out {s0 s1 s2 s3 s4 : Sl} (rows own : List (List Int)) :
    lcD [6] (.nm 6) (mTB (mBin (ofNB fInB) (.nm 6) (.nm 5))) (mName 6) (rows.map enc1) [s0, s1, s2, s3, s4, .val (encL own), .un] = .ok ((rows.filter fun r => !decide (r ∈ own)).map enc1) [s0, s1, s2, s3, s4, .val (encL own), .un] := by
  exact lc_pre (vs := [6]) (c := .nm 6) (t := mTB (mBin (ofNB fInB) (.nm 6) (.nm 5))) (m := mName 6) enc1 (fun _ => [s0, s1, s2, s3, s4, .val (encL own), .un]) (fun r => !decide (r ∈ own)) enc1 rows (by
    intro pre x suf e
    refine ⟨_, .nm (by ((with_reducible ((iterate 6 apply FPut.s); exact FPut.u)))), ?_⟩
    ((with_reducible (apply g_TB; apply g_bin; apply g_nm; (iterate 6 apply DAt.s); exact DAt.v; apply g_nm; (iterate 5 apply DAt.s); exact DAt.v; apply bink; apply Res.nm; (iterate 6 apply DAt.s); exact DAt.v; apply Res.nm; (iterate 5 apply DAt.s); exact DAt.v)))
    · exact oo_ninL EO1 (by decide) x own
    ((with_reducible (apply boolk)))
    refine ⟨rfl, ?_⟩
    ((with_reducible (apply ifk_not)))
    refine ifk_d (fun h0 => ?_) (fun h0 => ?_)
    · ((with_reducible (apply UnR.cons; exact UnR.nil; (iterate 6 apply FPut.s); exact FPut.v)))
    · ((with_reducible (apply g_name; (iterate 6 apply NmAt.s); exact NmAt.v)))
      exact ⟨rfl, by ((with_reducible (apply UnR.cons; exact UnR.nil; (iterate 6 apply FPut.s); exact FPut.v)))⟩)

structure ClOk (g : List Fd) (cl : List (List (List Int))) (rows : List (List Int)) : Prop where
  nd : (cl.flatten ++ rows).Nodup
  mem : ∀ x ∈ cl.flatten ++ rows, x ∈ hitsF g
  len : rows.length ≤ 64
  ne : ∀ c ∈ cl, c ≠ []
theorem ClOk.step {g : List Fd} {cl : List (List (List Int))} {rows own : List (List Int)} (h : ClOk g cl rows) (ho : ∃ sel, own.Perm sel ∧ sel.Sublist rows) : ClOk g (if own = [] then cl else cl ++ [own]) (rows.filter fun r => !decide (r ∈ own)) := by
  obtain ⟨sel, hp, hs⟩ := ho
  have hsub : ∀ x ∈ own, x ∈ rows := fun x hx => hs.subset (hp.mem_iff.mp hx)
  obtain ⟨n1, n2, n3⟩ := List.nodup_append.mp h.nd
  have hnd : own.Nodup := hp.nodup_iff.mpr (hs.nodup n2)
  have key : ClOk g (cl ++ [own]) (rows.filter fun r => !decide (r ∈ own)) ∨ own = [] := by
    by_cases e : own = []
    · exact .inr e
    · refine .inl ⟨?_, fun x hx => ?_, Nat.le_trans (List.length_filter_le _ _) h.len, fun c hc => ?_⟩
      · rw [List.flatten_append, List.flatten_singleton]
        refine List.nodup_append.mpr ⟨List.nodup_append.mpr ⟨n1, hnd, fun a ha b hb => n3 a ha b (hsub b hb)⟩, (List.filter_sublist).nodup n2, fun a ha b hb => ?_⟩
        have hb' := List.mem_filter.mp hb
        rcases List.mem_append.mp ha with ha | ha
        · exact n3 a ha b hb'.1
        · intro e2
          subst e2
          have := hb'.2
          simp [ha] at this
      · rw [List.flatten_append, List.flatten_singleton] at hx
        refine h.mem x ?_
        rcases List.mem_append.mp hx with hx | hx
        · rcases List.mem_append.mp hx with hx | hx
          · exact List.mem_append_left _ hx
          · exact List.mem_append_right _ (hsub x hx)
        · exact List.mem_append_right _ (List.mem_filter.mp hx).1
      · rcases List.mem_append.mp hc with hc | hc
        · exact h.ne c hc
        · have : c = own := by simpa using hc
          rw [this]; exact e
  rcases key with k | e
  · by_cases e : own = []
    · subst e
      rw [if_pos rfl]
      have e2 : (rows.filter fun r => !decide (r ∈ ([] : List (List Int)))) = rows := by rw [List.filter_eq_self]; intro a _; simp
      rw [e2]; exact h
    · rw [if_neg e]; exact k
  · subst e
    rw [if_pos rfl]
    have e2 : (rows.filter fun r => !decide (r ∈ ([] : List (List Int)))) = rows := by rw [List.filter_eq_self]; intro a _; simp
    rw [e2]; exact h
abbrev encC (cl : List (List (List Int))) : List D := cl.map fun c => PyData.tuple (c.map enc1)
theorem classes1 {g : List Fd} (hg1 : 1 ≤ g.length) (hL : (hitsF g).length ≤ 64) (hN : (hitsF g).Nodup) (j : Int) (hj : j ≤ 4) (ds0 : List Int) : ∃ cl rows ds, ClOk g cl rows ∧ cl.length ≤ 4 ∧ forD (.nm 4) lb__law_classes_1 ((rng 0 j).map PyData.int) [.io (.ls (iL ds0)), .val (encG g), .val (encL (hitsF g)), .own (.ls []), .un, .un, .un] =
    .nx [.io (.ls (iL ds)), .val (encG g), .val (encL rows), .own (.ls (encC cl)), .un, .un, .un] := by
  obtain ⟨ρ', h1, cl, rows, ds, hc, hl, rfl⟩ := for_inv (c := .nm 4) (b := lb__law_classes_1) PyData.int (fun pre ρ => ∃ cl rows ds, ClOk g cl rows ∧ cl.length ≤ pre.length ∧ ρ = [.io (.ls (iL ds)), .val (encG g), .val (encL rows), .own (.ls (encC cl)), .un, .un, .un]) (xs := rng 0 j)
    (ρ := [.io (.ls (iL ds0)), .val (encG g), .val (encL (hitsF g)), .own (.ls []), .un, .un, .un]) ⟨[], hitsF g, ds0, ⟨by simpa using hN, by simp, hL, fun _ h => nomatch h⟩, Nat.zero_le _, rfl⟩ (by
      rintro pre x suf ρ e ⟨cl, rows, ds, hc, hl, rfl⟩
      have hp := rng_split e
      have hrl := hc.len
      have hcl : (encC cl).length ≤ 100 := by rw [List.length_map]; omega
      obtain ⟨sel, ds1, hs, hlc⟩ := cl_sel (s1 := .val (encG g)) (s2 := .val (encL rows)) (s3 := .own (.ls (encC cl))) (s4 := .val (.int x)) (s5 := .un) rows ds
      have hsl : sel.length ≤ 64 := Nat.le_trans hs.length_le hrl
      obtain ⟨own, ho, hop⟩ := oo_sortT (ps := sel) (by omega) (fun p hp e => by
        have hm := hc.mem p (List.mem_append_right _ (hs.subset hp))
        have := hitsF_plen hm
        rw [e] at this
        simp at this
        omega)
      have fin : ∀ (own : List (List Int)) (ds2 : List Int), (∃ sel, own.Perm sel ∧ sel.Sublist rows) → ∃ cl' rows' ds', ClOk g cl' rows' ∧ cl'.length ≤ (pre ++ [x]).length ∧
          [Sl.io (.ls (iL ds2)), .val (encG g), .val (.list ((rows.filter fun r => !decide (r ∈ own)).map enc1)), .own (.ls (if own = [] then encC cl else encC cl ++ [.tuple (own.map enc1)])), .un, .un, .un] =
            [Sl.io (.ls (iL ds')), .val (encG g), .val (encL rows'), .own (.ls (encC cl')), .un, .un, .un] := by
        intro own ds2 hh
        refine ⟨_, _, ds2, hc.step hh, ?_, ?_⟩
        · split
          · simp; omega
          · simp; omega
        · split <;> simp [encC]
      have tail : ∀ (own : List (List Int)) (ds2 : List Int), (∃ sel, own.Perm sel ∧ sel.Sublist rows) → RS
          (mSeq (mSetV 2 (mLc [6] (mIt (.nm 2)) (.nm 6) (mTB (mBin (ofNB fInB) (.nm 6) (.nm 5))) (mName 6)))
            (mIte (mTB (mBin fNe (.nm 5) (.ex (mLst [])))) (mDrop (mApp 3 (mCall (c1 gTup) [(.nm 5)]))) mSk))
          [.io (.ls (iL ds2)), .val (encG g), .val (encL rows), .own (.ls (encC cl)), .val (.int x), .val (encL own), .un]
          (KF [4, 5] (QN fun ρ => ∃ cl rows ds, ClOk g cl rows ∧ cl.length ≤ (pre ++ [x]).length ∧ ρ = [.io (.ls (iL ds)), .val (encG g), .val (encL rows), .own (.ls (encC cl)), .un, .un, .un])) := by
        intro own ds2 hh
        have f := fin own ds2 hh
        ((with_reducible (apply s_seq; apply s_setV; apply g_lc; apply g_it; apply g_escN; apply g_name; (iterate 2 apply NmAt.s); exact NmAt.v; apply datk_v; apply itk; exact It.l; apply lck)); ((with_reducible apply fits_of); ((try simp only [List.length_append, List.length_cons, List.length_nil, List.length_map, List.length_replicate, List.length_reverse, List.length_dropLast]); (first | assumption | omega | decide))); (with_reducible (apply UnR.cons; exact UnR.nil; (iterate 6 apply FPut.s); exact FPut.u)))
        refine lce (cl_out rows own) ?_
        ((with_reducible (apply datk_o; apply stk; (iterate 2 apply FPut.s); exact FPut.v; apply ks_nx; apply s_ite; apply g_TB; apply g_bin; apply g_nm; (iterate 5 apply DAt.s); exact DAt.v; apply g_ex; apply g_lst; apply g_elN; apply And.intro (a := Fits _))); ((with_reducible apply fits_of); ((try simp only [List.length_append, List.length_cons, List.length_nil, List.length_map, List.length_replicate, List.length_reverse, List.length_dropLast]); (first | assumption | omega | decide))); (with_reducible (apply datk_o; apply bink; apply Res.nm; (iterate 5 apply DAt.s); exact DAt.v; exact Res.dat)))
        · exact oo_neLnil EO1 (by decide) own
        ((with_reducible (apply boolk; apply ifk_not)))
        refine ifk_d (fun h0 => ?_) (fun h0 => ?_)
        · rw [if_pos h0] at f
          ((with_reducible (apply s_sk; apply kf_nx; apply Fgs.cons; (iterate 4 apply Fg1.s); exact Fg1.v; apply Fgs.cons; (iterate 5 apply Fg1.s); exact Fg1.v; exact Fgs.nil; apply qn_nx)))
          exact f
        · rw [if_neg h0] at f
          ((with_reducible (apply s_drop; apply g_app; (iterate 3 apply LAt.s); exact LAt.o; apply g_call; apply g_evC; apply g_nm; (iterate 5 apply DAt.s); exact DAt.v; apply g_evN; apply callk; apply ResAll.cons; apply Res.nm; (iterate 5 apply DAt.s); exact DAt.v; exact ResAll.nil; apply opn_1; exact oo_tupL _; apply datk_v; apply appk; (iterate 3 apply LAt.s); exact LAt.o)); ((with_reducible apply fits1_of); ((try simp only [List.length_append, List.length_cons, List.length_nil, List.length_map, List.length_replicate, List.length_reverse, List.length_dropLast]); (first | assumption | omega | decide))); (with_reducible (apply kf_nx; apply Fgs.cons; (iterate 4 apply Fg1.s); exact Fg1.v; apply Fgs.cons; (iterate 5 apply Fg1.s); exact Fg1.v; exact Fgs.nil; apply qn_nx)))
          exact f
      refine ⟨_, .nm (by ((with_reducible ((iterate 4 apply FPut.s); exact FPut.u)))), ?_⟩
      unfold lb__law_classes_1
      generalize (mSeq (mSetV 2 (mLc [6] (mIt (.nm 2)) (.nm 6) (mTB (mBin (ofNB fInB) (.nm 6) (.nm 5))) (mName 6))) (mIte (mTB (mBin fNe (.nm 5) (.ex (mLst [])))) (mDrop (mApp 3 (mCall (c1 gTup) [(.nm 5)]))) mSk)) = rest at tail ⊢
      ((with_reducible (apply s_fg; apply s_seq; apply s_setV; apply g_call; apply g_evC; apply g_ex; apply g_lc; apply g_it; apply g_escN; apply g_name; (iterate 2 apply NmAt.s); exact NmAt.v; apply datk_v; apply itk; exact It.l; apply lck)); ((with_reducible apply fits_of); ((try simp only [List.length_append, List.length_cons, List.length_nil, List.length_map, List.length_replicate, List.length_reverse, List.length_dropLast]); (first | assumption | omega | decide))); (with_reducible (apply UnR.cons; exact UnR.nil; (iterate 6 apply FPut.s); exact FPut.u)))
      refine lce hlc ?_
      ((with_reducible (apply datk_o; apply g_evN; apply callk; apply ResAll.cons; exact Res.dat; exact ResAll.nil; apply opn_1)))
      · exact ho
      ((with_reducible (apply datk_o; apply stk; (iterate 5 apply FPut.s); exact FPut.u; apply ks_nx; apply s_seq; apply s_ite; apply g_and; apply g_TB; apply g_bin; apply g_nm; (iterate 5 apply DAt.s); exact DAt.v; apply g_ex; apply g_lst; apply g_elN; apply And.intro (a := Fits _))); ((with_reducible apply fits_of); ((try simp only [List.length_append, List.length_cons, List.length_nil, List.length_map, List.length_replicate, List.length_reverse, List.length_dropLast]); (first | assumption | omega | decide))); (with_reducible (apply datk_o; apply bink; apply Res.nm; (iterate 5 apply DAt.s); exact DAt.v; exact Res.dat)))
      · exact oo_eqLnil EO1 (by decide) own
      ((with_reducible (apply boolk)))
      refine ifk_d (fun h0 => ?_) (fun h0 => ?_)
      · ((with_reducible (apply g_TB; apply g_bin; apply g_nm; (iterate 2 apply DAt.s); exact DAt.v; apply g_ex; apply g_lst; apply g_elN; apply And.intro (a := Fits _))); ((with_reducible apply fits_of); ((try simp only [List.length_append, List.length_cons, List.length_nil, List.length_map, List.length_replicate, List.length_reverse, List.length_dropLast]); (first | assumption | omega | decide))); (with_reducible (apply datk_o; apply bink; apply Res.nm; (iterate 2 apply DAt.s); exact DAt.v; exact Res.dat)))
        · exact oo_neLnil EO1 (by decide) rows
        ((with_reducible (apply boolk; apply ifk_not)))
        refine ifk_d (fun h1 => ?_) (fun h1 => ?_)
        · ((with_reducible (apply s_sk; apply ks_nx)))
          exact tail own _ ⟨sel, hop, hs⟩
        · ((with_reducible (apply s_setV; apply g_lst; apply g_elO; apply g_escE; apply g_bin; apply g_nm; (iterate 2 apply DAt.s); exact DAt.v; apply g_ex; apply g_def; apply g_caI; exact LAt.io; apply g_caV; apply g_escE; apply g_call; apply g_evC; apply g_nm; (iterate 2 apply DAt.s); exact DAt.v; apply g_evN; apply callk; apply ResAll.cons; apply Res.nm; (iterate 2 apply DAt.s); exact DAt.v; exact ResAll.nil; apply opn_1; exact oo_lenL _; apply datk_v; apply g_caN; apply defk_take; exact LAt.io)))
          · have : 0 < rows.length := List.length_pos_iff.mpr h1
            show (0 : Int) < _
            simp only [List.length_map]; omega
          (((with_reducible change ∀ (x : Int) (ds' : List Int), 0 ≤ x → x < _ → _); intro _ _ _ _); (with_reducible (apply datk_v; apply bink; apply Res.nm; (iterate 2 apply DAt.s); exact DAt.v; exact Res.dat; apply oo_ixL)))
          rename_i i ds2 hi0 hi1
          have hi : i.toNat < rows.length := by simp only [List.length_map] at hi1; omega
          have hr : rows[i.toNat]? = some (rows[i.toNat]?.getD []) := by rw [List.getElem?_eq_getElem hi]; rfl
          · exact ixAt_map (n := i.toNat) (by omega) hr
          ((with_reducible (apply datk_v; apply g_elN; apply And.intro (a := Fits _))); ((with_reducible apply fits_of); ((try simp only [List.length_append, List.length_cons, List.length_nil, List.length_map, List.length_replicate, List.length_reverse, List.length_dropLast]); (first | assumption | omega | decide))); (with_reducible (apply datk_o; apply stk; (iterate 5 apply FPut.s); exact FPut.v; apply ks_nx)))
          rename_i i ds2 hi0 hi1
          have hi : i.toNat < rows.length := by simp only [List.length_map] at hi1; omega
          have hr : rows[i.toNat]? = some (rows[i.toNat]?.getD []) := by rw [List.getElem?_eq_getElem hi]; rfl
          exact tail [rows[i.toNat]?.getD []] _ ⟨[rows[i.toNat]?.getD []], .refl _, List.singleton_sublist.mpr (List.mem_of_getElem? hr)⟩
      · ((with_reducible (apply ifk_f; apply s_sk; apply ks_nx)))
        exact tail own _ ⟨sel, hop, hs⟩)
  exact ⟨cl, rows, ds, hc, by rw [rng_len] at hl; omega, h1⟩

theorem rng_nodup (lo hi : Int) : (rng lo hi).Nodup := by
  unfold rng
  rw [List.nodup_iff_pairwise_ne, List.pairwise_map]
  exact (List.nodup_iff_pairwise_ne.mp List.nodup_range).imp fun h e => h (by omega)
theorem snocs_nodup {α : Type} (acc : List (List α)) (fs : List α → List α) (m : Nat) (hm : ∀ p ∈ acc, p.length = m) (ha : acc.Nodup) (hf : ∀ p, (fs p).Nodup) : (acc.flatMap fun p => (fs p).map fun x => p ++ [x]).Nodup := by
  induction acc with
  | nil => simp
  | cons p acc ih =>
    rw [List.flatMap_cons]
    have ha' := List.nodup_cons.mp ha
    refine List.nodup_append.mpr ⟨?_, ih (fun q hq => hm q (List.mem_cons_of_mem _ hq)) ha'.2, fun a h1 b h2 e => ?_⟩
    · rw [List.nodup_iff_pairwise_ne, List.pairwise_map]
      exact (List.nodup_iff_pairwise_ne.mp (hf p)).imp fun h e => h (by simpa using e)
    · subst e
      simp only [List.mem_map, List.mem_flatMap] at h1 h2
      obtain ⟨x, _, rfl⟩ := h1
      obtain ⟨q, hq, y, _, e⟩ := h2
      have := List.append_inj_left e (by rw [hm q (List.mem_cons_of_mem _ hq), hm p List.mem_cons_self])
      subst this
      exact ha'.1 hq
theorem hitsF_nodup' : ∀ (g : List Fd) (acc : List (List Int)) (m : Nat), (∀ p ∈ acc, p.length = m) → acc.Nodup → (g.foldl (fun acc f => acc.flatMap fun h => (rng 0 (f.k + 1)).map fun x => h ++ [x]) acc).Nodup
  | [], acc, m, h, n => n
  | f :: g, acc, m, h, n => by
    rw [List.foldl_cons]
    refine hitsF_nodup' g _ (m + 1) (fun q hq => ?_) (snocs_nodup acc (fun _ => rng 0 (f.k + 1)) m h n fun _ => rng_nodup _ _)
    simp only [List.mem_flatMap, List.mem_map] at hq
    obtain ⟨a, ha, b, hb, rfl⟩ := hq
    rw [List.length_append, h a ha]; rfl
theorem hitsF_nodup (g : List Fd) : (hitsF g).Nodup := hitsF_nodup' g [[]] 0 (fun p hp => by
  have e : p = [] := by simpa using hp
  subst e; rfl) (by simp)
theorem classes_eq {g : List Fd} (hg : ∀ f ∈ g, f.ok) (hl : 1 ≤ g.length ∧ g.length ≤ 3) (ds0 : List Int) : ∃ cl ds, FE f__law_classes [.io (.ls (iL ds0)), .d (encG g)] (.val (.tuple (encC cl))) (some (.ls (iL ds))) ∧ cl.flatten.Nodup ∧ (∀ x ∈ cl.flatten, x ∈ hitsF g) ∧ cl.length ≤ 4 := by
  have hL : (hitsF g).length ≤ 64 := by
    have := hitsF_len g.length g rfl hg
    have : 4 ^ g.length ≤ 4 ^ 3 := Nat.pow_le_pow_right (by decide) hl.2
    omega
  have key : FR f__law_classes [.io (.ls (iL ds0)), .d (encG g)] fun r c => ∃ cl ds, r = .val (.tuple (encC cl)) ∧ c = some (.ls (iL ds)) ∧ cl.flatten.Nodup ∧ (∀ x ∈ cl.flatten, x ∈ hitsF g) ∧ cl.length ≤ 4 := by
    refine fr_of ?_
    unfold m__law_classes
    show RS _ [.io (.ls (iL ds0)), .val (encG g), .un, .un, .un, .un, .un] _
    ((with_reducible (apply s_seq; apply s_setV; apply g_def; apply g_caV; apply g_escN; apply g_name; apply NmAt.s; exact NmAt.v; apply datk_v; apply g_caN; apply defk_d; apply RA.d; exact RA.nil)); ((with_reducible apply DfO.d); exact ⟨rfl, rfl, rfl⟩))
    · exact all_hits_eq g hg hl.2
    ((with_reducible (apply datk_v; apply stk; (iterate 2 apply FPut.s); exact FPut.u; apply ks_nx; apply s_seq; apply s_set; apply g_lst; apply g_elN; apply And.intro (a := Fits _))); ((with_reducible apply fits_of); ((try simp only [List.length_append, List.length_cons, List.length_nil, List.length_map, List.length_replicate, List.length_reverse, List.length_dropLast]); (first | assumption | omega | decide))); (with_reducible (apply slk_o; apply stk; (iterate 3 apply FPut.s); exact FPut.u; apply ks_nx; apply s_seq; apply s_for; apply g_rng; apply g_evC; apply g_ex; apply g_bin; apply g_ex; apply g_C; apply datk_v; apply g_ex; apply g_def; apply g_caI; exact LAt.io; apply g_caV; apply g_escE; apply g_C; apply datk_v; apply g_caN; apply defk_take; exact LAt.io)); (unfold DL.Pos; (first | assumption | decide | omega)); ((with_reducible change ∀ (x : Int) (ds' : List Int), 0 ≤ x → x < _ → _); intro _ _ _ _); (with_reducible (apply datk_v; apply bink; (iterate 2 exact Res.dat); exact oo_add _ _; apply datk_v; apply g_evN; apply rngk; apply ResAll.cons; exact Res.dat; exact ResAll.nil; apply opl_r1)); (refine ⟨?_, ?_⟩ <;> (first | decide | omega)))
    rename_i x ds1 hx0 hx1
    obtain ⟨cl, rows, ds, hc, hcl, h1⟩ := classes1 hl.1 hL (hitsF_nodup g) (1 + x) (by omega) ds1
    refine forK h1 ?_
    ((with_reducible (apply ks_nx; apply s_ret; apply g_call; apply g_evC; apply g_nm; (iterate 3 apply DAt.s); exact DAt.o; apply g_evN; apply callk; apply ResAll.cons; apply Res.nm; (iterate 3 apply DAt.s); exact DAt.o; exact ResAll.nil; apply opn_1; exact oo_tupL _; apply qd_rt; exact IoR.io)))
    exact ⟨_, _, rfl, cl, ds, rfl, rfl, (List.nodup_append.mp hc.nd).1, fun x hx => hc.mem x (List.mem_append_left _ hx), hcl⟩
  obtain ⟨r, c, h, cl, ds, rfl, rfl, h2⟩ := key
  exact ⟨cl, ds, h, h2⟩
/-! the table -/
inductive Row where
  | fix (m : Int) | sh (m : Int) (p q : Int) (cap : Int) (w : Str)
def encRow : Row → D
  | .fix m => .tuple [.str "fixed", .int m, .tuple [.int 0, .int 1], .int 0, .str "keep"]
  | .sh m p q cap w => .tuple [.str "shared", .int m, .tuple [.int p, .int q], .int cap, .str w]
def Row.ok : Row → Prop
  | .fix m => 0 ≤ m ∧ m < 90
  | .sh m p q cap w => 0 ≤ m ∧ m < 40 ∧ (0 ≤ p ∧ p ≤ 1) ∧ (1 ≤ q ∧ q ≤ 12)
structure Tb where
  price : Int
  p : Int
  q : Int
  most : Int
  rows : List Row
abbrev encT (t : Tb) : D := .tuple [.int t.price, .tuple [.int t.p, .int t.q], .int t.most, .tuple (t.rows.map encRow)]
structure Tb.ok (t : Tb) (m : Nat) : Prop where
  pr : 1 ≤ t.price ∧ t.price ≤ 9
  p : 0 ≤ t.p ∧ t.p ≤ 1
  q : 1 ≤ t.q ∧ t.q ≤ 12
  most : 0 ≤ t.most ∧ t.most < 60
  rows : ∀ r ∈ t.rows, r.ok
  len : t.rows.length = m
structure IsR (R : List D) (rs : List Row) : Prop where
  e : R = rs.map encRow
  ok : ∀ r ∈ rs, r.ok
theorem IsR.snoc {R : List D} {rs : List Row} (h : IsR R rs) (r : Row) (hr : r.ok) : IsR (R ++ [encRow r]) (rs ++ [r]) :=
  ⟨by rw [h.e, List.map_append]; rfl, fun x hx => by
    rcases List.mem_append.mp hx with hx | hx
    · exact h.ok x hx
    · have e : x = r := by simpa using hx
      subst e; exact hr⟩
theorem ix_2s {a b : Str} {i : Int} (h0 : 0 ≤ i) (h3 : i < 2) : IxAt [.str a, .str b] i (.str (if i = 0 then a else b)) := by
  have : i = 0 ∨ i = 1 := by omega
  rcases this with rfl | rfl
  · exact ix0
  · exact ix1
theorem ix_3s {a b c : Str} {i : Int} (h0 : 0 ≤ i) (h3 : i < 3) : IxAt [.str a, .str b, .str c] i (.str (if i = 0 then a else if i = 1 then b else c)) := by
  have : i = 0 ∨ i = 1 ∨ i = 2 := by omega
  rcases this with rfl | rfl | rfl
  · exact ix0
  · exact ix1
  · exact ix2
theorem ix_2t {a b c d : Int} {i : Int} (h0 : 0 ≤ i) (h3 : i < 2) : IxAt [.tuple [.int a, .int b], .tuple [.int c, .int d]] i (.tuple [.int (if i = 0 then a else c), .int (if i = 0 then b else d)]) := by
  have : i = 0 ∨ i = 1 := by omega
  rcases this with rfl | rfl
  · exact ix0
  · exact ix1
theorem ix_3t {a b c d e f : Int} {i : Int} (h0 : 0 ≤ i) (h3 : i < 3) : IxAt [.tuple [.int a, .int b], .tuple [.int c, .int d], .tuple [.int e, .int f]] i (.tuple [.int (if i = 0 then a else if i = 1 then c else e), .int (if i = 0 then b else if i = 1 then d else f)]) := by
  have : i = 0 ∨ i = 1 ∨ i = 2 := by omega
  rcases this with rfl | rfl | rfl
  · exact ix0
  · exact ix1
  · exact ix2
theorem table_eq (m : Nat) (hm : m ≤ 4) (ds0 : List Int) : ∃ t ds, FE f__law_table [.io (.ls (iL ds0)), .d (.int m)] (.val (encT t)) (some (.ls (iL ds))) ∧ t.ok m := by
  obtain ⟨ρ', h1, R, rs, ds, hR, hl, rfl⟩ := for_inv (c := .nm 3) (b := lb__law_table_1) PyData.int (fun pre ρ => ∃ R rs ds, IsR R rs ∧ rs.length = pre.length ∧ ρ = [.io (.ls (iL ds)), .val (.int m), .val (.tuple R), .un, .un]) (xs := rng 0 m)
    (ρ := [.io (.ls (iL ds0)), .val (.int m), .val (.tuple []), .un, .un]) ⟨[], [], ds0, ⟨rfl, fun _ h => nomatch h⟩, rfl, rfl⟩ (by
      rintro pre x suf ρ e ⟨R, rs, ds, hR, hl, rfl⟩
      have hp := rng_split e
      have hRl : R.length = rs.length := by rw [hR.e, List.length_map]
      have hpl : pre.length ≤ 4 := by omega
      refine ⟨_, .nm (by ((with_reducible ((iterate 3 apply FPut.s); exact FPut.u)))), ?_⟩
      unfold lb__law_table_1
      ((with_reducible (apply s_fg; apply s_seq; apply s_setV; apply g_bin; apply g_ex; apply g_lst; apply g_elO; apply g_escE; apply g_C; apply datk_v; apply g_elO; apply g_escE; apply g_C; apply datk_v; apply g_elN; apply And.intro (a := Fits _))); ((with_reducible apply fits_of); ((try simp only [List.length_append, List.length_cons, List.length_nil, List.length_map, List.length_replicate, List.length_reverse, List.length_dropLast]); (first | assumption | omega | decide))); (with_reducible (apply datk_o; apply g_ex; apply g_def; apply g_caI; exact LAt.io; apply g_caV; apply g_escE; apply g_C; apply datk_v; apply g_caN; apply defk_take; exact LAt.io)); (unfold DL.Pos; (first | assumption | decide | omega)); ((with_reducible change ∀ (x : Int) (ds' : List Int), 0 ≤ x → x < _ → _); intro _ _ _ _); (with_reducible (apply datk_v; apply bink; (iterate 2 exact Res.dat); apply oo_ixL)))
      · exact ix_2s (by assumption) (by assumption)
      ((with_reducible (apply datk_v; apply stk; (iterate 4 apply FPut.s); exact FPut.u; apply ks_nx; apply s_ite; apply g_TB; apply g_bin; apply g_nm; (iterate 4 apply DAt.s); exact DAt.v; apply g_ex; apply g_C; apply datk_v; apply bink; apply Res.nm; (iterate 4 apply DAt.s); exact DAt.v; exact Res.dat; exact oo_eqS _ _; apply boolk)))
      refine ifk_d (fun h0 => ?_) (fun h0 => ?_)
      · ((with_reducible (apply s_setV; apply g_bin; apply g_nm; (iterate 2 apply DAt.s); exact DAt.v; apply g_ex; apply g_tup; apply g_elO; apply g_escE; apply g_tup; apply g_elO; apply g_escE; apply g_C; apply datk_v; apply g_elO; apply g_escE; apply g_def; apply g_caI; exact LAt.io; apply g_caV; apply g_escE; apply g_C; apply datk_v; apply g_caN; apply defk_take; exact LAt.io)); (unfold DL.Pos; (first | assumption | decide | omega)); ((with_reducible change ∀ (x : Int) (ds' : List Int), 0 ≤ x → x < _ → _); intro _ _ _ _); (with_reducible (apply datk_v; apply g_elO; apply g_escE; apply g_tup; apply g_elO; apply g_escE; apply g_C; apply datk_v; apply g_elO; apply g_escE; apply g_C; apply datk_v; apply g_elN; apply And.intro (a := Fits _))); ((with_reducible apply fits_of); ((try simp only [List.length_append, List.length_cons, List.length_nil, List.length_map, List.length_replicate, List.length_reverse, List.length_dropLast]); (first | assumption | omega | decide))); (with_reducible (apply datk_v; apply g_elO; apply g_escE; apply g_C; apply datk_v; apply g_elO; apply g_escE; apply g_C; apply datk_v; apply g_elN; apply And.intro (a := Fits _))); ((with_reducible apply fits_of); ((try simp only [List.length_append, List.length_cons, List.length_nil, List.length_map, List.length_replicate, List.length_reverse, List.length_dropLast]); (first | assumption | omega | decide))); (with_reducible (apply datk_v; apply g_elN; apply And.intro (a := Fits _))); ((with_reducible apply fits_of); ((try simp only [List.length_append, List.length_cons, List.length_nil, List.length_map, List.length_replicate, List.length_reverse, List.length_dropLast]); (first | assumption | omega | decide))); (with_reducible (apply datk_v; apply bink; apply Res.nm; (iterate 2 apply DAt.s); exact DAt.v; exact Res.dat; apply oo_addT)); ((with_reducible apply fits_of); ((try simp only [List.length_append, List.length_cons, List.length_nil, List.length_map, List.length_replicate, List.length_reverse, List.length_dropLast]); (first | assumption | omega | decide))); (with_reducible (apply datk_v; apply stk; (iterate 2 apply FPut.s); exact FPut.v; apply kf_nx; apply Fgs.cons; (iterate 3 apply Fg1.s); exact Fg1.v; apply Fgs.cons; (iterate 4 apply Fg1.s); exact Fg1.v; exact Fgs.nil; apply qn_nx)))
        rename_i m1 ds2 hm0 hm1
        exact ⟨_, _, ds2, hR.snoc (.fix m1) ⟨hm0, hm1⟩, by simp [hl], rfl⟩
      · ((with_reducible (apply s_setV; apply g_bin; apply g_nm; (iterate 2 apply DAt.s); exact DAt.v; apply g_ex; apply g_tup; apply g_elO; apply g_escE; apply g_tup; apply g_elO; apply g_escE; apply g_C; apply datk_v; apply g_elO; apply g_escE; apply g_def; apply g_caI; exact LAt.io; apply g_caV; apply g_escE; apply g_C; apply datk_v; apply g_caN; apply defk_take; exact LAt.io)); (unfold DL.Pos; (first | assumption | decide | omega)); ((with_reducible change ∀ (x : Int) (ds' : List Int), 0 ≤ x → x < _ → _); intro _ _ _ _); (with_reducible (apply datk_v; apply g_elO; apply g_escE; apply g_bin; apply g_ex; apply g_lst; apply g_elO; apply g_escE; apply g_tup; apply g_elO; apply g_escE; apply g_C; apply datk_v; apply g_elO; apply g_escE; apply g_C; apply datk_v; apply g_elN; apply And.intro (a := Fits _))); ((with_reducible apply fits_of); ((try simp only [List.length_append, List.length_cons, List.length_nil, List.length_map, List.length_replicate, List.length_reverse, List.length_dropLast]); (first | assumption | omega | decide))); (with_reducible (apply datk_v; apply g_elO; apply g_escE; apply g_tup; apply g_elO; apply g_escE; apply g_C; apply datk_v; apply g_elO; apply g_escE; apply g_C; apply datk_v; apply g_elN; apply And.intro (a := Fits _))); ((with_reducible apply fits_of); ((try simp only [List.length_append, List.length_cons, List.length_nil, List.length_map, List.length_replicate, List.length_reverse, List.length_dropLast]); (first | assumption | omega | decide))); (with_reducible (apply datk_v; apply g_elO; apply g_escE; apply g_tup; apply g_elO; apply g_escE; apply g_C; apply datk_v; apply g_elO; apply g_escE; apply g_C; apply datk_v; apply g_elN; apply And.intro (a := Fits _))); ((with_reducible apply fits_of); ((try simp only [List.length_append, List.length_cons, List.length_nil, List.length_map, List.length_replicate, List.length_reverse, List.length_dropLast]); (first | assumption | omega | decide))); (with_reducible (apply datk_v; apply g_elN; apply And.intro (a := Fits _))); ((with_reducible apply fits_of); ((try simp only [List.length_append, List.length_cons, List.length_nil, List.length_map, List.length_replicate, List.length_reverse, List.length_dropLast]); (first | assumption | omega | decide))); (with_reducible (apply datk_o; apply g_ex; apply g_def; apply g_caI; exact LAt.io; apply g_caV; apply g_escE; apply g_C; apply datk_v; apply g_caN; apply defk_take; exact LAt.io)); (unfold DL.Pos; (first | assumption | decide | omega)); ((with_reducible change ∀ (x : Int) (ds' : List Int), 0 ≤ x → x < _ → _); intro _ _ _ _); (with_reducible (apply datk_v; apply bink; (iterate 2 exact Res.dat); apply oo_ixL)))
        · exact ix_3t (by assumption) (by assumption)
        ((with_reducible (apply datk_v; apply g_elO; apply g_escE; apply g_bin; apply g_ex; apply g_lst; apply g_elO; apply g_escE; apply g_C; apply datk_v; apply g_elO; apply g_escE; apply g_C; apply datk_v; apply g_elN; apply And.intro (a := Fits _))); ((with_reducible apply fits_of); ((try simp only [List.length_append, List.length_cons, List.length_nil, List.length_map, List.length_replicate, List.length_reverse, List.length_dropLast]); (first | assumption | omega | decide))); (with_reducible (apply datk_o; apply g_ex; apply g_def; apply g_caI; exact LAt.io; apply g_caV; apply g_escE; apply g_C; apply datk_v; apply g_caN; apply defk_take; exact LAt.io)); (unfold DL.Pos; (first | assumption | decide | omega)); ((with_reducible change ∀ (x : Int) (ds' : List Int), 0 ≤ x → x < _ → _); intro _ _ _ _); (with_reducible (apply datk_v; apply bink; (iterate 2 exact Res.dat); apply oo_ixL)))
        · exact ix_2i (by assumption) (by assumption)
        ((with_reducible (apply datk_v; apply g_elO; apply g_escE; apply g_bin; apply g_ex; apply g_lst; apply g_elO; apply g_escE; apply g_C; apply datk_v; apply g_elO; apply g_escE; apply g_C; apply datk_v; apply g_elO; apply g_escE; apply g_C; apply datk_v; apply g_elN; apply And.intro (a := Fits _))); ((with_reducible apply fits_of); ((try simp only [List.length_append, List.length_cons, List.length_nil, List.length_map, List.length_replicate, List.length_reverse, List.length_dropLast]); (first | assumption | omega | decide))); (with_reducible (apply datk_o; apply g_ex; apply g_def; apply g_caI; exact LAt.io; apply g_caV; apply g_escE; apply g_C; apply datk_v; apply g_caN; apply defk_take; exact LAt.io)); (unfold DL.Pos; (first | assumption | decide | omega)); ((with_reducible change ∀ (x : Int) (ds' : List Int), 0 ≤ x → x < _ → _); intro _ _ _ _); (with_reducible (apply datk_v; apply bink; (iterate 2 exact Res.dat); apply oo_ixL)))
        · exact ix_3s (by assumption) (by assumption)
        ((with_reducible (apply datk_v; apply g_elN; apply And.intro (a := Fits _))); ((with_reducible apply fits_of); ((try simp only [List.length_append, List.length_cons, List.length_nil, List.length_map, List.length_replicate, List.length_reverse, List.length_dropLast]); (first | assumption | omega | decide))); (with_reducible (apply datk_v; apply g_elN; apply And.intro (a := Fits _))); ((with_reducible apply fits_of); ((try simp only [List.length_append, List.length_cons, List.length_nil, List.length_map, List.length_replicate, List.length_reverse, List.length_dropLast]); (first | assumption | omega | decide))); (with_reducible (apply datk_v; apply bink; apply Res.nm; (iterate 2 apply DAt.s); exact DAt.v; exact Res.dat; apply oo_addT)); ((with_reducible apply fits_of); ((try simp only [List.length_append, List.length_cons, List.length_nil, List.length_map, List.length_replicate, List.length_reverse, List.length_dropLast]); (first | assumption | omega | decide))); (with_reducible (apply datk_v; apply stk; (iterate 2 apply FPut.s); exact FPut.v; apply kf_nx; apply Fgs.cons; (iterate 3 apply Fg1.s); exact Fg1.v; apply Fgs.cons; (iterate 4 apply Fg1.s); exact Fg1.v; exact Fgs.nil; apply qn_nx)))
        rename_i m1 _ hm0 hm1 r _ hr0 hr1 _ _ _ _ _ ds2 _ _
        exact ⟨_, _, ds2, hR.snoc (.sh m1 _ _ _ _) ⟨hm0, hm1, by split <;> (try split) <;> omega, by split <;> (try split) <;> omega⟩, by simp [hl], rfl⟩)
  have key : FR f__law_table [.io (.ls (iL ds0)), .d (.int m)] fun r c => ∃ t ds, r = .val (encT t) ∧ c = some (.ls (iL ds)) ∧ t.ok m := by
    refine fr_of ?_
    unfold m__law_table
    show RS _ [.io (.ls (iL ds0)), .val (.int m), .un, .un, .un] _
    ((with_reducible (apply s_seq; apply s_setV; apply g_tup; apply g_elN; apply And.intro (a := Fits _))); ((with_reducible apply fits_of); ((try simp only [List.length_append, List.length_cons, List.length_nil, List.length_map, List.length_replicate, List.length_reverse, List.length_dropLast]); (first | assumption | omega | decide))); (with_reducible (apply datk_v; apply stk; (iterate 2 apply FPut.s); exact FPut.u; apply ks_nx; apply s_seq; apply s_for; apply g_rng; apply g_evC; apply g_nm; apply DAt.s; exact DAt.v; apply g_evN; apply rngk; apply ResAll.cons; apply Res.nm; apply DAt.s; exact DAt.v; exact ResAll.nil; apply opl_r1)); (refine ⟨?_, ?_⟩ <;> (first | decide | omega)))
    refine forK h1 ?_
    ((with_reducible (apply ks_nx; apply s_ret; apply g_tup; apply g_elO; apply g_escE; apply g_bin; apply g_ex; apply g_C; apply datk_v; apply g_ex; apply g_def; apply g_caI; exact LAt.io; apply g_caV; apply g_escE; apply g_C; apply datk_v; apply g_caN; apply defk_take; exact LAt.io)); (unfold DL.Pos; (first | assumption | decide | omega)); ((with_reducible change ∀ (x : Int) (ds' : List Int), 0 ≤ x → x < _ → _); intro _ _ _ _); (with_reducible (apply datk_v; apply bink; (iterate 2 exact Res.dat); exact oo_add _ _; apply datk_v; apply g_elO; apply g_escE; apply g_bin; apply g_ex; apply g_lst; apply g_elO; apply g_escE; apply g_tup; apply g_elO; apply g_escE; apply g_C; apply datk_v; apply g_elO; apply g_escE; apply g_C; apply datk_v; apply g_elN; apply And.intro (a := Fits _))); ((with_reducible apply fits_of); ((try simp only [List.length_append, List.length_cons, List.length_nil, List.length_map, List.length_replicate, List.length_reverse, List.length_dropLast]); (first | assumption | omega | decide))); (with_reducible (apply datk_v; apply g_elO; apply g_escE; apply g_tup; apply g_elO; apply g_escE; apply g_C; apply datk_v; apply g_elO; apply g_escE; apply g_C; apply datk_v; apply g_elN; apply And.intro (a := Fits _))); ((with_reducible apply fits_of); ((try simp only [List.length_append, List.length_cons, List.length_nil, List.length_map, List.length_replicate, List.length_reverse, List.length_dropLast]); (first | assumption | omega | decide))); (with_reducible (apply datk_v; apply g_elN; apply And.intro (a := Fits _))); ((with_reducible apply fits_of); ((try simp only [List.length_append, List.length_cons, List.length_nil, List.length_map, List.length_replicate, List.length_reverse, List.length_dropLast]); (first | assumption | omega | decide))); (with_reducible (apply datk_o; apply g_ex; apply g_def; apply g_caI; exact LAt.io; apply g_caV; apply g_escE; apply g_C; apply datk_v; apply g_caN; apply defk_take; exact LAt.io)); (unfold DL.Pos; (first | assumption | decide | omega)); ((with_reducible change ∀ (x : Int) (ds' : List Int), 0 ≤ x → x < _ → _); intro _ _ _ _); (with_reducible (apply datk_v; apply bink; (iterate 2 exact Res.dat); apply oo_ixL)))
    · exact ix_2t (by assumption) (by assumption)
    ((with_reducible (apply datk_v; apply g_elO; apply g_escE; apply g_def; apply g_caI; exact LAt.io; apply g_caV; apply g_escE; apply g_C; apply datk_v; apply g_caN; apply defk_take; exact LAt.io)); (unfold DL.Pos; (first | assumption | decide | omega)); ((with_reducible change ∀ (x : Int) (ds' : List Int), 0 ≤ x → x < _ → _); intro _ _ _ _); (with_reducible (apply datk_v; apply g_elO; apply g_escN; apply g_name; (iterate 2 apply NmAt.s); exact NmAt.v; apply datk_v; apply g_elN; apply And.intro (a := Fits _))); ((with_reducible apply fits_of); ((try simp only [List.length_append, List.length_cons, List.length_nil, List.length_map, List.length_replicate, List.length_reverse, List.length_dropLast]); (first | assumption | omega | decide))); (with_reducible (apply qd_rt; exact IoR.io)))
    rename_i pr _ _ _ x _ _ _ mo ds2 _ _
    exact ⟨_, _, rfl, ⟨1 + pr, _, _, mo, rs⟩, ds2, by rw [hR.e], rfl, ⟨by dsimp only; omega, by dsimp only; split <;> omega, by dsimp only; split <;> omega, by dsimp only; omega, hR.ok, by rw [rng_len] at hl; dsimp only; omega⟩⟩
  obtain ⟨r, c, h, t, ds, rfl, rfl, h2⟩ := key
  exact ⟨t, ds, h, h2⟩

end LW
set_option Elab.async false
set_option linter.all false
set_option maxRecDepth 100000
set_option maxHeartbeats 4000000
namespace LW
open PySem PySem.Spec PyProof.Rows L2 RT DL
/-! systems -/
inductive SPt where
  | ch (s : List Int) | pl (ps : List (List Int))
def encSP : SPt → D
  | .ch s => enc1 s
  | .pl ps => encP ps
def InS (lo hi : Int) (s : List Int) : Prop := s.Nodup ∧ ∀ x ∈ s, lo ≤ x ∧ x < hi
def okSP (f : Fd) : SPt → Prop
  | .ch s => f.kd = .ch ∧ InS 1 (f.n + 1) s
  | .pl ps => f.kd ≠ .ch ∧ ps.length = f.k ∧ ∀ s ∈ ps, InS 0 f.n s ∧ s ≠ []
theorem InS.len {lo hi : Int} {s : List Int} (h : InS lo hi s) : s.length ≤ (hi - lo).toNat := by
  rw [← rng_len]
  exact List.Nodup.length_le_of_subset h.1 fun x hx => mem_rng.mpr (h.2 x hx)
theorem InS.of_sub {lo hi : Int} {s : List Int} (h : s.Sublist (rng lo hi)) : InS lo hi s := ⟨h.nodup (rng_nodup lo hi), fun x hx => mem_rng.mp (h.subset hx)⟩
theorem InS.of_perm {lo hi : Int} {s t : List Int} (h : InS lo hi s) (p : t.Perm s) : InS lo hi t := ⟨p.nodup_iff.mpr h.1, fun x hx => h.2 x (p.mem_iff.mp hx)⟩
theorem sys_sel1 {s1 s2 s3 s4 s5 s6 s7 s8 s9 s10 : Sl} (xs : List Int) (ds0 : List Int) : ∃ (sel : List Int) (ds : List Int), sel.Sublist xs ∧
    lcD [11] (.nm 11) (mTB (mBin fEq (.ex (mDef 2 f__law_take [.io 0, .v (.ex (mC (.int 3)))])) (.ex (mC (.int 0))))) (mName 11) (xs.map PyData.int) [.io (.ls (iL ds0)), s1, s2, s3, s4, s5, s6, s7, s8, s9, s10, .un] = .ok (iL sel) [.io (.ls (iL ds)), s1, s2, s3, s4, s5, s6, s7, s8, s9, s10, .un] := by
  obtain ⟨out, ρ', h1, sel, ds, h2, rfl, rfl⟩ := lc_inv (vs := [11]) (c := .nm 11) (t := mTB (mBin fEq (.ex (mDef 2 f__law_take [.io 0, .v (.ex (mC (.int 3)))])) (.ex (mC (.int 0))))) (m := mName 11) PyData.int
    (fun pre out ρ => ∃ (sel : List Int) (ds : List Int), sel.Sublist pre ∧ out = iL sel ∧ ρ = [.io (.ls (iL ds)), s1, s2, s3, s4, s5, s6, s7, s8, s9, s10, .un]) (xs := xs) (ρ := [.io (.ls (iL ds0)), s1, s2, s3, s4, s5, s6, s7, s8, s9, s10, .un]) ⟨[], ds0, .slnil, rfl, rfl⟩ (by
      rintro pre x suf out ρ e ⟨sel, ds, h, rfl, rfl⟩
      refine ⟨_, .nm (by ((with_reducible ((iterate 11 apply FPut.s); exact FPut.u)))), ?_⟩
      ((with_reducible (apply g_TB; apply g_bin; apply g_ex; apply g_def; apply g_caI; exact LAt.io; apply g_caV; apply g_escE; apply g_C; apply datk_v; apply g_caN; apply defk_take; exact LAt.io)); (unfold DL.Pos; (first | assumption | decide | omega)); ((with_reducible change ∀ (x : Int) (ds' : List Int), 0 ≤ x → x < _ → _); intro _ _ _ _); (with_reducible (apply datk_v; apply g_ex; apply g_C; apply datk_v; apply bink; (iterate 2 exact Res.dat); exact oo_eq _ _; apply boolk)))
      refine ifk_d (fun h0 => ?_) (fun h0 => ?_)
      · ((with_reducible (apply g_name; (iterate 11 apply NmAt.s); exact NmAt.v)))
        exact ⟨_, by ((with_reducible (apply UnR.cons; exact UnR.nil; (iterate 11 apply FPut.s); exact FPut.v))), sel ++ [x], _, h.append_right [x] |>.trans (List.Sublist.refl _), by simp [Rv.dat], rfl⟩
      · exact ⟨_, by ((with_reducible (apply UnR.cons; exact UnR.nil; (iterate 11 apply FPut.s); exact FPut.v))), sel, _, h.trans (List.sublist_append_left _ _), rfl, rfl⟩)
  exact ⟨sel, ds, h2, h1⟩
theorem sys_sel2 {s1 s2 s3 s4 s5 s6 s8 s9 s10 s11 : Sl} (xs : List Int) (ds0 : List Int) : ∃ (sel : List Int) (ds : List Int), sel.Sublist xs ∧
    lcD [7] (.nm 7) (mTB (mBin fEq (.ex (mDef 2 f__law_take [.io 0, .v (.ex (mC (.int 2)))])) (.ex (mC (.int 0))))) (mName 7) (xs.map PyData.int) [.io (.ls (iL ds0)), s1, s2, s3, s4, s5, s6, .un, s8, s9, s10, s11] = .ok (iL sel) [.io (.ls (iL ds)), s1, s2, s3, s4, s5, s6, .un, s8, s9, s10, s11] := by
  obtain ⟨out, ρ', h1, sel, ds, h2, rfl, rfl⟩ := lc_inv (vs := [7]) (c := .nm 7) (t := mTB (mBin fEq (.ex (mDef 2 f__law_take [.io 0, .v (.ex (mC (.int 2)))])) (.ex (mC (.int 0))))) (m := mName 7) PyData.int
    (fun pre out ρ => ∃ (sel : List Int) (ds : List Int), sel.Sublist pre ∧ out = iL sel ∧ ρ = [.io (.ls (iL ds)), s1, s2, s3, s4, s5, s6, .un, s8, s9, s10, s11]) (xs := xs) (ρ := [.io (.ls (iL ds0)), s1, s2, s3, s4, s5, s6, .un, s8, s9, s10, s11]) ⟨[], ds0, .slnil, rfl, rfl⟩ (by
      rintro pre x suf out ρ e ⟨sel, ds, h, rfl, rfl⟩
      refine ⟨_, .nm (by ((with_reducible ((iterate 7 apply FPut.s); exact FPut.u)))), ?_⟩
      ((with_reducible (apply g_TB; apply g_bin; apply g_ex; apply g_def; apply g_caI; exact LAt.io; apply g_caV; apply g_escE; apply g_C; apply datk_v; apply g_caN; apply defk_take; exact LAt.io)); (unfold DL.Pos; (first | assumption | decide | omega)); ((with_reducible change ∀ (x : Int) (ds' : List Int), 0 ≤ x → x < _ → _); intro _ _ _ _); (with_reducible (apply datk_v; apply g_ex; apply g_C; apply datk_v; apply bink; (iterate 2 exact Res.dat); exact oo_eq _ _; apply boolk)))
      refine ifk_d (fun h0 => ?_) (fun h0 => ?_)
      · ((with_reducible (apply g_name; (iterate 7 apply NmAt.s); exact NmAt.v)))
        exact ⟨_, by ((with_reducible (apply UnR.cons; exact UnR.nil; (iterate 7 apply FPut.s); exact FPut.v))), sel ++ [x], _, h.append_right [x] |>.trans (List.Sublist.refl _), by simp [Rv.dat], rfl⟩
      · exact ⟨_, by ((with_reducible (apply UnR.cons; exact UnR.nil; (iterate 7 apply FPut.s); exact FPut.v))), sel, _, h.trans (List.sublist_append_left _ _), rfl, rfl⟩)
  exact ⟨sel, ds, h2, h1⟩
theorem sys_left {s0 s1 s2 s3 s4 s5 s8 s9 s10 s11 : Sl} (xs rows : List Int) :
    lcD [7] (.nm 7) (mTB (mBin (ofNB fInB) (.nm 7) (.nm 6))) (mName 7) (xs.map PyData.int) [s0, s1, s2, s3, s4, s5, .val (.list (iL rows)), .un, s8, s9, s10, s11] = .ok (iL (xs.filter fun r => !decide (r ∈ rows))) [s0, s1, s2, s3, s4, s5, .val (.list (iL rows)), .un, s8, s9, s10, s11] := by
  exact lc_pre (vs := [7]) (c := .nm 7) (t := mTB (mBin (ofNB fInB) (.nm 7) (.nm 6))) (m := mName 7) PyData.int (fun _ => [s0, s1, s2, s3, s4, s5, .val (.list (iL rows)), .un, s8, s9, s10, s11]) (fun r => !decide (r ∈ rows)) PyData.int xs (by
    intro pre x suf e
    refine ⟨_, .nm (by ((with_reducible ((iterate 7 apply FPut.s); exact FPut.u)))), ?_⟩
    ((with_reducible (apply g_TB; apply g_bin; apply g_nm; (iterate 7 apply DAt.s); exact DAt.v; apply g_nm; (iterate 6 apply DAt.s); exact DAt.v; apply bink; apply Res.nm; (iterate 7 apply DAt.s); exact DAt.v; apply Res.nm; (iterate 6 apply DAt.s); exact DAt.v)))
    · exact oo_ninL EO.int (by decide) x rows
    ((with_reducible (apply boolk)))
    refine ⟨rfl, ?_⟩
    ((with_reducible (apply ifk_not)))
    refine ifk_d (fun h0 => ?_) (fun h0 => ?_)
    · ((with_reducible (apply UnR.cons; exact UnR.nil; (iterate 7 apply FPut.s); exact FPut.v)))
    · ((with_reducible (apply g_name; (iterate 7 apply NmAt.s); exact NmAt.v)))
      exact ⟨rfl, by ((with_reducible (apply UnR.cons; exact UnR.nil; (iterate 7 apply FPut.s); exact FPut.v)))⟩)
theorem sys_places {s1 s2 s3 : Sl} {n : Nat} (hn : 2 ≤ n ∧ n ≤ 9) {k : Nat} (hk : k ≤ 3) (ds0 : List Int) : ∃ (ps : List (List Int)) (ds : List Int), (ps.length = k ∧ ∀ s ∈ ps, InS 0 n s ∧ s ≠ []) ∧
    forD (.nm 10) lb__law_system_1 ((rng 0 k).map PyData.int) [.io (.ls (iL ds0)), s1, s2, s3, .val (.int n), .val (.int k), .un, .un, .un, .val (.tuple []), .un, .un] =
      .nx [.io (.ls (iL ds)), s1, s2, s3, .val (.int n), .val (.int k), .un, .un, .un, .val (encP ps), .un, .un] := by
  obtain ⟨ρ', h1, ps, ds, hl, hps, rfl⟩ := for_inv (c := .nm 10) (b := lb__law_system_1) PyData.int (fun pre ρ => ∃ (ps : List (List Int)) (ds : List Int), ps.length = pre.length ∧ (∀ s ∈ ps, InS 0 n s ∧ s ≠ []) ∧ ρ = [.io (.ls (iL ds)), s1, s2, s3, .val (.int n), .val (.int k), .un, .un, .un, .val (encP ps), .un, .un]) (xs := rng 0 k)
    (ρ := [.io (.ls (iL ds0)), s1, s2, s3, .val (.int n), .val (.int k), .un, .un, .un, .val (.tuple []), .un, .un]) ⟨[], ds0, rfl, (fun _ h => nomatch h), rfl⟩ (by
      rintro pre x suf ρ e ⟨ps, ds, hl, hps, rfl⟩
      have hp := rng_split e
      obtain ⟨sel, ds1, hs, hlc⟩ := sys_sel1 (s1 := s1) (s2 := s2) (s3 := s3) (s4 := .val (.int n)) (s5 := .val (.int k)) (s6 := .un) (s7 := .un) (s8 := .un) (s9 := .val (encP ps)) (s10 := .val (.int x)) (rng 0 n) ds
      have hS := InS.of_sub hs
      have hrl : (rng 0 (n : Int)).length ≤ 9 := by rw [rng_len]; omega
      have hsl := hs.length_le
      refine ⟨_, .nm (by ((with_reducible ((iterate 10 apply FPut.s); exact FPut.u)))), ?_⟩
      unfold lb__law_system_1
      ((with_reducible (apply s_fg; apply s_seq; apply s_setV; apply g_lc; apply g_rng; apply g_evC; apply g_nm; (iterate 4 apply DAt.s); exact DAt.v; apply g_evN; apply rngk; apply ResAll.cons; apply Res.nm; (iterate 4 apply DAt.s); exact DAt.v; exact ResAll.nil; apply opl_r1)); (refine ⟨?_, ?_⟩ <;> (first | decide | omega)); (with_reducible (apply lck)); ((with_reducible apply fits_of); ((try simp only [List.length_append, List.length_cons, List.length_nil, List.length_map, List.length_replicate, List.length_reverse, List.length_dropLast]); (first | assumption | omega | decide))); (with_reducible (apply UnR.cons; exact UnR.nil; (iterate 11 apply FPut.s); exact FPut.u)))
      refine lce hlc ?_
      ((with_reducible (apply datk_o; apply stk; (iterate 6 apply FPut.s); exact FPut.u; apply ks_nx; apply s_setV; apply g_bin; apply g_nm; (iterate 9 apply DAt.s); exact DAt.v; apply g_ex; apply g_tup; apply g_elO; apply g_escE; apply g_call; apply g_evC; apply g_ex; apply g_orO; apply g_escN; apply g_name; (iterate 6 apply NmAt.s); exact NmAt.v; apply datk_v)))
      refine ork (x := !(iL sel).isEmpty) rfl ?_
      refine ifk_b (fun h0 => ?_) (fun h0 => ?_)
      · have hne : sel ≠ [] := fun e => by subst e; simp at h0
        ((with_reducible (apply datk_v; apply g_evN; apply callk; apply ResAll.cons; exact Res.dat; exact ResAll.nil; apply opn_1; exact oo_tupL _; apply datk_v; apply g_elN; apply And.intro (a := Fits _))); ((with_reducible apply fits_of); ((try simp only [List.length_append, List.length_cons, List.length_nil, List.length_map, List.length_replicate, List.length_reverse, List.length_dropLast]); (first | assumption | omega | decide))); (with_reducible (apply datk_v; apply bink; apply Res.nm; (iterate 9 apply DAt.s); exact DAt.v; exact Res.dat; apply oo_addT)); ((with_reducible apply fits_of); ((try simp only [List.length_append, List.length_cons, List.length_nil, List.length_map, List.length_replicate, List.length_reverse, List.length_dropLast]); (first | assumption | omega | decide))); (with_reducible (apply datk_v; apply stk; (iterate 9 apply FPut.s); exact FPut.v; apply kf_nx; apply Fgs.cons; (iterate 6 apply Fg1.s); exact Fg1.v; apply Fgs.cons; (iterate 10 apply Fg1.s); exact Fg1.v; exact Fgs.nil; apply qn_nx)))
        exact ⟨ps ++ [sel], ds1, by simp [hl], fun s hx => by
          rcases List.mem_append.mp hx with hx | hx
          · exact hps s hx
          · have : s = sel := by simpa using hx
            rw [this]; exact ⟨hS, hne⟩, by simp⟩
      · ((with_reducible (apply g_lst; apply g_elO; apply g_escE; apply g_def; apply g_caI; exact LAt.io; apply g_caV; apply g_escN; apply g_name; (iterate 4 apply NmAt.s); exact NmAt.v; apply datk_v; apply g_caN; apply defk_take; exact LAt.io)); (unfold DL.Pos; (first | assumption | decide | omega)); ((with_reducible change ∀ (x : Int) (ds' : List Int), 0 ≤ x → x < _ → _); intro _ _ _ _); (with_reducible (apply datk_v; apply g_elN; apply And.intro (a := Fits _))); ((with_reducible apply fits_of); ((try simp only [List.length_append, List.length_cons, List.length_nil, List.length_map, List.length_replicate, List.length_reverse, List.length_dropLast]); (first | assumption | omega | decide))); (with_reducible (apply datk_o; apply g_evN; apply callk; apply ResAll.cons; exact Res.dat; exact ResAll.nil; apply opn_1; exact oo_tupL _; apply datk_v; apply g_elN; apply And.intro (a := Fits _))); ((with_reducible apply fits_of); ((try simp only [List.length_append, List.length_cons, List.length_nil, List.length_map, List.length_replicate, List.length_reverse, List.length_dropLast]); (first | assumption | omega | decide))); (with_reducible (apply datk_v; apply bink; apply Res.nm; (iterate 9 apply DAt.s); exact DAt.v; exact Res.dat; apply oo_addT)); ((with_reducible apply fits_of); ((try simp only [List.length_append, List.length_cons, List.length_nil, List.length_map, List.length_replicate, List.length_reverse, List.length_dropLast]); (first | assumption | omega | decide))); (with_reducible (apply datk_v; apply stk; (iterate 9 apply FPut.s); exact FPut.v; apply kf_nx; apply Fgs.cons; (iterate 6 apply Fg1.s); exact Fg1.v; apply Fgs.cons; (iterate 10 apply Fg1.s); exact Fg1.v; exact Fgs.nil; apply qn_nx)))
        rename_i y ds2 hy0 hy1
        exact ⟨ps ++ [[y]], ds2, by simp [hl], fun s hx => by
          rcases List.mem_append.mp hx with hx | hx
          · exact hps s hx
          · have : s = [y] := by simpa using hx
            rw [this]; exact ⟨⟨by simp, fun z hz => by
              have : z = y := by simpa using hz
              omega⟩, by simp⟩, by simp⟩)
  exact ⟨ps, ds, ⟨by rw [hl, rng_len]; omega, hps⟩, h1⟩
theorem system_eq {g : List Fd} (hg : ∀ f ∈ g, f.ok) (hl : g.length ≤ 3) (ds0 : List Int) : ∃ (sy : List SPt) (ds : List Int), FE f__law_system [.io (.ls (iL ds0)), .d (encG g)] (.val (.tuple (sy.map encSP))) (some (.ls (iL ds))) ∧ Rel2 okSP g sy := by
  obtain ⟨ρ', h1, sy, ds, hr, rfl⟩ := for_inv (c := .tu [.nm 3, .nm 4, .nm 5]) (b := lb__law_system_2) encF (fun pre ρ => ∃ (sy : List SPt) (ds : List Int), Rel2 okSP pre sy ∧ ρ = [.io (.ls (iL ds)), .val (encG g), .val (.tuple (sy.map encSP)), .un, .un, .un, .un, .un, .un, .un, .un, .un]) (xs := g)
    (ρ := [.io (.ls (iL ds0)), .val (encG g), .val (.tuple []), .un, .un, .un, .un, .un, .un, .un, .un, .un]) ⟨[], ds0, .nil, rfl⟩ (by
      rintro pre f suf ρ e ⟨sy, ds, hr, rfl⟩
      have hf : f.ok := hg f (by rw [e]; simp)
      obtain ⟨f1, f2, f3, f4, f5⟩ := id hf
      have hpl : pre.length < g.length := by rw [e]; simp
      have hsl := hr.len
      refine ⟨_, (by ((with_reducible (apply BCT.tu; apply BCTs.cons; apply BCT.nm; (iterate 3 apply FPut.s); exact FPut.u; apply BCTs.cons; apply BCT.nm; (iterate 4 apply FPut.s); exact FPut.u; apply BCTs.cons; apply BCT.nm; (iterate 5 apply FPut.s); exact FPut.u; exact BCTs.nil)))), ?_⟩
      unfold lb__law_system_2
      ((with_reducible (apply s_fg; apply s_ite; apply g_TB; apply g_bin; apply g_nm; (iterate 3 apply DAt.s); exact DAt.v; apply g_ex; apply g_C; apply datk_v; apply bink; apply Res.nm; (iterate 3 apply DAt.s); exact DAt.v; exact Res.dat; exact oo_eqS _ _; apply boolk)))
      refine ifk_d (fun h0 => ?_) (fun h0 => ?_)
      · have hk := kd_ch.mp h0
        have hrl : (rng 1 ((f.n : Int) + 1)).length ≤ 9 := by rw [rng_len]; have := hf.2.1; omega
        obtain ⟨sel, ds1, hs, hlc⟩ := sys_sel2 (s1 := .val (encG g)) (s2 := .val (.tuple (sy.map encSP))) (s3 := .val (.str f.kd.s)) (s4 := .val (.int f.n)) (s5 := .val (.int f.k)) (s6 := .un) (s8 := .un) (s9 := .un) (s10 := .un) (s11 := .un) (rng 1 ((f.n : Int) + 1)) ds
        have hsl2 := hs.length_le
        obtain ⟨rows, ho, hop⟩ := oo_sortI (ns := sel) (by omega)
        have hrl2 := hop.length_eq
        have hR : InS 1 ((f.n : Int) + 1) rows := (InS.of_sub hs).of_perm hop
        have hll : ((rng 1 ((f.n : Int) + 1)).filter fun r => !decide (r ∈ rows)).length ≤ 9 := Nat.le_trans (List.length_filter_le _ _) hrl
        ((with_reducible (apply s_seq; apply s_setV; apply g_call; apply g_evC; apply g_ex; apply g_lc; apply g_rng; apply g_evC; apply g_ex; apply g_C; apply datk_v; apply g_evC; apply g_ex; apply g_bin; apply g_nm; (iterate 4 apply DAt.s); exact DAt.v; apply g_ex; apply g_C; apply datk_v; apply bink; apply Res.nm; (iterate 4 apply DAt.s); exact DAt.v; exact Res.dat; exact oo_add _ _; apply datk_v; apply g_evN; apply rngk; apply ResAll.cons; exact Res.dat; apply ResAll.cons; exact Res.dat; exact ResAll.nil; apply opl_r2)); (refine ⟨?_, ?_⟩ <;> (first | decide | omega)); (refine ⟨?_, ?_⟩ <;> (first | decide | omega)); (with_reducible (apply lck)); ((with_reducible apply fits_of); ((try simp only [List.length_append, List.length_cons, List.length_nil, List.length_map, List.length_replicate, List.length_reverse, List.length_dropLast]); (first | assumption | omega | decide))); (with_reducible (apply UnR.cons; exact UnR.nil; (iterate 7 apply FPut.s); exact FPut.u)))
        refine lce hlc ?_
        ((with_reducible (apply datk_o; apply g_evN; apply callk; apply ResAll.cons; exact Res.dat; exact ResAll.nil; apply opn_1)))
        · exact ho
        ((with_reducible (apply datk_o; apply stk; (iterate 6 apply FPut.s); exact FPut.u; apply ks_nx; apply s_seq; apply s_setV; apply g_lc; apply g_rng; apply g_evC; apply g_ex; apply g_C; apply datk_v; apply g_evC; apply g_ex; apply g_bin; apply g_nm; (iterate 4 apply DAt.s); exact DAt.v; apply g_ex; apply g_C; apply datk_v; apply bink; apply Res.nm; (iterate 4 apply DAt.s); exact DAt.v; exact Res.dat; exact oo_add _ _; apply datk_v; apply g_evN; apply rngk; apply ResAll.cons; exact Res.dat; apply ResAll.cons; exact Res.dat; exact ResAll.nil; apply opl_r2)); (refine ⟨?_, ?_⟩ <;> (first | decide | omega)); (refine ⟨?_, ?_⟩ <;> (first | decide | omega)); (with_reducible (apply lck)); ((with_reducible apply fits_of); ((try simp only [List.length_append, List.length_cons, List.length_nil, List.length_map, List.length_replicate, List.length_reverse, List.length_dropLast]); (first | assumption | omega | decide))); (with_reducible (apply UnR.cons; exact UnR.nil; (iterate 7 apply FPut.s); exact FPut.u)))
        refine lce (sys_left (rng 1 ((f.n : Int) + 1)) rows) ?_
        ((with_reducible (apply datk_o; apply stk; (iterate 8 apply FPut.s); exact FPut.u; apply ks_nx; apply s_setV; apply g_bin; apply g_nm; (iterate 2 apply DAt.s); exact DAt.v; apply g_ex; apply g_tup; apply g_elO; apply g_escE; apply g_call; apply g_evC; apply g_ex; apply g_call; apply g_evC; apply g_ex; apply g_bin; apply g_nm; (iterate 6 apply DAt.s); exact DAt.v; apply g_ex; apply g_cut; apply g_nm; (iterate 8 apply DAt.s); exact DAt.v; apply g_pN; apply g_pS; apply g_ex; apply g_call; apply g_evC; apply g_ex; apply g_C; apply datk_v; apply g_evC; apply g_ex; apply g_bin; apply g_nm; (iterate 5 apply DAt.s); exact DAt.v; apply g_ex; apply g_call; apply g_evC; apply g_nm; (iterate 6 apply DAt.s); exact DAt.v; apply g_evN; apply callk; apply ResAll.cons; apply Res.nm; (iterate 6 apply DAt.s); exact DAt.v; exact ResAll.nil; apply opn_1; exact oo_lenL _; apply datk_v; apply bink; apply Res.nm; (iterate 5 apply DAt.s); exact DAt.v; exact Res.dat; exact oo_sub _ _; apply datk_v; apply g_evN; apply callk; apply ResAll.cons; exact Res.dat; apply ResAll.cons; exact Res.dat; exact ResAll.nil; apply opn_2; exact oo_max _ _; apply datk_v; apply intk; exact Res.dat; apply unk; apply Res.nm; (iterate 8 apply DAt.s); exact DAt.v; exact oo_cutL _ _ _; apply datk_o; apply bink; apply Res.nm; (iterate 6 apply DAt.s); exact DAt.v; exact Res.dat; apply oo_addL)))
        · refine fits_of ?_
          simp only [iL, cutD_map, List.length_map]
          have := (cutD_sub ((rng 1 ((f.n : Int) + 1)).filter fun r => !decide (r ∈ rows)) none (some (if (f.k : Int) - (rows.length : Nat) > 0 then (f.k : Int) - (rows.length : Nat) else 0))).length_le
          omega
        simp only [iL, cutD_map, ← List.map_append, List.length_map]
        have hc := cutD_sub ((rng 1 ((f.n : Int) + 1)).filter fun r => !decide (r ∈ rows)) none (some (if (f.k : Int) - (rows.length : Nat) > 0 then (f.k : Int) - (rows.length : Nat) else 0))
        have hcl := hc.length_le
        obtain ⟨S, hS, hSp⟩ := oo_sortI (ns := rows ++ cutD ((rng 1 ((f.n : Int) + 1)).filter fun r => !decide (r ∈ rows)) none (some (if (f.k : Int) - (rows.length : Nat) > 0 then (f.k : Int) - (rows.length : Nat) else 0))) (by rw [List.length_append]; omega)
        ((with_reducible (apply datk_o; apply g_evN; apply callk; apply ResAll.cons; exact Res.dat; exact ResAll.nil; apply opn_1)))
        · exact hS
        ((with_reducible (apply datk_o; apply g_evN; apply callk; apply ResAll.cons; exact Res.dat; exact ResAll.nil; apply opn_1; exact oo_tupL _; apply datk_v; apply g_elN; apply And.intro (a := Fits _))); ((with_reducible apply fits_of); ((try simp only [List.length_append, List.length_cons, List.length_nil, List.length_map, List.length_replicate, List.length_reverse, List.length_dropLast]); (first | assumption | omega | decide))); (with_reducible (apply datk_v; apply bink; apply Res.nm; (iterate 2 apply DAt.s); exact DAt.v; exact Res.dat; apply oo_addT)); ((with_reducible apply fits_of); ((try simp only [List.length_append, List.length_cons, List.length_nil, List.length_map, List.length_replicate, List.length_reverse, List.length_dropLast]); (first | assumption | omega | decide))); (with_reducible (apply datk_v; apply stk; (iterate 2 apply FPut.s); exact FPut.v; apply kf_nx; apply Fgs.cons; (iterate 3 apply Fg1.s); exact Fg1.v; apply Fgs.cons; (iterate 4 apply Fg1.s); exact Fg1.v; apply Fgs.cons; (iterate 5 apply Fg1.s); exact Fg1.v; apply Fgs.cons; (iterate 6 apply Fg1.s); exact Fg1.v; apply Fgs.cons; (iterate 8 apply Fg1.s); exact Fg1.v; apply Fgs.cons; (iterate 9 apply Fg1.s); exact Fg1.u; apply Fgs.cons; (iterate 10 apply Fg1.s); exact Fg1.u; exact Fgs.nil; apply qn_nx)))
        have hIn : InS 1 ((f.n : Int) + 1) S := by
          refine InS.of_perm ⟨List.nodup_append.mpr ⟨hR.1, hc.nodup ((List.filter_sublist).nodup (rng_nodup _ _)), fun a ha b hb e => ?_⟩, fun x hx => ?_⟩ hSp
          · subst e
            have := (List.mem_filter.mp (hc.subset hb)).2
            simp [ha] at this
          · rcases List.mem_append.mp hx with hx | hx
            · exact hR.2 x hx
            · exact mem_rng.mp (List.mem_filter.mp (hc.subset hx)).1
        exact ⟨sy ++ [.ch S], ds1, hr.snoc (show okSP f (.ch S) from ⟨hk, hIn⟩), by simp [encSP]⟩
      · have hk : f.kd ≠ .ch := fun z => h0 (kd_ch.mpr z)
        obtain ⟨ps, ds1, hps, h1⟩ := sys_places (s1 := .val (encG g)) (s2 := .val (.tuple (sy.map encSP))) (s3 := .val (.str f.kd.s)) (n := f.n) ⟨f1, f2⟩ (k := f.k) f4 ds
        ((with_reducible (apply s_seq; apply s_setV; apply g_tup; apply g_elN; apply And.intro (a := Fits _))); ((with_reducible apply fits_of); ((try simp only [List.length_append, List.length_cons, List.length_nil, List.length_map, List.length_replicate, List.length_reverse, List.length_dropLast]); (first | assumption | omega | decide))); (with_reducible (apply datk_v; apply stk; (iterate 9 apply FPut.s); exact FPut.u; apply ks_nx; apply s_seq; apply s_for; apply g_rng; apply g_evC; apply g_nm; (iterate 5 apply DAt.s); exact DAt.v; apply g_evN; apply rngk; apply ResAll.cons; apply Res.nm; (iterate 5 apply DAt.s); exact DAt.v; exact ResAll.nil; apply opl_r1)); (refine ⟨?_, ?_⟩ <;> (first | decide | omega)))
        refine forK h1 ?_
        ((with_reducible (apply ks_nx; apply s_setV; apply g_bin; apply g_nm; (iterate 2 apply DAt.s); exact DAt.v; apply g_ex; apply g_tup; apply g_elO; apply g_escN; apply g_name; (iterate 9 apply NmAt.s); exact NmAt.v; apply datk_v; apply g_elN; apply And.intro (a := Fits _))); ((with_reducible apply fits_of); ((try simp only [List.length_append, List.length_cons, List.length_nil, List.length_map, List.length_replicate, List.length_reverse, List.length_dropLast]); (first | assumption | omega | decide))); (with_reducible (apply datk_v; apply bink; apply Res.nm; (iterate 2 apply DAt.s); exact DAt.v; exact Res.dat; apply oo_addT)); ((with_reducible apply fits_of); ((try simp only [List.length_append, List.length_cons, List.length_nil, List.length_map, List.length_replicate, List.length_reverse, List.length_dropLast]); (first | assumption | omega | decide))); (with_reducible (apply datk_v; apply stk; (iterate 2 apply FPut.s); exact FPut.v; apply kf_nx; apply Fgs.cons; (iterate 3 apply Fg1.s); exact Fg1.v; apply Fgs.cons; (iterate 4 apply Fg1.s); exact Fg1.v; apply Fgs.cons; (iterate 5 apply Fg1.s); exact Fg1.v; apply Fgs.cons; (iterate 6 apply Fg1.s); exact Fg1.u; apply Fgs.cons; (iterate 8 apply Fg1.s); exact Fg1.u; apply Fgs.cons; (iterate 9 apply Fg1.s); exact Fg1.v; apply Fgs.cons; (iterate 10 apply Fg1.s); exact Fg1.u; exact Fgs.nil; apply qn_nx)))
        exact ⟨sy ++ [.pl ps], ds1, hr.snoc (show okSP f (.pl ps) from ⟨hk, hps⟩), by simp [encSP]⟩)
  refine ⟨sy, ds, ?_, hr⟩
  refine fe_of ?_
  unfold m__law_system
  show RS _ [.io (.ls (iL ds0)), .val (encG g), .un, .un, .un, .un, .un, .un, .un, .un, .un, .un] _
  ((with_reducible (apply s_seq; apply s_setV; apply g_tup; apply g_elN; apply And.intro (a := Fits _))); ((with_reducible apply fits_of); ((try simp only [List.length_append, List.length_cons, List.length_nil, List.length_map, List.length_replicate, List.length_reverse, List.length_dropLast]); (first | assumption | omega | decide))); (with_reducible (apply datk_v; apply stk; (iterate 2 apply FPut.s); exact FPut.u; apply ks_nx; apply s_seq; apply s_for; apply g_it; apply g_escN; apply g_name; apply NmAt.s; exact NmAt.v; apply datk_v; apply itk; exact It.t)))
  refine forK h1 ?_
  ((with_reducible (apply ks_nx; apply s_retNm; (iterate 2 apply RtAt.s); exact RtAt.v; apply qd_rt; exact IoR.io)))
  rfl

end LW
set_option Elab.async false
set_option linter.all false
set_option maxRecDepth 100000
set_option maxHeartbeats 4000000
namespace LW
open PySem PySem.Spec PyProof.Rows L2 RT DL
/-! what a system holds -/
def holdsP : SPt → List Int → Bool
  | .ch s, p => p.all fun x => decide (x ∈ s)
  | .pl ps, p => (p.zip ps).all fun z => decide (z.1 ∈ z.2)
def holdsG (sy : List SPt) (pk : List (List Int)) : Bool := (pk.zip sy).all fun z => holdsP z.2 z.1
theorem foldF_rel' : ∀ (g pre : List Fd) (acc : List (List (List Int))), (∀ pk ∈ acc, Rel2 (fun f p => p ∈ parts f) pre pk) → ∀ pk ∈ g.foldl (fun acc f => acc.flatMap fun pk => (parts f).map fun p => pk ++ [p]) acc, Rel2 (fun f p => p ∈ parts f) (pre ++ g) pk
  | [], pre, acc, h, pk, hp => by rw [List.append_nil]; exact h pk hp
  | f :: g, pre, acc, h, pk, hp => by
    rw [List.foldl_cons] at hp
    have := foldF_rel' g (pre ++ [f]) _ (fun q hq => by
      simp only [List.mem_flatMap, List.mem_map] at hq
      obtain ⟨a, ha, b, hb, rfl⟩ := hq
      exact (h a ha).snoc hb) pk hp
    rw [List.append_assoc] at this
    exact this
theorem foldF_rel {g : List Fd} {pk : List (List Int)} (h : pk ∈ foldF g) : Rel2 (fun f p => p ∈ parts f) g pk := foldF_rel' g [] [[]] (fun p hp => by
  have e : p = [] := by simpa using hp
  subst e; exact .nil) pk h
theorem lc_nin {vs : List Nat} {ρ : Rho} (s xs : List Int) {t : MT} (h : ∀ x ∈ xs, ∃ ρ1, BCT (.nm 4) (.int x) ρ ρ1 ∧ RG t ρ1 fun b ρ2 => b = (!decide (x ∈ s)) ∧ IfK b (RG (mName 4) ρ2 fun r ρ3 => r.dat = .int x ∧ UnR vs ρ3 ρ) (UnR vs ρ2 ρ)) :
    lcD vs (.nm 4) t (mName 4) (xs.map PyData.int) ρ = .ok (iL (xs.filter fun x => !decide (x ∈ s))) ρ :=
  lc_pre PyData.int (fun _ => ρ) (fun x => !decide (x ∈ s)) PyData.int xs fun pre x suf e => h x (by rw [e]; simp)
theorem filter_nil_all {α : Type} (p : α → Bool) (xs : List α) : xs.filter (fun x => !p x) = [] ↔ xs.all p = true := by
  rw [List.filter_eq_nil_iff, List.all_eq_true]
  simp
theorem getD_of {α : Type} {xs : List α} {i : Nat} {x d : α} (h : xs[i]? = some x) : xs.getD i d = x := by rw [List.getD_eq_getElem?_getD, h]; rfl
theorem zip_all {p : List Int} {ps : List (List Int)} (h : p.length = ps.length) : ((rng 0 p.length).all fun j => decide (p.getD j.toNat 0 ∈ ps.getD j.toNat [])) = (p.zip ps).all fun z => decide (z.1 ∈ z.2) := by
  rw [Bool.eq_iff_iff, List.all_eq_true, List.all_eq_true]
  constructor
  · intro q z hz
    obtain ⟨i, hi⟩ := List.mem_iff_getElem?.mp hz
    obtain ⟨h1, h2⟩ := List.getElem?_zip_eq_some.mp hi
    have hl := (List.getElem?_eq_some_iff.mp h1).1
    have := q (i : Int) (mem_rng.mpr ⟨by omega, by omega⟩)
    rw [Int.toNat_natCast, getD_of h1, getD_of h2] at this
    exact this
  · intro q j hj
    obtain ⟨h1, h2⟩ := mem_rng.mp hj
    have e1 : p[j.toNat]? = some p[j.toNat] := List.getElem?_eq_getElem (by omega)
    have e2 : ps[j.toNat]? = some ps[j.toNat] := List.getElem?_eq_getElem (by omega)
    rw [getD_of e1, getD_of e2]
    exact q (p[j.toNat], ps[j.toNat]) (List.mem_of_getElem? (List.getElem?_zip_eq_some.mpr ⟨e1, e2⟩))
theorem ixAt_rng {β : Type} {enc : β → D} {xs : List β} {d : β} {j : Int} (h : 0 ≤ j ∧ j < xs.length) : IxAt (xs.map enc) j (enc (xs.getD j.toNat d)) := by
  have hl : j.toNat < xs.length := by omega
  have := List.getElem?_eq_getElem hl
  refine ixAt_map (n := j.toNat) (by omega) ?_
  rw [getD_of this]; exact this
theorem holds_eq {g : List Fd} {sy : List SPt} {pk : List (List Int)} (hg : ∀ f ∈ g, f.ok) (hl : g.length ≤ 3) (hs : Rel2 okSP g sy) (hp : Rel2 (fun f p => p ∈ parts f) g pk) :
    FE f__law_holds [.d (encG g), .d (.tuple (sy.map encSP)), .d (encP pk)] (.val (.bool (holdsG sy pk))) none := by
  have key := for_ret (c := .nm 3) (b := lb__law_holds_1) PyData.int (fun pre ρ => ρ = [.val (encG g), .val (.tuple (sy.map encSP)), .val (encP pk), .un, .un, .un] ∧ ∀ i, i < pre.length → ∀ p s, pk[i]? = some p → sy[i]? = some s → holdsP s p = true)
    (fun r ρ => r = .val (.bool false) ∧ IoR ρ none ∧ holdsG sy pk = false) (xs := rng 0 g.length)
    (ρ := [.val (encG g), .val (.tuple (sy.map encSP)), .val (encP pk), .un, .un, .un]) ⟨rfl, fun _ h => absurd h (Nat.not_lt_zero _)⟩ (by
      rintro pre x suf ρ e ⟨rfl, hh⟩
      have hx := rng_split e
      obtain ⟨f, hf⟩ : ∃ f, g[pre.length]? = some f := ⟨_, List.getElem?_eq_getElem (by omega)⟩
      obtain ⟨s, hs1, hs2⟩ := hs.get hf
      obtain ⟨p, hp1, hp2⟩ := hp.get hf
      have hfo := hg f (List.mem_of_getElem? hf)
      have hpl := partsN_len f f.k p hp2
      obtain ⟨f1, f2, f3, f4, f5⟩ := hfo
      have hpl' : (iL p).length = f.k := by rw [List.length_map]; exact hpl
      have ex : x = (pre.length : Int) := by omega
      have xg : IxAt (g.map encF) x (encF f) := ixAt_map ex hf
      have xs : IxAt (sy.map encSP) x (encSP s) := ixAt_map ex hs1
      have xp : IxAt (pk.map enc1) x (enc1 p) := ixAt_map ex hp1
      have good : holdsP s p = true → ∀ i, i < (pre ++ [x]).length → ∀ p s, pk[i]? = some p → sy[i]? = some s → holdsP s p = true := by
        intro h i hi q t hq ht
        by_cases hi2 : i < pre.length
        · exact hh i hi2 q t hq ht
        · have : i = pre.length := by simp at hi; omega
          subst this
          rw [hq] at hp1; rw [ht] at hs1
          cases hp1; cases hs1
          exact h
      have bad : holdsP s p = false → holdsG sy pk = false := by
        intro h
        cases hb : holdsG sy pk with
        | false => rfl
        | true =>
          unfold holdsG at hb
          rw [List.all_eq_true] at hb
          have hz : (pk.zip sy)[pre.length]? = some (p, s) := by rw [List.getElem?_zip_eq_some]; exact ⟨hp1, hs1⟩
          have := hb _ (List.mem_of_getElem? hz)
          dsimp only at this
          rw [h] at this
          cases this
      refine ⟨_, .nm (by ((with_reducible ((iterate 3 apply FPut.s); exact FPut.u)))), ?_⟩
      unfold lb__law_holds_1
      ((with_reducible (apply s_fg; apply s_ite; apply g_TB; apply g_bin; apply g_ex; apply g_bin; apply g_ex; apply g_bin; apply g_nm; exact DAt.v; apply g_nm; (iterate 3 apply DAt.s); exact DAt.v; apply bink; apply Res.nm; exact DAt.v; apply Res.nm; (iterate 3 apply DAt.s); exact DAt.v; apply oo_ixT)))
      · exact xg
      ((with_reducible (apply datk_v; apply g_ex; apply g_C; apply datk_v; apply bink; (iterate 2 exact Res.dat); apply oo_ixT; exact ix0; apply datk_v; apply g_ex; apply g_C; apply datk_v; apply bink; (iterate 2 exact Res.dat); exact oo_eqS _ _; apply boolk)))
      refine ifk_d (fun h0 => ?_) (fun h0 => ?_)
      · have hk := kd_ch.mp h0
        cases s with
        | pl ps => exact absurd hk hs2.1
        | ch s =>
          ((with_reducible (apply s_ite; apply g_TB; apply g_bin; apply g_ex; apply g_lc; apply g_it; apply g_escE; apply g_bin; apply g_nm; (iterate 2 apply DAt.s); exact DAt.v; apply g_nm; (iterate 3 apply DAt.s); exact DAt.v; apply bink; apply Res.nm; (iterate 2 apply DAt.s); exact DAt.v; apply Res.nm; (iterate 3 apply DAt.s); exact DAt.v; apply oo_ixT)))
          · exact xp
          ((with_reducible (apply datk_v; apply itk; exact It.t; apply lck)); ((with_reducible apply fits_of); ((try simp only [List.length_append, List.length_cons, List.length_nil, List.length_map, List.length_replicate, List.length_reverse, List.length_dropLast]); (first | assumption | omega | decide))); (with_reducible (apply UnR.cons; exact UnR.nil; (iterate 4 apply FPut.s); exact FPut.u)))
          refine lce (lc_nin s p fun z hz => ?_) ?_
          · refine ⟨_, .nm (by ((with_reducible ((iterate 4 apply FPut.s); exact FPut.u)))), ?_⟩
            ((with_reducible (apply g_TB; apply g_bin; apply g_nm; (iterate 4 apply DAt.s); exact DAt.v; apply g_ex; apply g_bin; apply g_nm; apply DAt.s; exact DAt.v; apply g_nm; (iterate 3 apply DAt.s); exact DAt.v; apply bink; apply Res.nm; apply DAt.s; exact DAt.v; apply Res.nm; (iterate 3 apply DAt.s); exact DAt.v; apply oo_ixT)))
            · exact xs
            ((with_reducible (apply datk_v; apply bink; apply Res.nm; (iterate 4 apply DAt.s); exact DAt.v; exact Res.dat)))
            · exact oo_ninT EO.int (by decide) z s
            ((with_reducible (apply boolk)))
            refine ⟨rfl, ?_⟩
            ((with_reducible (apply ifk_not)))
            refine ifk_d (fun h0 => ?_) (fun h0 => ?_)
            · ((with_reducible (apply UnR.cons; exact UnR.nil; (iterate 4 apply FPut.s); exact FPut.v)))
            · ((with_reducible (apply g_name; (iterate 4 apply NmAt.s); exact NmAt.v)))
              exact ⟨rfl, by ((with_reducible (apply UnR.cons; exact UnR.nil; (iterate 4 apply FPut.s); exact FPut.v)))⟩
          ((with_reducible (apply datk_o; apply g_ex; apply g_lst; apply g_elN; apply And.intro (a := Fits _))); ((with_reducible apply fits_of); ((try simp only [List.length_append, List.length_cons, List.length_nil, List.length_map, List.length_replicate, List.length_reverse, List.length_dropLast]); (first | assumption | omega | decide))); (with_reducible (apply datk_o; apply bink; (iterate 2 exact Res.dat))))
          · exact oo_neLnil EO.int (by decide) _
          ((with_reducible (apply boolk; apply ifk_not)))
          have ef := filter_nil_all (fun x => decide (x ∈ s)) p
          refine ifk_d (fun h1 => ?_) (fun h1 => ?_)
          · ((with_reducible (apply s_sk; apply kf_nx; apply Fgs.cons; (iterate 3 apply Fg1.s); exact Fg1.v; exact Fgs.nil; apply qr_nx)))
            exact ⟨rfl, good (ef.mp h1)⟩
          · ((with_reducible (apply s_ret; apply g_C; apply kf_rt; apply qr_rt)))
            refine ⟨rfl, by ((with_reducible ((iterate 4 apply IoR.val); (iterate 2 apply IoR.un); exact IoR.nil))), bad ?_⟩
            cases hb : holdsP (.ch s) p with
            | false => rfl
            | true => exact absurd (ef.mpr hb) h1
      · have hk : f.kd ≠ .ch := fun z => h0 (kd_ch.mpr z)
        cases s with
        | ch s => exact absurd hs2.1 hk
        | pl ps =>
          ((with_reducible (apply s_ite; apply g_TB; apply g_bin; apply g_ex; apply g_lc; apply g_rng; apply g_evC; apply g_ex; apply g_call; apply g_evC; apply g_ex; apply g_bin; apply g_nm; (iterate 2 apply DAt.s); exact DAt.v; apply g_nm; (iterate 3 apply DAt.s); exact DAt.v; apply bink; apply Res.nm; (iterate 2 apply DAt.s); exact DAt.v; apply Res.nm; (iterate 3 apply DAt.s); exact DAt.v; apply oo_ixT)))
          · exact xp
          have hrl : (rng 0 ((iL p).length : Nat)).length ≤ 3 := by rw [rng_len]; omega
          have hps := hs2.2.1
          have xs : IxAt (sy.map encSP) x (encP ps) := xs
          have hrl' : (rng 0 (p.length : Nat)).length ≤ 3 := by rw [rng_len]; omega
          ((with_reducible (apply datk_v; apply g_evN; apply callk; apply ResAll.cons; exact Res.dat; exact ResAll.nil; apply opn_1; exact oo_lenT _; apply datk_v; apply g_evN; apply rngk; apply ResAll.cons; exact Res.dat; exact ResAll.nil; apply opl_r1)); (refine ⟨?_, ?_⟩ <;> (first | decide | omega)); (with_reducible (apply lck)); ((with_reducible apply fits_of); ((try simp only [List.length_append, List.length_cons, List.length_nil, List.length_map, List.length_replicate, List.length_reverse, List.length_dropLast]); (first | assumption | omega | decide))); (with_reducible (apply UnR.cons; exact UnR.nil; (iterate 5 apply FPut.s); exact FPut.u)))
          refine lce (lc_pre PyData.int (fun _ => _) (fun j => !decide (p.getD j.toNat 0 ∈ ps.getD j.toNat [])) PyData.int _ fun pre' j suf' e' => ?_) ?_
          · have hj := rng_split e'
            refine ⟨_, .nm (by ((with_reducible ((iterate 5 apply FPut.s); exact FPut.u)))), ?_⟩
            ((with_reducible (apply g_TB; apply g_bin; apply g_ex; apply g_bin; apply g_ex; apply g_bin; apply g_nm; (iterate 2 apply DAt.s); exact DAt.v; apply g_nm; (iterate 3 apply DAt.s); exact DAt.v; apply bink; apply Res.nm; (iterate 2 apply DAt.s); exact DAt.v; apply Res.nm; (iterate 3 apply DAt.s); exact DAt.v; apply oo_ixT)))
            · exact xp
            ((with_reducible (apply datk_v; apply g_nm; (iterate 5 apply DAt.s); exact DAt.v; apply bink; exact Res.dat; apply Res.nm; (iterate 5 apply DAt.s); exact DAt.v; apply oo_ixT)))
            · exact ixAt_rng (d := 0) ⟨by omega, by omega⟩
            ((with_reducible (apply datk_v; apply g_ex; apply g_bin; apply g_ex; apply g_bin; apply g_nm; apply DAt.s; exact DAt.v; apply g_nm; (iterate 3 apply DAt.s); exact DAt.v; apply bink; apply Res.nm; apply DAt.s; exact DAt.v; apply Res.nm; (iterate 3 apply DAt.s); exact DAt.v; apply oo_ixT)))
            · exact xs
            ((with_reducible (apply datk_v; apply g_nm; (iterate 5 apply DAt.s); exact DAt.v; apply bink; exact Res.dat; apply Res.nm; (iterate 5 apply DAt.s); exact DAt.v; apply oo_ixT)))
            · exact ixAt_rng (d := []) ⟨by omega, by omega⟩
            ((with_reducible (apply datk_v; apply bink; (iterate 2 exact Res.dat))))
            · exact oo_ninT EO.int (by decide) _ _
            ((with_reducible (apply boolk)))
            refine ⟨rfl, ?_⟩
            ((with_reducible (apply ifk_not)))
            refine ifk_d (fun h0 => ?_) (fun h0 => ?_)
            · ((with_reducible (apply UnR.cons; exact UnR.nil; (iterate 5 apply FPut.s); exact FPut.v)))
            · ((with_reducible (apply g_name; (iterate 5 apply NmAt.s); exact NmAt.v)))
              exact ⟨rfl, by ((with_reducible (apply UnR.cons; exact UnR.nil; (iterate 5 apply FPut.s); exact FPut.v)))⟩
          ((with_reducible (apply datk_o; apply g_ex; apply g_lst; apply g_elN; apply And.intro (a := Fits _))); ((with_reducible apply fits_of); ((try simp only [List.length_append, List.length_cons, List.length_nil, List.length_map, List.length_replicate, List.length_reverse, List.length_dropLast]); (first | assumption | omega | decide))); (with_reducible (apply datk_o; apply bink; (iterate 2 exact Res.dat))))
          · exact oo_neLnil EO.int (by decide) _
          ((with_reducible (apply boolk; apply ifk_not)))
          have ef := filter_nil_all (fun j : Int => decide (p.getD j.toNat 0 ∈ ps.getD j.toNat [])) (rng 0 ((iL p).length : Nat))
          have e3 : ((iL p).length : Int) = (p.length : Nat) := by rw [List.length_map]
          rw [e3, zip_all (by omega), ← e3] at ef
          refine ifk_d (fun h1 => ?_) (fun h1 => ?_)
          · ((with_reducible (apply s_sk; apply kf_nx; apply Fgs.cons; (iterate 3 apply Fg1.s); exact Fg1.v; exact Fgs.nil; apply qr_nx)))
            exact ⟨rfl, good (ef.mp h1)⟩
          · ((with_reducible (apply s_ret; apply g_C; apply kf_rt; apply qr_rt)))
            refine ⟨rfl, by ((with_reducible ((iterate 4 apply IoR.val); (iterate 2 apply IoR.un); exact IoR.nil))), bad ?_⟩
            cases hb : holdsP (.pl ps) p with
            | false => rfl
            | true => exact absurd (ef.mpr hb) h1)
  refine fe_of ?_
  unfold m__law_holds
  show RS _ [.val (encG g), .val (.tuple (sy.map encSP)), .val (encP pk), .un, .un, .un] _
  have hgl : (g.map encF).length = g.length := List.length_map ..
  ((with_reducible (apply s_seq; apply s_for; apply g_rng; apply g_evC; apply g_ex; apply g_call; apply g_evC; apply g_nm; exact DAt.v; apply g_evN; apply callk; apply ResAll.cons; apply Res.nm; exact DAt.v; exact ResAll.nil; apply opn_1; exact oo_lenT _; apply datk_v; apply g_evN; apply rngk; apply ResAll.cons; exact Res.dat; exact ResAll.nil; apply opl_r1)); (refine ⟨?_, ?_⟩ <;> (first | decide | omega)))
  rw [hgl]
  rcases key with ⟨ρ', h1, rfl, h2⟩ | ⟨r, ρ', h1, rfl, h2, h3⟩
  · refine forK h1 ?_
    ((with_reducible (apply ks_nx; apply s_ret; apply g_C; apply qd_rt; (iterate 3 apply IoR.val); (iterate 3 apply IoR.un); exact IoR.nil)))
    have : holdsG sy pk = true := by
      unfold holdsG
      rw [List.all_eq_true]
      intro z hz
      obtain ⟨i, hi⟩ := List.mem_iff_getElem?.mp hz
      obtain ⟨z1, z2⟩ := List.getElem?_zip_eq_some.mp hi
      have hl := (List.getElem?_eq_some_iff.mp z1).1
      exact h2 i (by rw [rng_len]; have := hp.len; omega) _ _ z1 z2
    rw [this]
  · refine forK h1 ?_
    ((with_reducible (apply ks_rt; apply qd_rt)))
    · exact h2
    rw [h3]

end LW
set_option Elab.async false
set_option linter.all false
set_option maxRecDepth 100000
set_option maxHeartbeats 4000000
namespace LW
open PySem PySem.Spec PyProof.Rows L2 RT DL
/-! fractions -/
def gcI (a b : Int) : Int := ((Nat.gcd a.natAbs b.natAbs : Nat) : Int) * 1
theorem gcI_pos {a b : Int} (h : 0 < b) : 0 < gcI a b ∧ gcI a b ≤ b := by
  unfold gcI
  have h1 : 0 < Nat.gcd a.natAbs b.natAbs := Nat.gcd_pos_of_pos_right _ (by omega)
  have h2 : Nat.gcd a.natAbs b.natAbs ≤ b.natAbs := Nat.gcd_le_right _ (by omega)
  omega
theorem made_eq {a b : Int} (h : 0 < b) (h2 : b < 1000000) : FE f_made [.d (.int a), .d (.int b)] (.val (.tuple [.int (a / gcI a b), .int (b / gcI a b)])) none := by
  have hg := gcI_pos (a := a) h
  unfold gcI at hg ⊢
  have h0 : ¬ b = 0 := by omega
  have h1 : ¬ b < 0 := by omega
  refine fe_of ?_
  unfold m_made
  show RS _ [.val (.int a), .val (.int b), .un, .un] _
  ((with_reducible (apply s_seq; apply s_ite; apply g_TB; apply g_bin; apply g_nm; apply DAt.s; exact DAt.v; apply g_ex; apply g_C; apply datk_v; apply bink; apply Res.nm; apply DAt.s; exact DAt.v; exact Res.dat; exact oo_eq _ _; apply boolk; refine ifk_n (by assumption) ?_; apply s_sk; apply ks_nx; apply s_seq; apply s_setV; apply g_if; apply g_TB; apply g_bin; apply g_nm; apply DAt.s; exact DAt.v; apply g_ex; apply g_C; apply datk_v; apply bink; apply Res.nm; apply DAt.s; exact DAt.v; exact Res.dat; exact oo_lt _ _; apply boolk; refine ifk_n (by assumption) ?_; apply g_C; apply datk_v; apply stk; (iterate 2 apply FPut.s); exact FPut.u; apply ks_nx; apply s_seq; apply s_setV; apply g_bin; apply g_ex; apply g_call; apply g_evC; apply g_nm; exact DAt.v; apply g_evC; apply g_nm; apply DAt.s; exact DAt.v; apply g_evN; apply callk; apply ResAll.cons; apply Res.nm; exact DAt.v; apply ResAll.cons; apply Res.nm; apply DAt.s; exact DAt.v; exact ResAll.nil; apply opn_2; exact oo_gcd _ _; apply datk_v; apply g_nm; (iterate 2 apply DAt.s); exact DAt.v; apply bink; exact Res.dat; apply Res.nm; (iterate 2 apply DAt.s); exact DAt.v; apply oo_mul)); ((with_reducible refine mulOk_r ?_ ?_) <;> (first | decide | omega)); (with_reducible (apply datk_v; apply stk; (iterate 3 apply FPut.s); exact FPut.u; apply ks_nx; apply s_ret; apply g_tup; apply g_elO; apply g_escE; apply g_bin; apply g_nm; exact DAt.v; apply g_nm; (iterate 3 apply DAt.s); exact DAt.v; apply bink; apply Res.nm; exact DAt.v; apply Res.nm; (iterate 3 apply DAt.s); exact DAt.v; apply oo_div)); (refine ⟨?_, ?_⟩ <;> (first | decide | omega)); (with_reducible (apply datk_v; apply g_elO; apply g_escE; apply g_bin; apply g_nm; apply DAt.s; exact DAt.v; apply g_nm; (iterate 3 apply DAt.s); exact DAt.v; apply bink; apply Res.nm; apply DAt.s; exact DAt.v; apply Res.nm; (iterate 3 apply DAt.s); exact DAt.v; apply oo_div)); (refine ⟨?_, ?_⟩ <;> (first | decide | omega)); (with_reducible (apply datk_v; apply g_elN; apply And.intro (a := Fits _))); ((with_reducible apply fits_of); ((try simp only [List.length_append, List.length_cons, List.length_nil, List.length_map, List.length_replicate, List.length_reverse, List.length_dropLast]); (first | assumption | omega | decide))); (with_reducible (apply qd_rt; (iterate 4 apply IoR.val); exact IoR.nil)))
  rfl
theorem times_eq {p q s : Int} (hp : 0 ≤ p ∧ p ≤ 1) (hq : 1 ≤ q ∧ q ≤ 12) : FE f_times [.d (.tuple [.int p, .int q]), .d (.tuple [.int s, .int 1])] (.val (.tuple [.int (p * s / gcI (p * s) (q * 1)), .int (q * 1 / gcI (p * s) (q * 1))])) none := by
  refine fe_of ?_
  unfold m_times
  show RS _ [.val (.tuple [.int p, .int q]), .val (.tuple [.int s, .int 1])] _
  ((with_reducible (apply s_ret; apply g_def; apply g_caV; apply g_escE; apply g_bin; apply g_ex; apply g_bin; apply g_nm; exact DAt.v; apply g_ex; apply g_C; apply datk_v; apply bink; apply Res.nm; exact DAt.v; exact Res.dat; apply oo_ixT; exact ix0; apply datk_v; apply g_ex; apply g_bin; apply g_nm; apply DAt.s; exact DAt.v; apply g_ex; apply g_C; apply datk_v; apply bink; apply Res.nm; apply DAt.s; exact DAt.v; exact Res.dat; apply oo_ixT; exact ix0; apply datk_v; apply bink; (iterate 2 exact Res.dat); apply oo_mul)); ((with_reducible refine mulOk_l ?_ ?_) <;> (first | decide | omega)); (with_reducible (apply datk_v; apply g_caV; apply g_escE; apply g_bin; apply g_ex; apply g_bin; apply g_nm; exact DAt.v; apply g_ex; apply g_C; apply datk_v; apply bink; apply Res.nm; exact DAt.v; exact Res.dat; apply oo_ixT; exact ix1; apply datk_v; apply g_ex; apply g_bin; apply g_nm; apply DAt.s; exact DAt.v; apply g_ex; apply g_C; apply datk_v; apply bink; apply Res.nm; apply DAt.s; exact DAt.v; exact Res.dat; apply oo_ixT; exact ix1; apply datk_v; apply bink; (iterate 2 exact Res.dat); apply oo_mul)); ((with_reducible refine mulOk_r ?_ ?_) <;> (first | decide | omega)); (with_reducible (apply datk_v; apply g_caN; apply defk_d; (iterate 2 apply RA.d); exact RA.nil)); ((with_reducible apply DfO.d); exact ⟨rfl, rfl, rfl⟩))
  · exact made_eq (by omega) (by omega)
  ((with_reducible (apply qd_rt; (iterate 2 apply IoR.val); exact IoR.nil)))
  rfl
theorem down_in : Op2 (ofNB fInB) (.str "down") (.tuple [.str "down", .str "up", .str "near"]) (.val (.bool false)) := by unfold Op2 ofNB fInB inFlat; rfl
theorem rounded_eq {a b : Int} (h : 0 < b) (h2 : b < 1000000) : FE f_rounded [.d (.tuple [.int a, .int b]), .d (.str "down")] (.val (.int (a / b))) none := by
  refine fe_of ?_
  unfold m_rounded
  show RS _ [.val (.tuple [.int a, .int b]), .val (.str "down"), .un, .un, .un, .un] _
  ((with_reducible (apply s_seq; apply s_ite; apply g_TB; apply g_bin; apply g_nm; apply DAt.s; exact DAt.v; apply g_ex; apply g_tup; apply g_elO; apply g_escE; apply g_C; apply datk_v; apply g_elO; apply g_escE; apply g_C; apply datk_v; apply g_elO; apply g_escE; apply g_C; apply datk_v; apply g_elN; apply And.intro (a := Fits _))); ((with_reducible apply fits_of); ((try simp only [List.length_append, List.length_cons, List.length_nil, List.length_map, List.length_replicate, List.length_reverse, List.length_dropLast]); (first | assumption | omega | decide))); (with_reducible (apply datk_v; apply bink; apply Res.nm; apply DAt.s; exact DAt.v; exact Res.dat)))
  · exact down_in
  ((with_reducible (apply boolk; apply ifk_f; apply s_sk; apply ks_nx; apply s_seq; apply s_asg; apply g_name; exact NmAt.v; apply datk_v; apply asgk; apply BCT.tu; apply BCTs.cons; apply BCT.nm; (iterate 2 apply FPut.s); exact FPut.u; apply BCTs.cons; apply BCT.nm; (iterate 3 apply FPut.s); exact FPut.u; exact BCTs.nil; apply ks_nx; apply s_seq; apply s_asg; apply g_call; apply g_evC; apply g_nm; (iterate 2 apply DAt.s); exact DAt.v; apply g_evC; apply g_nm; (iterate 3 apply DAt.s); exact DAt.v; apply g_evN; apply callk; apply ResAll.cons; apply Res.nm; (iterate 2 apply DAt.s); exact DAt.v; apply ResAll.cons; apply Res.nm; (iterate 3 apply DAt.s); exact DAt.v; exact ResAll.nil; apply opn_2; apply oo_divmod)); (refine ⟨?_, ?_⟩ <;> (first | decide | omega)); (with_reducible (apply datk_v; apply asgk; apply BCT.tu; apply BCTs.cons; apply BCT.nm; (iterate 4 apply FPut.s); exact FPut.u; apply BCTs.cons; apply BCT.nm; (iterate 5 apply FPut.s); exact FPut.u; exact BCTs.nil; apply ks_nx; apply s_seq; apply s_ite; apply g_or; apply g_TB; apply g_bin; apply g_nm; apply DAt.s; exact DAt.v; apply g_ex; apply g_C; apply datk_v; apply bink; apply Res.nm; apply DAt.s; exact DAt.v; exact Res.dat; exact oo_eqS _ _; apply boolk)); (refine ifk_sy (by decide) ?_); (with_reducible (apply ifk_t; apply s_retNm; (iterate 4 apply RtAt.s); exact RtAt.v; apply ks_rt; apply qd_rt; (iterate 6 apply IoR.val); exact IoR.nil)))
  rfl
theorem share_eq {p q s : Int} (hp : 0 ≤ p ∧ p ≤ 1) (hq : 1 ≤ q ∧ q ≤ 12) : ∃ v, FE f_share_of [.d (.tuple [.int p, .int q]), .d (.int s)] (.val (.int v)) none := by
  have hg := gcI_pos (a := p * s) (b := q * 1) (by omega)
  have h1 : 0 < q * 1 / gcI (p * s) (q * 1) := Int.ediv_pos_of_pos_of_dvd (by omega) (by omega) (by
    unfold gcI
    rw [Int.mul_one]
    exact Int.dvd_natAbs.mp (Int.natCast_dvd_natCast.mpr (Nat.gcd_dvd_right _ _)))
  have h2 : q * 1 / gcI (p * s) (q * 1) ≤ q * 1 := Int.ediv_le_self _ (by omega)
  have key : FR f_share_of [.d (.tuple [.int p, .int q]), .d (.int s)] fun r c => ∃ v, r = .val (.int v) ∧ c = none := by
    refine fr_of ?_
    unfold m_share_of
    show RS _ [.val (.tuple [.int p, .int q]), .val (.int s)] _
    ((with_reducible (apply s_ret; apply g_def; apply g_caV; apply g_escE; apply g_def; apply g_caV; apply g_escN; apply g_name; exact NmAt.v; apply datk_v; apply g_caV; apply g_escE; apply g_tup; apply g_elO; apply g_escN; apply g_name; apply NmAt.s; exact NmAt.v; apply datk_v; apply g_elO; apply g_escE; apply g_C; apply datk_v; apply g_elN; apply And.intro (a := Fits _))); ((with_reducible apply fits_of); ((try simp only [List.length_append, List.length_cons, List.length_nil, List.length_map, List.length_replicate, List.length_reverse, List.length_dropLast]); (first | assumption | omega | decide))); (with_reducible (apply datk_v; apply g_caN; apply defk_d; (iterate 2 apply RA.d); exact RA.nil)); ((with_reducible apply DfO.d); exact ⟨rfl, rfl, rfl⟩))
    · exact times_eq hp hq
    ((with_reducible (apply datk_v; apply g_caV; apply g_escE; apply g_C; apply datk_v; apply g_caN; apply defk_d; (iterate 2 apply RA.d); exact RA.nil)); ((with_reducible apply DfO.d); exact ⟨rfl, rfl, rfl⟩))
    · exact rounded_eq h1 (by omega)
    ((with_reducible (apply qd_rt; (iterate 2 apply IoR.val); exact IoR.nil)))
    exact ⟨_, _, rfl, _, rfl, rfl⟩
  obtain ⟨r, c, h, v, rfl, rfl⟩ := key
  exact ⟨v, h⟩
theorem raised_eq (b : Nat) (k : Nat) (hb : b ≤ 100) (hk : k ≤ 10) : FE f_raised [.d (.int b), .d (.int k)] (.val (.int ((b ^ k : Nat) : Int))) none := by
  have key := for_pre (c := .nm 3) (b := lb_raised_1) PyData.int (fun pre => [.val (.int b), .val (.int k), .val (.int ((b ^ pre.length : Nat) : Int)), .un]) (rng 0 k) (by
    intro pre x suf e
    have hx := rng_split e
    refine ⟨_, .nm (by ((with_reducible ((iterate 3 apply FPut.s); exact FPut.u)))), ?_⟩
    unfold lb_raised_1
    ((with_reducible (apply s_fg; apply s_aug; (iterate 2 apply DAt.s); exact DAt.v; apply g_nm; exact DAt.v; apply augk; (iterate 2 apply DAt.s); exact DAt.v; apply Res.nm; exact DAt.v; apply oo_mulI)); ((with_reducible refine mulOk_r ?_ ?_) <;> (first | decide | omega)); (with_reducible (apply stk; (iterate 2 apply FPut.s); exact FPut.v; apply kf_nx; apply Fgs.cons; (iterate 3 apply Fg1.s); exact Fg1.v; exact Fgs.nil; apply qn_nx)))
    rw [List.length_append, List.length_singleton, Nat.pow_succ, Int.natCast_mul])
  have e : (rng 0 (k : Int)).length = k := by rw [rng_len]; omega
  rw [e] at key
  refine fe_of ?_
  unfold m_raised
  show RS _ [.val (.int b), .val (.int k), .un, .un] _
  ((with_reducible (apply s_seq; apply s_setV; apply g_C; apply datk_v; apply stk; (iterate 2 apply FPut.s); exact FPut.u; apply ks_nx; apply s_seq; apply s_for; apply g_rng; apply g_evC; apply g_nm; apply DAt.s; exact DAt.v; apply g_evN; apply rngk; apply ResAll.cons; apply Res.nm; apply DAt.s; exact DAt.v; exact ResAll.nil; apply opl_r1)); (refine ⟨?_, ?_⟩ <;> (first | decide | omega)))
  refine forK key ?_
  ((with_reducible (apply ks_nx; apply s_retNm; (iterate 2 apply RtAt.s); exact RtAt.v; apply qd_rt; (iterate 3 apply IoR.val); apply IoR.un; exact IoR.nil)))
  rfl
theorem pay_eq {m p q cap pot w : Int} {s : Str} (hw : 0 ≤ w ∧ w ≤ 100000) : ∃ e r, FE f_pay [.d (.tuple [.str "shared", .int m, .tuple [.int p, .int q], .int cap, .str s]), .d (.int pot), .d (.int w)] (.val (.tuple [.int e, .int r])) none := by
  have key : FR f_pay [.d (.tuple [.str "shared", .int m, .tuple [.int p, .int q], .int cap, .str s]), .d (.int pot), .d (.int w)] fun r c => ∃ e v, r = .val (.tuple [.int e, .int v]) ∧ c = none := by
    refine fr_of ?_
    unfold m_pay
    show RS _ [.val (.tuple [.str "shared", .int m, .tuple [.int p, .int q], .int cap, .str s]), .val (.int pot), .val (.int w), .un, .un] _
    ((with_reducible (apply s_seq; apply s_ite; apply g_TB; apply g_bin; apply g_nm; (iterate 2 apply DAt.s); exact DAt.v; apply g_ex; apply g_C; apply datk_v; apply bink; apply Res.nm; (iterate 2 apply DAt.s); exact DAt.v; exact Res.dat; exact oo_eq _ _; apply boolk)))
    refine ifk_d (fun h => ?_) (fun h => ?_)
    · ((with_reducible (apply s_ret; apply g_tup; apply g_elO; apply g_escE; apply g_C; apply datk_v; apply g_elO; apply g_escE; apply g_C; apply datk_v; apply g_elN; apply And.intro (a := Fits _))); ((with_reducible apply fits_of); ((try simp only [List.length_append, List.length_cons, List.length_nil, List.length_map, List.length_replicate, List.length_reverse, List.length_dropLast]); (first | assumption | omega | decide))); (with_reducible (apply ks_rt; apply qd_rt; (iterate 3 apply IoR.val); (iterate 2 apply IoR.un); exact IoR.nil)))
      exact ⟨_, _, rfl, _, _, rfl, rfl⟩
    · ((with_reducible (apply s_sk; apply ks_nx; apply s_seq; apply s_setV; apply g_call; apply g_evC; apply g_ex; apply g_bin; apply g_ex; apply g_bin; apply g_nm; exact DAt.v; apply g_ex; apply g_C; apply datk_v; apply bink; apply Res.nm; exact DAt.v; exact Res.dat; apply oo_ixT; exact ix1; apply datk_v; apply g_nm; apply DAt.s; exact DAt.v; apply bink; exact Res.dat; apply Res.nm; apply DAt.s; exact DAt.v; exact oo_sub _ _; apply datk_v; apply g_evC; apply g_ex; apply g_C; apply datk_v; apply g_evN; apply callk; apply ResAll.cons; exact Res.dat; apply ResAll.cons; exact Res.dat; exact ResAll.nil; apply opn_2; exact oo_max _ _; apply datk_v; apply stk; (iterate 3 apply FPut.s); exact FPut.u; apply ks_nx; apply s_seq; apply s_setV; apply g_bin; apply g_ex; apply g_bin; apply g_nm; apply DAt.s; exact DAt.v; apply g_nm; (iterate 3 apply DAt.s); exact DAt.v; apply bink; apply Res.nm; apply DAt.s; exact DAt.v; apply Res.nm; (iterate 3 apply DAt.s); exact DAt.v; exact oo_add _ _; apply datk_v; apply g_nm; (iterate 2 apply DAt.s); exact DAt.v; apply bink; exact Res.dat; apply Res.nm; (iterate 2 apply DAt.s); exact DAt.v; apply oo_div)); (refine ⟨?_, ?_⟩ <;> (first | decide | omega)); (with_reducible (apply datk_v; apply stk; (iterate 4 apply FPut.s); exact FPut.u; apply ks_nx; apply s_seq; apply s_ite; apply g_TB; apply g_bin; apply g_ex; apply g_bin; apply g_nm; exact DAt.v; apply g_ex; apply g_C; apply datk_v; apply bink; apply Res.nm; exact DAt.v; exact Res.dat; apply oo_ixT; exact ix3; apply datk_v; apply g_ex; apply g_C; apply datk_v; apply bink; (iterate 2 exact Res.dat); exact oo_gt _ _; apply boolk)))
      refine ifk_d (fun h => ?_) (fun h => ?_)
      · ((with_reducible (apply s_setV; apply g_call; apply g_evC; apply g_nm; (iterate 4 apply DAt.s); exact DAt.v; apply g_evC; apply g_ex; apply g_bin; apply g_nm; exact DAt.v; apply g_ex; apply g_C; apply datk_v; apply bink; apply Res.nm; exact DAt.v; exact Res.dat; apply oo_ixT; exact ix3; apply datk_v; apply g_evN; apply callk; apply ResAll.cons; apply Res.nm; (iterate 4 apply DAt.s); exact DAt.v; apply ResAll.cons; exact Res.dat; exact ResAll.nil; apply opn_2; exact oo_min _ _; apply datk_v; apply stk; (iterate 4 apply FPut.s); exact FPut.v; apply ks_nx; apply s_ret; apply g_tup; apply g_elO; apply g_escN; apply g_name; (iterate 4 apply NmAt.s); exact NmAt.v; apply datk_v; apply g_elO; apply g_escN; apply g_name; (iterate 3 apply NmAt.s); exact NmAt.v; apply datk_v; apply g_elN; apply And.intro (a := Fits _))); ((with_reducible apply fits_of); ((try simp only [List.length_append, List.length_cons, List.length_nil, List.length_map, List.length_replicate, List.length_reverse, List.length_dropLast]); (first | assumption | omega | decide))); (with_reducible (apply qd_rt; (iterate 5 apply IoR.val); exact IoR.nil)))
        exact ⟨_, _, rfl, _, _, rfl, rfl⟩
      · ((with_reducible (apply s_sk; apply ks_nx; apply s_ret; apply g_tup; apply g_elO; apply g_escN; apply g_name; (iterate 4 apply NmAt.s); exact NmAt.v; apply datk_v; apply g_elO; apply g_escN; apply g_name; (iterate 3 apply NmAt.s); exact NmAt.v; apply datk_v; apply g_elN; apply And.intro (a := Fits _))); ((with_reducible apply fits_of); ((try simp only [List.length_append, List.length_cons, List.length_nil, List.length_map, List.length_replicate, List.length_reverse, List.length_dropLast]); (first | assumption | omega | decide))); (with_reducible (apply qd_rt; (iterate 5 apply IoR.val); exact IoR.nil)))
        exact ⟨_, _, rfl, _, _, rfl, rfl⟩
  obtain ⟨r, c, h, e, v, rfl, rfl⟩ := key
  exact ⟨e, v, h⟩
/-! a round -/
def dot : List Int → List Int → Int
  | w :: ws, p :: ps => w * p + dot ws ps
  | _, _ => 0
theorem dot_snoc : ∀ (ws ps : List Int) (p : Int), ps.length < ws.length → dot ws (ps ++ [p]) = dot ws ps + ws.getD ps.length 0 * p
  | [], _, _, h => absurd h (Nat.not_lt_zero _)
  | w :: ws, [], p, _ => by cases ws <;> simp [dot]
  | w :: ws, q :: ps, p, h => by
    have ih := dot_snoc ws ps p (by simpa using h)
    show w * q + dot ws (ps ++ [p]) = w * q + dot ws ps + (w :: ws).getD (ps.length + 1) 0 * p
    rw [ih]
    simp only [List.getD_cons_succ]
    omega
def FixOk (rows : List Row) (ws ps : List Int) : Prop := ∀ k m, k < ps.length → rows[k]? = some (.fix m) → ws.getD k 0 * ps.getD k 0 = ws.getD k 0 * m
theorem FixOk.snoc {rows : List Row} {ws ps : List Int} (h : FixOk rows ws ps) {p : Int} {r : Row} (hr : rows[ps.length]? = some r) (hp : ∀ m, r = .fix m → ws.getD ps.length 0 * p = ws.getD ps.length 0 * m) : FixOk rows ws (ps ++ [p]) := by
  intro k m hk hm
  rw [List.length_append, List.length_singleton] at hk
  by_cases e : k < ps.length
  · have : (ps ++ [p]).getD k 0 = ps.getD k 0 := by simp only [List.getD_eq_getElem?_getD, List.getElem?_append_left e]
    rw [this]
    exact h k m e hm
  · have : k = ps.length := by omega
    subst this
    rw [hr] at hm
    cases hm
    have : (ps ++ [p]).getD ps.length 0 = p := by simp [List.getD_eq_getElem?_getD]
    rw [this]
    exact hp m rfl
theorem settle_eq {t : Tb} {m : Nat} (ht : t.ok m) (hm : m ≤ 4) {sold : Nat} (hs : sold ≤ 1000) {ws : List Int} (hwl : ws.length = m) (hw : ∀ w ∈ ws, 0 ≤ w ∧ w ≤ 100000) :
    ∃ (ps cs : List Int) (due change : Int), FE f_settle [.d (encT t), .d (.tuple (iL (List.replicate m 0))), .d (.tuple [.int sold, .tuple (iL ws)])] (.val (.tuple [.tuple (iL ps), .int due, .tuple (iL cs), .int change])) none ∧
      ps.length = m ∧ cs.length = m ∧ t.price * sold = due + dot ws ps + cs.sum + change ∧ FixOk t.rows ws ps := by
  obtain ⟨due, hdue⟩ := share_eq (s := t.price * sold) ht.p ht.q
  obtain ⟨ρ', h1, ps, cs, ch, fa, hps, hcs, hinv, hfix, rfl⟩ := for_inv (c := .tu [.nm 15, .nm 16]) (b := lb_settle_1) (fun p : Row × Nat => PyData.tuple [.int (p.2 : Nat), encRow p.1])
    (fun pre ρ => ∃ (ps cs : List Int) (ch fa : Int), ps.length = pre.length ∧ cs.length = pre.length ∧ ch + fa + cs.sum + dot ws ps = t.price * sold - due ∧ FixOk t.rows ws ps ∧
      ρ = [.val (encT t), .val (.tuple (iL (List.replicate m 0))), .val (.tuple [.int sold, .tuple (iL ws)]), .val (.int t.price), .val (.tuple [.int t.p, .int t.q]), .val (.int t.most), .val (.tuple (t.rows.map encRow)), .val (.int sold), .val (.tuple (iL ws)), .val (.int (t.price * sold)), .val (.int due), .val (.int ch), .val (.int fa), .own (.ls (iL ps)), .own (.ls (iL cs)), .un, .un, .un, .un, .un, .un, .un, .un, .un])
    (xs := t.rows.zipIdx)
    (ρ := [.val (encT t), .val (.tuple (iL (List.replicate m 0))), .val (.tuple [.int sold, .tuple (iL ws)]), .val (.int t.price), .val (.tuple [.int t.p, .int t.q]), .val (.int t.most), .val (.tuple (t.rows.map encRow)), .val (.int sold), .val (.tuple (iL ws)), .val (.int (t.price * sold)), .val (.int due), .val (.int (t.price * sold - due)), .val (.int 0), .own (.ls (iL [])), .own (.ls (iL [])), .un, .un, .un, .un, .un, .un, .un, .un, .un])
    ⟨[], [], _, 0, rfl, rfl, by cases ws <;> simp [dot], fun _ _ h => absurd h (Nat.not_lt_zero _), rfl⟩ (by
      rintro pre ⟨row, k⟩ suf ρ e ⟨ps, cs, ch, fa, hps, hcs, hinv, hfix, rfl⟩
      have hx : t.rows.zipIdx[pre.length]? = some (row, k) := by rw [e]; simp
      rw [List.getElem?_zipIdx] at hx
      obtain ⟨hr, hk⟩ : t.rows[pre.length]? = some row ∧ k = pre.length := by
        cases hq : t.rows[pre.length]? with
        | none => rw [hq] at hx; simp at hx
        | some r => rw [hq] at hx; simp at hx; exact ⟨by rw [hx.1], by omega⟩
      subst hk
      have hlen : pre.length < t.rows.length := (List.getElem?_eq_some_iff.mp hr).1
      have hpl : pre.length < m := by have := ht.len; omega
      have hwk : ws[pre.length]? = some (ws.getD pre.length 0) := by
        have : ws[pre.length]? = some ws[pre.length] := List.getElem?_eq_getElem (by omega)
        rw [getD_of this]; exact this
      have hwb := hw _ (List.mem_of_getElem? hwk)
      have xw : IxAt (iL ws) (pre.length : Nat) (.int (ws.getD pre.length 0)) := ixAt_map rfl hwk
      have xz : IxAt (iL (List.replicate m 0)) (pre.length : Nat) (.int 0) := ixAt_map rfl (by rw [List.getElem?_replicate, if_pos hpl])
      have hds := fun p => dot_snoc ws ps p (by omega)
      rw [hps] at hds
      have hro := ht.rows row (List.mem_of_getElem? hr)
      have hr' : t.rows[ps.length]? = some row := by rw [hps]; exact hr
      generalize hW : ws.getD pre.length 0 = w at *
      have fin : ∀ (p ch' fa' rl : Int), ch' + fa' + rl + w * p = ch + fa → (∀ m, row = .fix m → w * p = w * m) → ∃ (ps' cs' : List Int) (ch2 fa2 : Int), ps'.length = (pre ++ [(row, pre.length)]).length ∧ cs'.length = (pre ++ [(row, pre.length)]).length ∧ ch2 + fa2 + cs'.sum + dot ws ps' = t.price * sold - due ∧ FixOk t.rows ws ps' ∧
          [Sl.val (encT t), .val (.tuple (iL (List.replicate m 0))), .val (.tuple [.int sold, .tuple (iL ws)]), .val (.int t.price), .val (.tuple [.int t.p, .int t.q]), .val (.int t.most), .val (.tuple (t.rows.map encRow)), .val (.int sold), .val (.tuple (iL ws)), .val (.int (t.price * sold)), .val (.int due), .val (.int ch'), .val (.int fa'), .own (.ls (iL ps ++ [.int p])), .own (.ls (iL cs ++ [.int rl])), .un, .un, .un, .un, .un, .un, .un, .un, .un] =
          [Sl.val (encT t), .val (.tuple (iL (List.replicate m 0))), .val (.tuple [.int sold, .tuple (iL ws)]), .val (.int t.price), .val (.tuple [.int t.p, .int t.q]), .val (.int t.most), .val (.tuple (t.rows.map encRow)), .val (.int sold), .val (.tuple (iL ws)), .val (.int (t.price * sold)), .val (.int due), .val (.int ch2), .val (.int fa2), .own (.ls (iL ps')), .own (.ls (iL cs')), .un, .un, .un, .un, .un, .un, .un, .un, .un] := by
        intro p ch' fa' rl h1 h2
        refine ⟨ps ++ [p], cs ++ [rl], ch', fa', by simp [hps], by simp [hcs], ?_, hfix.snoc hr' (by rw [hps, hW]; exact h2), by rw [iL_snoc, iL_snoc]⟩
        rw [hds, List.sum_append]
        simp only [List.sum_cons, List.sum_nil]
        omega
      cases row with
      | fix mo =>
        have hm0 : 0 ≤ mo ∧ mo < 90 := hro
        refine ⟨_, (by dsimp only [encRow]; ((with_reducible (apply BCT.tu; apply BCTs.cons; apply BCT.nm; (iterate 15 apply FPut.s); exact FPut.u; apply BCTs.cons; apply BCT.nm; (iterate 16 apply FPut.s); exact FPut.u; exact BCTs.nil)))), ?_⟩
        unfold lb_settle_1
        ((with_reducible (apply s_fg; apply s_seq; apply s_setV; apply g_C; apply datk_v; apply stk; (iterate 17 apply FPut.s); exact FPut.u; apply ks_nx; apply s_seq; apply s_setV; apply g_C; apply datk_v; apply stk; (iterate 18 apply FPut.s); exact FPut.u; apply ks_nx; apply s_seq; apply s_ite; apply g_TB; apply g_bin; apply g_ex; apply g_bin; apply g_nm; (iterate 16 apply DAt.s); exact DAt.v; apply g_ex; apply g_C; apply datk_v; apply bink; apply Res.nm; (iterate 16 apply DAt.s); exact DAt.v; exact Res.dat; apply oo_ixT; exact ix0; apply datk_v; apply g_ex; apply g_C; apply datk_v; apply bink; (iterate 2 exact Res.dat); exact oo_eqS _ _; apply boolk)); (refine ifk_sy (by decide) ?_); (with_reducible (apply s_seq; apply s_drop; apply g_app; (iterate 13 apply LAt.s); exact LAt.o; apply g_if; apply g_TB; apply g_bin; apply g_ex; apply g_bin; apply g_nm; (iterate 8 apply DAt.s); exact DAt.v; apply g_nm; (iterate 15 apply DAt.s); exact DAt.v; apply bink; apply Res.nm; (iterate 8 apply DAt.s); exact DAt.v; apply Res.nm; (iterate 15 apply DAt.s); exact DAt.v; apply oo_ixT; assumption; apply datk_v; apply g_ex; apply g_C; apply datk_v; apply bink; (iterate 2 exact Res.dat); exact oo_gt _ _; apply boolk)))
        refine ifk_d (fun h0 => ?_) (fun h0 => ?_)
        · ((with_reducible (apply g_bin; apply g_nm; (iterate 16 apply DAt.s); exact DAt.v; apply g_ex; apply g_C; apply datk_v; apply bink; apply Res.nm; (iterate 16 apply DAt.s); exact DAt.v; exact Res.dat; apply oo_ixT; exact ix1; apply datk_v; apply appk; (iterate 13 apply LAt.s); exact LAt.o)); ((with_reducible apply fits1_of); ((try simp only [List.length_append, List.length_cons, List.length_nil, List.length_map, List.length_replicate, List.length_reverse, List.length_dropLast]); (first | assumption | omega | decide))); (with_reducible (apply ks_nx; apply s_seq; apply s_aug; (iterate 11 apply DAt.s); exact DAt.v; apply g_ex; apply g_bin; apply g_ex; apply g_bin; apply g_nm; (iterate 16 apply DAt.s); exact DAt.v; apply g_ex; apply g_C; apply datk_v; apply bink; apply Res.nm; (iterate 16 apply DAt.s); exact DAt.v; exact Res.dat; apply oo_ixT; exact ix1; apply datk_v; apply g_ex; apply g_bin; apply g_nm; (iterate 8 apply DAt.s); exact DAt.v; apply g_nm; (iterate 15 apply DAt.s); exact DAt.v; apply bink; apply Res.nm; (iterate 8 apply DAt.s); exact DAt.v; apply Res.nm; (iterate 15 apply DAt.s); exact DAt.v; apply oo_ixT; assumption; apply datk_v; apply bink; (iterate 2 exact Res.dat); apply oo_mul)); ((with_reducible refine mulOk_r ?_ ?_) <;> (first | decide | omega)); (with_reducible (apply datk_v; apply augk; (iterate 11 apply DAt.s); exact DAt.v; exact Res.dat; exact oo_sub _ _; apply stk; (iterate 11 apply FPut.s); exact FPut.v; apply ks_nx; apply s_par; apply g_name; (iterate 12 apply NmAt.s); exact NmAt.v; apply slk_v; apply g_C; apply slk_v; apply park; (iterate 17 apply FPut.s); exact FPut.v; apply stk; (iterate 12 apply FPut.s); exact FPut.v; apply ks_nx; apply s_seq; apply s_drop; apply g_app; (iterate 14 apply LAt.s); exact LAt.o; apply g_name; (iterate 18 apply NmAt.s); exact NmAt.v; apply datk_v; apply appk; (iterate 14 apply LAt.s); exact LAt.o)); ((with_reducible apply fits1_of); ((try simp only [List.length_append, List.length_cons, List.length_nil, List.length_map, List.length_replicate, List.length_reverse, List.length_dropLast]); (first | assumption | omega | decide))); (with_reducible (apply ks_nx; apply s_aug; (iterate 11 apply DAt.s); exact DAt.v; apply g_nm; (iterate 17 apply DAt.s); exact DAt.v; apply augk; (iterate 11 apply DAt.s); exact DAt.v; apply Res.nm; (iterate 17 apply DAt.s); exact DAt.v; exact oo_augI _ _; apply stk; (iterate 11 apply FPut.s); exact FPut.v; apply kf_nx; apply Fgs.cons; (iterate 15 apply Fg1.s); exact Fg1.v; apply Fgs.cons; (iterate 16 apply Fg1.s); exact Fg1.v; apply Fgs.cons; (iterate 17 apply Fg1.s); exact Fg1.v; apply Fgs.cons; (iterate 18 apply Fg1.s); exact Fg1.v; apply Fgs.cons; (iterate 19 apply Fg1.s); exact Fg1.u; apply Fgs.cons; (iterate 20 apply Fg1.s); exact Fg1.u; apply Fgs.cons; (iterate 21 apply Fg1.s); exact Fg1.u; apply Fgs.cons; (iterate 22 apply Fg1.s); exact Fg1.u; apply Fgs.cons; (iterate 23 apply Fg1.s); exact Fg1.u; exact Fgs.nil; apply qn_nx)))
          exact fin mo _ _ 0 (by have := Int.mul_comm mo w; omega) (fun m h => by cases h; rfl)
        · ((with_reducible (apply g_C; apply datk_v; apply appk; (iterate 13 apply LAt.s); exact LAt.o)); ((with_reducible apply fits1_of); ((try simp only [List.length_append, List.length_cons, List.length_nil, List.length_map, List.length_replicate, List.length_reverse, List.length_dropLast]); (first | assumption | omega | decide))); (with_reducible (apply ks_nx; apply s_seq; apply s_aug; (iterate 11 apply DAt.s); exact DAt.v; apply g_ex; apply g_bin; apply g_ex; apply g_bin; apply g_nm; (iterate 16 apply DAt.s); exact DAt.v; apply g_ex; apply g_C; apply datk_v; apply bink; apply Res.nm; (iterate 16 apply DAt.s); exact DAt.v; exact Res.dat; apply oo_ixT; exact ix1; apply datk_v; apply g_ex; apply g_bin; apply g_nm; (iterate 8 apply DAt.s); exact DAt.v; apply g_nm; (iterate 15 apply DAt.s); exact DAt.v; apply bink; apply Res.nm; (iterate 8 apply DAt.s); exact DAt.v; apply Res.nm; (iterate 15 apply DAt.s); exact DAt.v; apply oo_ixT; assumption; apply datk_v; apply bink; (iterate 2 exact Res.dat); apply oo_mul)); ((with_reducible refine mulOk_r ?_ ?_) <;> (first | decide | omega)); (with_reducible (apply datk_v; apply augk; (iterate 11 apply DAt.s); exact DAt.v; exact Res.dat; exact oo_sub _ _; apply stk; (iterate 11 apply FPut.s); exact FPut.v; apply ks_nx; apply s_par; apply g_name; (iterate 12 apply NmAt.s); exact NmAt.v; apply slk_v; apply g_C; apply slk_v; apply park; (iterate 17 apply FPut.s); exact FPut.v; apply stk; (iterate 12 apply FPut.s); exact FPut.v; apply ks_nx; apply s_seq; apply s_drop; apply g_app; (iterate 14 apply LAt.s); exact LAt.o; apply g_name; (iterate 18 apply NmAt.s); exact NmAt.v; apply datk_v; apply appk; (iterate 14 apply LAt.s); exact LAt.o)); ((with_reducible apply fits1_of); ((try simp only [List.length_append, List.length_cons, List.length_nil, List.length_map, List.length_replicate, List.length_reverse, List.length_dropLast]); (first | assumption | omega | decide))); (with_reducible (apply ks_nx; apply s_aug; (iterate 11 apply DAt.s); exact DAt.v; apply g_nm; (iterate 17 apply DAt.s); exact DAt.v; apply augk; (iterate 11 apply DAt.s); exact DAt.v; apply Res.nm; (iterate 17 apply DAt.s); exact DAt.v; exact oo_augI _ _; apply stk; (iterate 11 apply FPut.s); exact FPut.v; apply kf_nx; apply Fgs.cons; (iterate 15 apply Fg1.s); exact Fg1.v; apply Fgs.cons; (iterate 16 apply Fg1.s); exact Fg1.v; apply Fgs.cons; (iterate 17 apply Fg1.s); exact Fg1.v; apply Fgs.cons; (iterate 18 apply Fg1.s); exact Fg1.v; apply Fgs.cons; (iterate 19 apply Fg1.s); exact Fg1.u; apply Fgs.cons; (iterate 20 apply Fg1.s); exact Fg1.u; apply Fgs.cons; (iterate 21 apply Fg1.s); exact Fg1.u; apply Fgs.cons; (iterate 22 apply Fg1.s); exact Fg1.u; apply Fgs.cons; (iterate 23 apply Fg1.s); exact Fg1.u; exact Fgs.nil; apply qn_nx)))
          have hw0 : w = 0 := by omega
          exact fin 0 _ _ 0 (by subst hw0; omega) (fun m h => by subst hw0; omega)
      | sh mo p q cap s =>
        have hm0 : 0 ≤ mo ∧ mo < 40 ∧ (0 ≤ p ∧ p ≤ 1) ∧ (1 ≤ q ∧ q ≤ 12) := hro
        obtain ⟨sh, hsh⟩ := share_eq (s := t.price * sold) hm0.2.2.1 hm0.2.2.2
        obtain ⟨ea, ra, hpay⟩ := pay_eq (m := mo) (p := p) (q := q) (cap := cap) (pot := 0 + sh + fa) (s := s) hwb
        refine ⟨_, (by dsimp only [encRow]; ((with_reducible (apply BCT.tu; apply BCTs.cons; apply BCT.nm; (iterate 15 apply FPut.s); exact FPut.u; apply BCTs.cons; apply BCT.nm; (iterate 16 apply FPut.s); exact FPut.u; exact BCTs.nil)))), ?_⟩
        unfold lb_settle_1
        ((with_reducible (apply s_fg; apply s_seq; apply s_setV; apply g_C; apply datk_v; apply stk; (iterate 17 apply FPut.s); exact FPut.u; apply ks_nx; apply s_seq; apply s_setV; apply g_C; apply datk_v; apply stk; (iterate 18 apply FPut.s); exact FPut.u; apply ks_nx; apply s_seq; apply s_ite; apply g_TB; apply g_bin; apply g_ex; apply g_bin; apply g_nm; (iterate 16 apply DAt.s); exact DAt.v; apply g_ex; apply g_C; apply datk_v; apply bink; apply Res.nm; (iterate 16 apply DAt.s); exact DAt.v; exact Res.dat; apply oo_ixT; exact ix0; apply datk_v; apply g_ex; apply g_C; apply datk_v; apply bink; (iterate 2 exact Res.dat); exact oo_eqS _ _; apply boolk)); (refine ifk_sn (by decide) ?_); (with_reducible (apply s_seq; apply s_setV; apply g_def; apply g_caV; apply g_escE; apply g_bin; apply g_nm; (iterate 16 apply DAt.s); exact DAt.v; apply g_ex; apply g_C; apply datk_v; apply bink; apply Res.nm; (iterate 16 apply DAt.s); exact DAt.v; exact Res.dat; apply oo_ixT; exact ix2; apply datk_v; apply g_caV; apply g_escN; apply g_name; (iterate 9 apply NmAt.s); exact NmAt.v; apply datk_v; apply g_caN; apply defk_d; (iterate 2 apply RA.d); exact RA.nil)); ((with_reducible apply DfO.d); exact ⟨rfl, rfl, rfl⟩); (with_reducible (assumption; apply datk_v; apply stk; (iterate 19 apply FPut.s); exact FPut.u; apply ks_nx; apply s_seq; apply s_setV; apply g_bin; apply g_ex; apply g_bin; apply g_ex; apply g_bin; apply g_nm; apply DAt.s; exact DAt.v; apply g_nm; (iterate 15 apply DAt.s); exact DAt.v; apply bink; apply Res.nm; apply DAt.s; exact DAt.v; apply Res.nm; (iterate 15 apply DAt.s); exact DAt.v; apply oo_ixT; assumption; apply datk_v; apply g_nm; (iterate 19 apply DAt.s); exact DAt.v; apply bink; exact Res.dat; apply Res.nm; (iterate 19 apply DAt.s); exact DAt.v; exact oo_add _ _; apply datk_v; apply g_nm; (iterate 12 apply DAt.s); exact DAt.v; apply bink; exact Res.dat; apply Res.nm; (iterate 12 apply DAt.s); exact DAt.v; exact oo_add _ _; apply datk_v; apply stk; (iterate 20 apply FPut.s); exact FPut.u; apply ks_nx; apply s_seq; apply s_asg; apply g_def; apply g_caV; apply g_escN; apply g_name; (iterate 16 apply NmAt.s); exact NmAt.v; apply datk_v; apply g_caV; apply g_escN; apply g_name; (iterate 20 apply NmAt.s); exact NmAt.v; apply datk_v; apply g_caV; apply g_escE; apply g_bin; apply g_nm; (iterate 8 apply DAt.s); exact DAt.v; apply g_nm; (iterate 15 apply DAt.s); exact DAt.v; apply bink; apply Res.nm; (iterate 8 apply DAt.s); exact DAt.v; apply Res.nm; (iterate 15 apply DAt.s); exact DAt.v; apply oo_ixT; assumption; apply datk_v; apply g_caN; apply defk_d; (iterate 3 apply RA.d); exact RA.nil)); ((with_reducible apply DfO.d); exact ⟨rfl, rfl, rfl⟩); (with_reducible (assumption; apply datk_v; apply asgk; apply BCT.tu; apply BCTs.cons; apply BCT.nm; (iterate 21 apply FPut.s); exact FPut.u; apply BCTs.cons; apply BCT.nm; (iterate 22 apply FPut.s); exact FPut.u; exact BCTs.nil; apply ks_nx; apply s_seq; apply s_setV; apply g_bin; apply g_ex; apply g_bin; apply g_nm; (iterate 20 apply DAt.s); exact DAt.v; apply g_nm; (iterate 22 apply DAt.s); exact DAt.v; apply bink; apply Res.nm; (iterate 20 apply DAt.s); exact DAt.v; apply Res.nm; (iterate 22 apply DAt.s); exact DAt.v; exact oo_add _ _; apply datk_v; apply g_ex; apply g_bin; apply g_nm; (iterate 21 apply DAt.s); exact DAt.v; apply g_ex; apply g_bin; apply g_nm; (iterate 8 apply DAt.s); exact DAt.v; apply g_nm; (iterate 15 apply DAt.s); exact DAt.v; apply bink; apply Res.nm; (iterate 8 apply DAt.s); exact DAt.v; apply Res.nm; (iterate 15 apply DAt.s); exact DAt.v; apply oo_ixT; assumption; apply datk_v; apply bink; apply Res.nm; (iterate 21 apply DAt.s); exact DAt.v; exact Res.dat; apply oo_mul)); ((with_reducible refine mulOk_r ?_ ?_) <;> (first | decide | omega)); (with_reducible (apply datk_v; apply bink; (iterate 2 exact Res.dat); exact oo_sub _ _; apply datk_v; apply stk; (iterate 23 apply FPut.s); exact FPut.u; apply ks_nx; apply s_seq; apply s_drop; apply g_app; (iterate 13 apply LAt.s); exact LAt.o; apply g_name; (iterate 21 apply NmAt.s); exact NmAt.v; apply datk_v; apply appk; (iterate 13 apply LAt.s); exact LAt.o)); ((with_reducible apply fits1_of); ((try simp only [List.length_append, List.length_cons, List.length_nil, List.length_map, List.length_replicate, List.length_reverse, List.length_dropLast]); (first | assumption | omega | decide))); (with_reducible (apply ks_nx; apply s_seq; apply s_aug; (iterate 11 apply DAt.s); exact DAt.v; apply g_ex; apply g_bin; apply g_nm; (iterate 19 apply DAt.s); exact DAt.v; apply g_nm; (iterate 22 apply DAt.s); exact DAt.v; apply bink; apply Res.nm; (iterate 19 apply DAt.s); exact DAt.v; apply Res.nm; (iterate 22 apply DAt.s); exact DAt.v; exact oo_add _ _; apply datk_v; apply augk; (iterate 11 apply DAt.s); exact DAt.v; exact Res.dat; exact oo_sub _ _; apply stk; (iterate 11 apply FPut.s); exact FPut.v; apply ks_nx; apply s_seq; apply s_setV; apply g_C; apply datk_v; apply stk; (iterate 12 apply FPut.s); exact FPut.v; apply ks_nx; apply s_ite; apply g_TB; apply g_bin; apply g_ex; apply g_bin; apply g_nm; (iterate 16 apply DAt.s); exact DAt.v; apply g_ex; apply g_C; apply datk_v; apply bink; apply Res.nm; (iterate 16 apply DAt.s); exact DAt.v; exact Res.dat; apply oo_ixT; exact ix4; apply datk_v; apply g_ex; apply g_C; apply datk_v; apply bink; (iterate 2 exact Res.dat); exact oo_eqS _ _; apply boolk)))
        have hcm := Int.mul_comm ea w
        have nof : ∀ (m' : Int), (Row.sh mo p q cap s) = .fix m' → w * ea = w * m' := fun _ h => nomatch h
        refine ifk_d (fun h0 => ?_) (fun h0 => ?_)
        · ((with_reducible (apply s_seq; apply s_setV; apply g_call; apply g_evC; apply g_nm; (iterate 23 apply DAt.s); exact DAt.v; apply g_evC; apply g_nm; (iterate 5 apply DAt.s); exact DAt.v; apply g_evN; apply callk; apply ResAll.cons; apply Res.nm; (iterate 23 apply DAt.s); exact DAt.v; apply ResAll.cons; apply Res.nm; (iterate 5 apply DAt.s); exact DAt.v; exact ResAll.nil; apply opn_2; exact oo_min _ _; apply datk_v; apply stk; (iterate 18 apply FPut.s); exact FPut.v; apply ks_nx; apply s_setV; apply g_bin; apply g_nm; (iterate 23 apply DAt.s); exact DAt.v; apply g_nm; (iterate 18 apply DAt.s); exact DAt.v; apply bink; apply Res.nm; (iterate 23 apply DAt.s); exact DAt.v; apply Res.nm; (iterate 18 apply DAt.s); exact DAt.v; exact oo_sub _ _; apply datk_v; apply stk; (iterate 17 apply FPut.s); exact FPut.v; apply ks_nx; apply s_seq; apply s_drop; apply g_app; (iterate 14 apply LAt.s); exact LAt.o; apply g_name; (iterate 18 apply NmAt.s); exact NmAt.v; apply datk_v; apply appk; (iterate 14 apply LAt.s); exact LAt.o)); ((with_reducible apply fits1_of); ((try simp only [List.length_append, List.length_cons, List.length_nil, List.length_map, List.length_replicate, List.length_reverse, List.length_dropLast]); (first | assumption | omega | decide))); (with_reducible (apply ks_nx; apply s_aug; (iterate 11 apply DAt.s); exact DAt.v; apply g_nm; (iterate 17 apply DAt.s); exact DAt.v; apply augk; (iterate 11 apply DAt.s); exact DAt.v; apply Res.nm; (iterate 17 apply DAt.s); exact DAt.v; exact oo_augI _ _; apply stk; (iterate 11 apply FPut.s); exact FPut.v; apply kf_nx; apply Fgs.cons; (iterate 15 apply Fg1.s); exact Fg1.v; apply Fgs.cons; (iterate 16 apply Fg1.s); exact Fg1.v; apply Fgs.cons; (iterate 17 apply Fg1.s); exact Fg1.v; apply Fgs.cons; (iterate 18 apply Fg1.s); exact Fg1.v; apply Fgs.cons; (iterate 19 apply Fg1.s); exact Fg1.v; apply Fgs.cons; (iterate 20 apply Fg1.s); exact Fg1.v; apply Fgs.cons; (iterate 21 apply Fg1.s); exact Fg1.v; apply Fgs.cons; (iterate 22 apply Fg1.s); exact Fg1.v; apply Fgs.cons; (iterate 23 apply Fg1.s); exact Fg1.v; exact Fgs.nil; apply qn_nx)))
          exact fin ea _ _ _ (by omega) nof
        · ((with_reducible (apply s_ite; apply g_TB; apply g_bin; apply g_ex; apply g_bin; apply g_nm; (iterate 16 apply DAt.s); exact DAt.v; apply g_ex; apply g_C; apply datk_v; apply bink; apply Res.nm; (iterate 16 apply DAt.s); exact DAt.v; exact Res.dat; apply oo_ixT; exact ix4; apply datk_v; apply g_ex; apply g_C; apply datk_v; apply bink; (iterate 2 exact Res.dat); exact oo_eqS _ _; apply boolk)))
          refine ifk_d (fun h1 => ?_) (fun h1 => ?_)
          · ((with_reducible (apply s_setV; apply g_name; (iterate 23 apply NmAt.s); exact NmAt.v; apply datk_v; apply stk; (iterate 12 apply FPut.s); exact FPut.v; apply ks_nx; apply s_seq; apply s_drop; apply g_app; (iterate 14 apply LAt.s); exact LAt.o; apply g_name; (iterate 18 apply NmAt.s); exact NmAt.v; apply datk_v; apply appk; (iterate 14 apply LAt.s); exact LAt.o)); ((with_reducible apply fits1_of); ((try simp only [List.length_append, List.length_cons, List.length_nil, List.length_map, List.length_replicate, List.length_reverse, List.length_dropLast]); (first | assumption | omega | decide))); (with_reducible (apply ks_nx; apply s_aug; (iterate 11 apply DAt.s); exact DAt.v; apply g_nm; (iterate 17 apply DAt.s); exact DAt.v; apply augk; (iterate 11 apply DAt.s); exact DAt.v; apply Res.nm; (iterate 17 apply DAt.s); exact DAt.v; exact oo_augI _ _; apply stk; (iterate 11 apply FPut.s); exact FPut.v; apply kf_nx; apply Fgs.cons; (iterate 15 apply Fg1.s); exact Fg1.v; apply Fgs.cons; (iterate 16 apply Fg1.s); exact Fg1.v; apply Fgs.cons; (iterate 17 apply Fg1.s); exact Fg1.v; apply Fgs.cons; (iterate 18 apply Fg1.s); exact Fg1.v; apply Fgs.cons; (iterate 19 apply Fg1.s); exact Fg1.v; apply Fgs.cons; (iterate 20 apply Fg1.s); exact Fg1.v; apply Fgs.cons; (iterate 21 apply Fg1.s); exact Fg1.v; apply Fgs.cons; (iterate 22 apply Fg1.s); exact Fg1.v; apply Fgs.cons; (iterate 23 apply Fg1.s); exact Fg1.v; exact Fgs.nil; apply qn_nx)))
            exact fin ea _ _ _ (by omega) nof
          · ((with_reducible (apply s_setV; apply g_name; (iterate 23 apply NmAt.s); exact NmAt.v; apply datk_v; apply stk; (iterate 17 apply FPut.s); exact FPut.v; apply ks_nx; apply s_seq; apply s_drop; apply g_app; (iterate 14 apply LAt.s); exact LAt.o; apply g_name; (iterate 18 apply NmAt.s); exact NmAt.v; apply datk_v; apply appk; (iterate 14 apply LAt.s); exact LAt.o)); ((with_reducible apply fits1_of); ((try simp only [List.length_append, List.length_cons, List.length_nil, List.length_map, List.length_replicate, List.length_reverse, List.length_dropLast]); (first | assumption | omega | decide))); (with_reducible (apply ks_nx; apply s_aug; (iterate 11 apply DAt.s); exact DAt.v; apply g_nm; (iterate 17 apply DAt.s); exact DAt.v; apply augk; (iterate 11 apply DAt.s); exact DAt.v; apply Res.nm; (iterate 17 apply DAt.s); exact DAt.v; exact oo_augI _ _; apply stk; (iterate 11 apply FPut.s); exact FPut.v; apply kf_nx; apply Fgs.cons; (iterate 15 apply Fg1.s); exact Fg1.v; apply Fgs.cons; (iterate 16 apply Fg1.s); exact Fg1.v; apply Fgs.cons; (iterate 17 apply Fg1.s); exact Fg1.v; apply Fgs.cons; (iterate 18 apply Fg1.s); exact Fg1.v; apply Fgs.cons; (iterate 19 apply Fg1.s); exact Fg1.v; apply Fgs.cons; (iterate 20 apply Fg1.s); exact Fg1.v; apply Fgs.cons; (iterate 21 apply Fg1.s); exact Fg1.v; apply Fgs.cons; (iterate 22 apply Fg1.s); exact Fg1.v; apply Fgs.cons; (iterate 23 apply Fg1.s); exact Fg1.v; exact Fgs.nil; apply qn_nx)))
            exact fin ea _ _ _ (by omega) nof)
  refine ⟨ps, cs, due, ch + fa, ?_, by rw [hps, List.length_zipIdx, ht.len], by rw [hcs, List.length_zipIdx, ht.len], by omega, hfix⟩
  refine fe_of ?_
  unfold m_settle
  show RS _ [.val (encT t), .val (.tuple (iL (List.replicate m 0))), .val (.tuple [.int sold, .tuple (iL ws)]), .un, .un, .un, .un, .un, .un, .un, .un, .un, .un, .un, .un, .un, .un, .un, .un, .un, .un, .un, .un, .un] _
  have hpr := ht.pr
  ((with_reducible (apply s_seq; apply s_asg; apply g_name; exact NmAt.v; apply datk_v; apply asgk; apply BCT.tu; apply BCTs.cons; apply BCT.nm; (iterate 3 apply FPut.s); exact FPut.u; apply BCTs.cons; apply BCT.nm; (iterate 4 apply FPut.s); exact FPut.u; apply BCTs.cons; apply BCT.nm; (iterate 5 apply FPut.s); exact FPut.u; apply BCTs.cons; apply BCT.nm; (iterate 6 apply FPut.s); exact FPut.u; exact BCTs.nil; apply ks_nx; apply s_seq; apply s_asg; apply g_name; (iterate 2 apply NmAt.s); exact NmAt.v; apply datk_v; apply asgk; apply BCT.tu; apply BCTs.cons; apply BCT.nm; (iterate 7 apply FPut.s); exact FPut.u; apply BCTs.cons; apply BCT.nm; (iterate 8 apply FPut.s); exact FPut.u; exact BCTs.nil; apply ks_nx; apply s_seq; apply s_setV; apply g_bin; apply g_nm; (iterate 3 apply DAt.s); exact DAt.v; apply g_nm; (iterate 7 apply DAt.s); exact DAt.v; apply bink; apply Res.nm; (iterate 3 apply DAt.s); exact DAt.v; apply Res.nm; (iterate 7 apply DAt.s); exact DAt.v; apply oo_mul)); ((with_reducible refine mulOk_r ?_ ?_) <;> (first | decide | omega)); (with_reducible (apply datk_v; apply stk; (iterate 9 apply FPut.s); exact FPut.u; apply ks_nx; apply s_seq; apply s_setV; apply g_def; apply g_caV; apply g_escN; apply g_name; (iterate 4 apply NmAt.s); exact NmAt.v; apply datk_v; apply g_caV; apply g_escN; apply g_name; (iterate 9 apply NmAt.s); exact NmAt.v; apply datk_v; apply g_caN; apply defk_d; (iterate 2 apply RA.d); exact RA.nil)); ((with_reducible apply DfO.d); exact ⟨rfl, rfl, rfl⟩); (with_reducible (assumption; apply datk_v; apply stk; (iterate 10 apply FPut.s); exact FPut.u; apply ks_nx; apply s_seq; apply s_setV; apply g_bin; apply g_nm; (iterate 9 apply DAt.s); exact DAt.v; apply g_nm; (iterate 10 apply DAt.s); exact DAt.v; apply bink; apply Res.nm; (iterate 9 apply DAt.s); exact DAt.v; apply Res.nm; (iterate 10 apply DAt.s); exact DAt.v; exact oo_sub _ _; apply datk_v; apply stk; (iterate 11 apply FPut.s); exact FPut.u; apply ks_nx; apply s_seq; apply s_setV; apply g_C; apply datk_v; apply stk; (iterate 12 apply FPut.s); exact FPut.u; apply ks_nx; apply s_seq; apply s_par; apply g_lst; apply g_elN; apply And.intro (a := Fits _))); ((with_reducible apply fits_of); ((try simp only [List.length_append, List.length_cons, List.length_nil, List.length_map, List.length_replicate, List.length_reverse, List.length_dropLast]); (first | assumption | omega | decide))); (with_reducible (apply slk_o; apply g_lst; apply g_elN; apply And.intro (a := Fits _))); ((with_reducible apply fits_of); ((try simp only [List.length_append, List.length_cons, List.length_nil, List.length_map, List.length_replicate, List.length_reverse, List.length_dropLast]); (first | assumption | omega | decide))); (with_reducible (apply slk_o; apply park; (iterate 13 apply FPut.s); exact FPut.u; apply stk; (iterate 14 apply FPut.s); exact FPut.u; apply ks_nx; apply s_seq; apply s_for; apply g_itG; apply g_elO; apply g_escN; apply g_name; (iterate 6 apply NmAt.s); exact NmAt.v; apply datk_v; apply g_elN; apply oplk; apply opl_enum; exact It.t)))
  rw [enum_map]
  refine forK h1 ?_
  ((with_reducible (apply ks_nx; apply s_ret; apply g_tup; apply g_elO; apply g_escE; apply g_call; apply g_evC; apply g_nm; (iterate 13 apply DAt.s); exact DAt.o; apply g_evN; apply callk; apply ResAll.cons; apply Res.nm; (iterate 13 apply DAt.s); exact DAt.o; exact ResAll.nil; apply opn_1; exact oo_tupL _; apply datk_v; apply g_elO; apply g_escN; apply g_name; (iterate 10 apply NmAt.s); exact NmAt.v; apply datk_v; apply g_elO; apply g_escE; apply g_call; apply g_evC; apply g_nm; (iterate 14 apply DAt.s); exact DAt.o; apply g_evN; apply callk; apply ResAll.cons; apply Res.nm; (iterate 14 apply DAt.s); exact DAt.o; exact ResAll.nil; apply opn_1; exact oo_tupL _; apply datk_v; apply g_elO; apply g_escE; apply g_bin; apply g_nm; (iterate 11 apply DAt.s); exact DAt.v; apply g_nm; (iterate 12 apply DAt.s); exact DAt.v; apply bink; apply Res.nm; (iterate 11 apply DAt.s); exact DAt.v; apply Res.nm; (iterate 12 apply DAt.s); exact DAt.v; exact oo_add _ _; apply datk_v; apply g_elN; apply And.intro (a := Fits _))); ((with_reducible apply fits_of); ((try simp only [List.length_append, List.length_cons, List.length_nil, List.length_map, List.length_replicate, List.length_reverse, List.length_dropLast]); (first | assumption | omega | decide))); (with_reducible (apply qd_rt; (iterate 13 apply IoR.val); (iterate 2 apply IoR.own); (iterate 9 apply IoR.un); exact IoR.nil)))
  rfl
theorem start_eq {t : Tb} {m : Nat} (ht : t.ok m) (hm : m ≤ 4) : FE f_start_state [.d (encT t)] (.val (.tuple (iL (List.replicate m 0)))) none := by
  refine fe_of ?_
  unfold m_start_state
  show RS _ [.val (encT t), .un] _
  have hl := ht.len
  have hl' : (t.rows.map encRow).length ≤ 4 := by rw [List.length_map]; omega
  ((with_reducible (apply s_ret; apply g_call; apply g_evC; apply g_ex; apply g_lc; apply g_it; apply g_escE; apply g_bin; apply g_nm; exact DAt.v; apply g_ex; apply g_C; apply datk_v; apply bink; apply Res.nm; exact DAt.v; exact Res.dat; apply oo_ixT; exact ix3; apply datk_v; apply itk; exact It.t; apply lck)); ((with_reducible apply fits_of); ((try simp only [List.length_append, List.length_cons, List.length_nil, List.length_map, List.length_replicate, List.length_reverse, List.length_dropLast]); (first | assumption | omega | decide))); (with_reducible (apply UnR.cons; exact UnR.nil; apply FPut.s; exact FPut.u)))
  refine lce (lc_pre encRow (fun _ => [.val (encT t), .un]) (fun _ => true) (fun _ => .int 0) t.rows fun pre x suf e => ?_) ?_
  · refine ⟨_, .nm (by ((with_reducible (apply FPut.s; exact FPut.u)))), ?_⟩
    ((with_reducible (apply g_yes)))
    refine ⟨rfl, ?_⟩
    ((with_reducible (apply ifk_t; apply g_C)))
    exact ⟨rfl, by ((with_reducible (apply UnR.cons; exact UnR.nil; apply FPut.s; exact FPut.v)))⟩
  ((with_reducible (apply datk_o; apply g_evN; apply callk; apply ResAll.cons; exact Res.dat; exact ResAll.nil; apply opn_1; exact oo_tupL _; apply qd_rt; apply IoR.val; apply IoR.un; exact IoR.nil)))
  have : (t.rows.filter fun _ => true).map (fun _ => PyData.int 0) = iL (List.replicate m 0) := by
    rw [List.filter_eq_self.mpr (fun _ _ => rfl), List.map_const', hl]
    simp
  rw [this]

end LW
set_option Elab.async false
set_option linter.all false
set_option maxRecDepth 100000
set_option maxHeartbeats 4000000
namespace LW
open PySem PySem.Spec PyProof.Rows L2 RT DL
/-! chances -/
theorem isnum_eq (i a b : Int) : FE f_is_number [.d (.int i), .d (.int a), .d (.int b)] (.val (.bool (decide (a ≤ i) && decide (i ≤ b)))) none := by
  have b1 : isT "bool" (.int i) = some false := by show kitB "int" "bool" = some false; decide
  have b2 : isT "int" (.int i) = some true := by show kitB "int" "int" = some true; decide
  refine fe_of ?_
  unfold m_is_number
  show RS _ [.val (.int i), .val (.int a), .val (.int b)] _
  ((with_reducible (apply s_seq; apply s_ite; apply g_or; apply g_tru; apply g_ex; apply g_isT; apply g_nm; exact DAt.v; apply unk; apply Res.nm; exact DAt.v)))
  · exact oo_isT b1
  ((with_reducible (apply datk_v)))
  refine truk .dat rfl ?_
  ((with_reducible (apply ifk_f; apply g_not; apply g_tru; apply g_ex; apply g_isT; apply g_nm; exact DAt.v; apply unk; apply Res.nm; exact DAt.v)))
  · exact oo_isT b2
  ((with_reducible (apply datk_v)))
  refine truk .dat rfl ?_
  ((with_reducible (apply ifk_not; apply ifk_t; apply s_sk; apply ks_nx; apply s_ret; apply g_chain; apply g_nm; apply DAt.s; exact DAt.v; apply g_nm; exact DAt.v; apply chk; apply Res.nm; apply DAt.s; exact DAt.v; apply Res.nm; exact DAt.v; exact oo_le _ _)))
  refine ifk_d (fun h => ?_) (fun h => ?_)
  · ((with_reducible (apply g_nm; (iterate 2 apply DAt.s); exact DAt.v; apply bink; apply Res.nm; exact DAt.v; apply Res.nm; (iterate 2 apply DAt.s); exact DAt.v; exact oo_le _ _; apply qd_rt; (iterate 3 apply IoR.val); exact IoR.nil)))
    rw [decide_eq_true h, Bool.true_and]
  · ((with_reducible (apply qd_rt; (iterate 3 apply IoR.val); exact IoR.nil)))
    rw [decide_eq_false h, Bool.false_and]
theorem check_eq (ds : List D) (k : Nat) (h : k < ds.length) : FE f_check_place [.d (.tuple ds), .d (.int k)] (.val .none) none := by
  refine fe_of ?_
  unfold m_check_place
  show RS _ [.val (.tuple ds), .val (.int k)] _
  ((with_reducible (apply s_ite; apply g_not; apply g_tru; apply g_ex; apply g_def; apply g_caV; apply g_escN; apply g_name; apply NmAt.s; exact NmAt.v; apply datk_v; apply g_caV; apply g_escE; apply g_C; apply datk_v; apply g_caV; apply g_escE; apply g_bin; apply g_ex; apply g_call; apply g_evC; apply g_nm; exact DAt.v; apply g_evN; apply callk; apply ResAll.cons; apply Res.nm; exact DAt.v; exact ResAll.nil; apply opn_1; exact oo_lenT _; apply datk_v; apply g_ex; apply g_C; apply datk_v; apply bink; (iterate 2 exact Res.dat); exact oo_sub _ _; apply datk_v; apply g_caN; apply defk_d; (iterate 3 apply RA.d); exact RA.nil)); ((with_reducible apply DfO.d); exact ⟨rfl, rfl, rfl⟩))
  · exact isnum_eq _ _ _
  ((with_reducible (apply datk_v)))
  refine truk .dat rfl ?_
  rw [decide_eq_true (by omega : (0 : Int) ≤ k), decide_eq_true (by omega : (k : Int) ≤ (ds.length : Int) - 1), Bool.and_self]
  ((with_reducible (apply ifk_not; apply ifk_t; apply s_sk; apply qd_nx; (iterate 2 apply IoR.val); exact IoR.nil)))
  rfl
theorem comb_tab : ∀ n, n < 10 → ∀ k, k < 10 → PySem.W.mcComb (n : Nat) (k : Nat) = ((chN n k : Nat) : Int) := by decide +kernel
theorem comb_eq {i j : Int} (hi : 0 ≤ i ∧ i < 10) (hj : 0 ≤ j ∧ j < 10) : Op2 gComb (.int i) (.int j) (.val (.int ((chN i.toNat j.toNat : Nat) : Int))) := by
  unfold Op2 gComb
  dsimp only
  rw [if_pos (by rw [Bool.and_eq_true, Bool.and_eq_true]; exact ⟨⟨nonN_iff.mpr hi.1, nonN_iff.mpr hj.1⟩, leN_iff.mpr (by omega)⟩)]
  have := comb_tab i.toNat (by omega) j.toNat (by omega)
  rw [show ((i.toNat : Nat) : Int) = i by omega, show ((j.toNat : Nat) : Int) = j by omega] at this
  rw [this]
theorem pmany_eq {f : Fd} (hf : f.ok) : FE f_parts_many [.d (encF f)] (.val (.int ((parts f).length : Nat))) none := by
  rw [(parts_len hf).1]
  obtain ⟨f1, f2, f3, f4, f5⟩ := hf
  refine fe_of ?_
  unfold m_parts_many
  show RS _ [.val (encF f), .un, .un, .un] _
  ((with_reducible (apply s_seq; apply s_asg; apply g_name; exact NmAt.v; apply datk_v; apply asgk; apply BCT.tu; apply BCTs.cons; apply BCT.nm; apply FPut.s; exact FPut.u; apply BCTs.cons; apply BCT.nm; (iterate 2 apply FPut.s); exact FPut.u; apply BCTs.cons; apply BCT.nm; (iterate 3 apply FPut.s); exact FPut.u; exact BCTs.nil; apply ks_nx; apply s_ret; apply g_if; apply g_TB; apply g_bin; apply g_nm; apply DAt.s; exact DAt.v; apply g_ex; apply g_C; apply datk_v; apply bink; apply Res.nm; apply DAt.s; exact DAt.v; exact Res.dat; exact oo_eqS _ _; apply boolk)))
  refine ifk_d (fun h => ?_) (fun h => ?_)
  · have hk := kd_ch.mp h
    ((with_reducible (apply g_call; apply g_evC; apply g_nm; (iterate 2 apply DAt.s); exact DAt.v; apply g_evC; apply g_nm; (iterate 3 apply DAt.s); exact DAt.v; apply g_evN; apply callk; apply ResAll.cons; apply Res.nm; (iterate 2 apply DAt.s); exact DAt.v; apply ResAll.cons; apply Res.nm; (iterate 3 apply DAt.s); exact DAt.v; exact ResAll.nil; apply opn_2)))
    · exact comb_eq (by omega) (by omega)
    ((with_reducible (apply qd_rt; (iterate 4 apply IoR.val); exact IoR.nil)))
    rw [hk]
    rfl
  · have hk : f.kd ≠ .ch := fun z => h (kd_ch.mpr z)
    ((with_reducible (apply g_def; apply g_caV; apply g_escN; apply g_name; (iterate 2 apply NmAt.s); exact NmAt.v; apply datk_v; apply g_caV; apply g_escN; apply g_name; (iterate 3 apply NmAt.s); exact NmAt.v; apply datk_v; apply g_caN; apply defk_d; (iterate 2 apply RA.d); exact RA.nil)); ((with_reducible apply DfO.d); exact ⟨rfl, rfl, rfl⟩))
    · exact raised_eq f.n f.k (by omega) (by omega)
    ((with_reducible (apply qd_rt; (iterate 4 apply IoR.val); exact IoR.nil)))
    have : pmN f.kd f.n f.k = f.n ^ f.k := by
      cases hq : f.kd
      · exact absurd hq hk
      · rfl
      · rfl
    rw [this]
theorem many_eq {g : List Fd} (hg : ∀ f ∈ g, f.ok) : FE f_many [.d (encG g)] (.val (.int (manyG g : Nat))) none := by
  have key := for_pre (c := .nm 2) (b := lb_many_1) encF (fun pre => [.val (encG g), .val (.int (manyG pre : Nat)), .un]) g (by
    intro pre f suf e
    have hf : f.ok := hg f (by rw [e]; simp)
    have hpl := parts_size hf.2.1 hf.2.2.2.1
    refine ⟨_, .nm (by ((with_reducible ((iterate 2 apply FPut.s); exact FPut.u)))), ?_⟩
    unfold lb_many_1
    ((with_reducible (apply s_fg; apply s_aug; apply DAt.s; exact DAt.v; apply g_ex; apply g_def; apply g_caV; apply g_escN; apply g_name; (iterate 2 apply NmAt.s); exact NmAt.v; apply datk_v; apply g_caN; apply defk_d; apply RA.d; exact RA.nil)); ((with_reducible apply DfO.d); exact ⟨rfl, rfl, rfl⟩))
    · exact pmany_eq hf
    ((with_reducible (apply datk_v; apply augk; apply DAt.s; exact DAt.v; exact Res.dat; apply oo_mulI)); ((with_reducible refine mulOk_r ?_ ?_) <;> (first | decide | omega)); (with_reducible (apply stk; apply FPut.s; exact FPut.v; apply kf_nx; apply Fgs.cons; (iterate 2 apply Fg1.s); exact Fg1.v; exact Fgs.nil; apply qn_nx)))
    rw [manyG_snoc, Int.natCast_mul])
  refine fe_of ?_
  unfold m_many
  show RS _ [.val (encG g), .un, .un] _
  ((with_reducible (apply s_seq; apply s_setV; apply g_C; apply datk_v; apply stk; apply FPut.s; exact FPut.u; apply ks_nx; apply s_seq; apply s_for; apply g_it; apply g_escN; apply g_name; exact NmAt.v; apply datk_v; apply itk; exact It.t)))
  refine forK key ?_
  ((with_reducible (apply ks_nx; apply s_retNm; apply RtAt.s; exact RtAt.v; apply qd_rt; (iterate 2 apply IoR.val); apply IoR.un; exact IoR.nil)))
  rfl
/-- by how many parts so many are hit -/
def wthN (f : Fd) (h : Nat) : Nat := match f.kd with
  | .ch => chN f.k h * chN (f.n - f.k) (f.k - h)
  | .fi => chN f.k h * (f.n - 1) ^ (f.k - h)
  | .ta => if h = f.k then 1 else (f.n - 1) * f.n ^ (f.k - h - 1)
theorem ch_le : ∀ n, n < 10 → ∀ k, k < 10 → chN n k ≤ 1000 := by decide +kernel
theorem pow_le9 {b k : Nat} (hb : b ≤ 9) (hk : k ≤ 3) : b ^ k ≤ 729 := Nat.le_trans (Nat.pow_le_pow_left hb k) (Nat.pow_le_pow_right (by decide) hk)
theorem wth_eq {f : Fd} (hf : f.ok) {h : Nat} (hh : h ≤ f.k) : FE f_ways_to_hit [.d (encF f), .d (.int h)] (.val (.int (wthN f h : Nat))) none := by
  obtain ⟨f1, f2, f3, f4, f5⟩ := hf
  refine fe_of ?_
  unfold m_ways_to_hit
  show RS _ [.val (encF f), .val (.int h), .un, .un, .un] _
  ((with_reducible (apply s_seq; apply s_asg; apply g_name; exact NmAt.v; apply datk_v; apply asgk; apply BCT.tu; apply BCTs.cons; apply BCT.nm; (iterate 2 apply FPut.s); exact FPut.u; apply BCTs.cons; apply BCT.nm; (iterate 3 apply FPut.s); exact FPut.u; apply BCTs.cons; apply BCT.nm; (iterate 4 apply FPut.s); exact FPut.u; exact BCTs.nil; apply ks_nx; apply s_seq; apply s_ite; apply g_not; apply g_tru; apply g_ex; apply g_def; apply g_caV; apply g_escN; apply g_name; apply NmAt.s; exact NmAt.v; apply datk_v; apply g_caV; apply g_escE; apply g_C; apply datk_v; apply g_caV; apply g_escN; apply g_name; (iterate 4 apply NmAt.s); exact NmAt.v; apply datk_v; apply g_caN; apply defk_d; (iterate 3 apply RA.d); exact RA.nil)); ((with_reducible apply DfO.d); exact ⟨rfl, rfl, rfl⟩))
  · exact isnum_eq _ _ _
  ((with_reducible (apply datk_v)))
  refine truk .dat rfl ?_
  rw [decide_eq_true (by omega : (0 : Int) ≤ h), decide_eq_true (by omega : (h : Int) ≤ (f.k : Int)), Bool.and_self]
  ((with_reducible (apply ifk_not; apply ifk_t; apply s_sk; apply ks_nx; apply s_seq; apply s_ite; apply g_TB; apply g_bin; apply g_nm; (iterate 2 apply DAt.s); exact DAt.v; apply g_ex; apply g_C; apply datk_v; apply bink; apply Res.nm; (iterate 2 apply DAt.s); exact DAt.v; exact Res.dat; exact oo_eqS _ _; apply boolk)))
  unfold wthN
  refine ifk_d (fun h0 => ?_) (fun h0 => ?_)
  · have hk := kd_ch.mp h0
    rw [hk]
    ((with_reducible (apply s_ret; apply g_bin; apply g_ex; apply g_call; apply g_evC; apply g_nm; (iterate 4 apply DAt.s); exact DAt.v; apply g_evC; apply g_nm; apply DAt.s; exact DAt.v; apply g_evN; apply callk; apply ResAll.cons; apply Res.nm; (iterate 4 apply DAt.s); exact DAt.v; apply ResAll.cons; apply Res.nm; apply DAt.s; exact DAt.v; exact ResAll.nil; apply opn_2)))
    · exact comb_eq (by omega) (by omega)
    ((with_reducible (apply datk_v; apply g_ex; apply g_call; apply g_evC; apply g_ex; apply g_bin; apply g_nm; (iterate 3 apply DAt.s); exact DAt.v; apply g_nm; (iterate 4 apply DAt.s); exact DAt.v; apply bink; apply Res.nm; (iterate 3 apply DAt.s); exact DAt.v; apply Res.nm; (iterate 4 apply DAt.s); exact DAt.v; exact oo_sub _ _; apply datk_v; apply g_evC; apply g_ex; apply g_bin; apply g_nm; (iterate 4 apply DAt.s); exact DAt.v; apply g_nm; apply DAt.s; exact DAt.v; apply bink; apply Res.nm; (iterate 4 apply DAt.s); exact DAt.v; apply Res.nm; apply DAt.s; exact DAt.v; exact oo_sub _ _; apply datk_v; apply g_evN; apply callk; apply ResAll.cons; exact Res.dat; apply ResAll.cons; exact Res.dat; exact ResAll.nil; apply opn_2)))
    · exact comb_eq (by omega) (by omega)
    have c1 := ch_le (f.k) (by omega) h (by omega)
    have c2 := ch_le ((f.n : Int) - f.k).toNat (by omega) ((f.k : Int) - h).toNat (by omega)
    ((with_reducible (apply datk_v; apply bink; (iterate 2 exact Res.dat); apply oo_mul)); ((with_reducible refine mulOk_r ?_ ?_) <;> (first | decide | omega)); (with_reducible (apply ks_rt; apply qd_rt; (iterate 5 apply IoR.val); exact IoR.nil)))
    have e1 : ((f.n : Int) - f.k).toNat = f.n - f.k := by omega
    have e2 : ((f.k : Int) - h).toNat = f.k - h := by omega
    rw [e1, e2, Int.toNat_natCast, Int.toNat_natCast, Int.natCast_mul]
  · have hk : f.kd ≠ .ch := fun z => h0 (kd_ch.mpr z)
    have c1 := ch_le (f.k) (by omega) h (by omega)
    ((with_reducible (apply s_sk; apply ks_nx; apply s_seq; apply s_ite; apply g_TB; apply g_bin; apply g_nm; (iterate 2 apply DAt.s); exact DAt.v; apply g_ex; apply g_C; apply datk_v; apply bink; apply Res.nm; (iterate 2 apply DAt.s); exact DAt.v; exact Res.dat; exact oo_eqS _ _; apply boolk)))
    refine ifk_d (fun h1 => ?_) (fun h1 => ?_)
    · have hk := kd_fi.mp h1
      rw [hk]
      ((with_reducible (apply s_ret; apply g_bin; apply g_ex; apply g_call; apply g_evC; apply g_nm; (iterate 4 apply DAt.s); exact DAt.v; apply g_evC; apply g_nm; apply DAt.s; exact DAt.v; apply g_evN; apply callk; apply ResAll.cons; apply Res.nm; (iterate 4 apply DAt.s); exact DAt.v; apply ResAll.cons; apply Res.nm; apply DAt.s; exact DAt.v; exact ResAll.nil; apply opn_2)))
      · exact comb_eq (by omega) (by omega)
      ((with_reducible (apply datk_v; apply g_ex; apply g_def; apply g_caV; apply g_escE; apply g_bin; apply g_nm; (iterate 3 apply DAt.s); exact DAt.v; apply g_ex; apply g_C; apply datk_v; apply bink; apply Res.nm; (iterate 3 apply DAt.s); exact DAt.v; exact Res.dat; exact oo_sub _ _; apply datk_v; apply g_caV; apply g_escE; apply g_bin; apply g_nm; (iterate 4 apply DAt.s); exact DAt.v; apply g_nm; apply DAt.s; exact DAt.v; apply bink; apply Res.nm; (iterate 4 apply DAt.s); exact DAt.v; apply Res.nm; apply DAt.s; exact DAt.v; exact oo_sub _ _; apply datk_v; apply g_caN; apply defk_d; (iterate 2 apply RA.d); exact RA.nil)); ((with_reducible apply DfO.d); exact ⟨rfl, rfl, rfl⟩))
      · rw [show (f.n : Int) - 1 = ((f.n - 1 : Nat) : Int) by omega, show (f.k : Int) - h = ((f.k - h : Nat) : Int) by omega]
        exact raised_eq (f.n - 1) (f.k - h) (by omega) (by omega)
      have c2 := pow_le9 (b := f.n - 1) (k := f.k - h) (by omega) (by omega)
      ((with_reducible (apply datk_v; apply bink; (iterate 2 exact Res.dat); apply oo_mul)); ((with_reducible refine mulOk_r ?_ ?_) <;> (first | decide | omega)); (with_reducible (apply ks_rt; apply qd_rt; (iterate 5 apply IoR.val); exact IoR.nil)))
      rw [Int.toNat_natCast, Int.toNat_natCast, Int.natCast_mul]
    · have hk2 : f.kd = .ta := by
        cases hq : f.kd
        · exact absurd hq hk
        · exact absurd (kd_fi.mpr hq) h1
        · rfl
      rw [hk2]
      ((with_reducible (apply s_sk; apply ks_nx; apply s_ret; apply g_if; apply g_TB; apply g_bin; apply g_nm; apply DAt.s; exact DAt.v; apply g_nm; (iterate 4 apply DAt.s); exact DAt.v; apply bink; apply Res.nm; apply DAt.s; exact DAt.v; apply Res.nm; (iterate 4 apply DAt.s); exact DAt.v; exact oo_eq _ _; apply boolk)))
      refine ifk_d (fun h2 => ?_) (fun h2 => ?_)
      · have : h = f.k := by omega
        ((with_reducible (apply g_C; apply qd_rt; (iterate 5 apply IoR.val); exact IoR.nil)))
        rw [if_pos this]; rfl
      · have : h ≠ f.k := by omega
        ((with_reducible (apply g_bin; apply g_ex; apply g_bin; apply g_nm; (iterate 3 apply DAt.s); exact DAt.v; apply g_ex; apply g_C; apply datk_v; apply bink; apply Res.nm; (iterate 3 apply DAt.s); exact DAt.v; exact Res.dat; exact oo_sub _ _; apply datk_v; apply g_ex; apply g_def; apply g_caV; apply g_escN; apply g_name; (iterate 3 apply NmAt.s); exact NmAt.v; apply datk_v; apply g_caV; apply g_escE; apply g_bin; apply g_ex; apply g_bin; apply g_nm; (iterate 4 apply DAt.s); exact DAt.v; apply g_nm; apply DAt.s; exact DAt.v; apply bink; apply Res.nm; (iterate 4 apply DAt.s); exact DAt.v; apply Res.nm; apply DAt.s; exact DAt.v; exact oo_sub _ _; apply datk_v; apply g_ex; apply g_C; apply datk_v; apply bink; (iterate 2 exact Res.dat); exact oo_sub _ _; apply datk_v; apply g_caN; apply defk_d; (iterate 2 apply RA.d); exact RA.nil)); ((with_reducible apply DfO.d); exact ⟨rfl, rfl, rfl⟩))
        · rw [show (f.k : Int) - h - 1 = ((f.k - h - 1 : Nat) : Int) by omega]
          exact raised_eq f.n (f.k - h - 1) (by omega) (by omega)
        have c2 := pow_le9 (b := f.n) (k := f.k - h - 1) (by omega) (by omega)
        ((with_reducible (apply datk_v; apply bink; (iterate 2 exact Res.dat); apply oo_mul)); ((with_reducible refine mulOk_r ?_ ?_) <;> (first | decide | omega)); (with_reducible (apply qd_rt; (iterate 5 apply IoR.val); exact IoR.nil)))
        rw [if_neg this, Int.natCast_mul, show (f.n : Int) - 1 = ((f.n - 1 : Nat) : Int) by omega]

end LW
set_option Elab.async false
set_option linter.all false
set_option maxRecDepth 100000
set_option maxHeartbeats 4000000
namespace LW
open PySem PySem.Spec PyProof.Rows L2 RT DL
/-! the chance of a class -/
def lp (l : List Nat) : Nat := l.foldl (· * ·) 1
theorem lp_snoc (l : List Nat) (a : Nat) : lp (l ++ [a]) = lp l * a := by unfold lp; rw [List.foldl_append]; rfl
theorem wthN_le {f : Fd} (hf : f.ok) {h : Nat} (hh : h ≤ f.k) : wthN f h ≤ 1000000 := by
  obtain ⟨f1, f2, f3, f4, f5⟩ := hf
  unfold wthN
  have c1 := ch_le f.k (by omega) h (by omega)
  have c2 := ch_le (f.n - f.k) (by omega) (f.k - h) (by omega)
  have c3 := pow_le9 (b := f.n - 1) (k := f.k - h) (by omega) (by omega)
  have c4 := pow_le9 (b := f.n) (k := f.k - h - 1) (by omega) (by omega)
  split
  · exact Nat.le_trans (Nat.mul_le_mul c1 c2) (by decide)
  · exact Nat.le_trans (Nat.mul_le_mul c1 c3) (by decide)
  · split
    · decide
    · exact Nat.le_trans (Nat.mul_le_mul (show f.n - 1 ≤ 9 by omega) c4) (by decide)
def RowOk (g : List Fd) (row : List Int) : Prop := Rel2 (fun f h => 0 ≤ h ∧ h ≤ (f.k : Int)) g row
theorem hitsF_rel' : ∀ (g pre : List Fd) (acc : List (List Int)), (∀ r ∈ acc, RowOk pre r) → ∀ r ∈ g.foldl (fun acc f => acc.flatMap fun h => (rng 0 (f.k + 1)).map fun x => h ++ [x]) acc, RowOk (pre ++ g) r
  | [], pre, acc, h, pk, hp => by rw [List.append_nil]; exact h pk hp
  | f :: g, pre, acc, h, pk, hp => by
    rw [List.foldl_cons] at hp
    have := hitsF_rel' g (pre ++ [f]) _ (fun q hq => by
      simp only [List.mem_flatMap, List.mem_map] at hq
      obtain ⟨a, ha, b, hb, rfl⟩ := hq
      have := mem_rng.mp hb
      exact (h a ha).snoc ⟨this.1, by omega⟩) pk hp
    rw [List.append_assoc] at this
    exact this
theorem hitsF_rel {g : List Fd} {r : List Int} (h : r ∈ hitsF g) : RowOk g r := hitsF_rel' g [] [[]] (fun p hp => by
  have e : p = [] := by simpa using hp
  subst e; exact .nil) r h
theorem Rel2.zip {α β : Type} {R : α → β → Prop} : ∀ {as : List α} {bs : List β}, Rel2 R as bs → ∀ z ∈ as.zip bs, R z.1 z.2
  | _, _, .nil, z, h => by simp at h
  | _, _, .cons r t, z, h => by
    rw [List.zip_cons_cons] at h
    rcases List.mem_cons.mp h with rfl | h
    · exact r
    · exact Rel2.zip t z h
def rowW (g : List Fd) (row : List Int) : Nat := lp ((g.zip row).map fun z => wthN z.1 z.2.toNat)
def clsW (g : List Fd) (c : List (List Int)) : Nat := (c.map (rowW g)).sum
theorem chance1 {s0 s1 s2 s3 s4 : Sl} {g : List Fd} (hg : ∀ f ∈ g, f.ok) {row : List Int} (hr : RowOk g row) :
    forD (.tu [.nm 6, .nm 7]) lb_chance_1 ((g.zip row).map fun z => .tuple [encF z.1, .int z.2]) [s0, s1, s2, s3, s4, .val (.int (1 : Nat)), .un, .un] = .nx [s0, s1, s2, s3, s4, .val (.int (rowW g row : Nat)), .un, .un] := by
  exact for_pre (c := .tu [.nm 6, .nm 7]) (b := lb_chance_1) (fun z : Fd × Int => PyData.tuple [encF z.1, .int z.2]) (fun pre => [s0, s1, s2, s3, s4, .val (.int (lp (pre.map fun z => wthN z.1 z.2.toNat) : Nat)), .un, .un]) (g.zip row) (by
    rintro pre ⟨f, h⟩ suf e
    have hm : (f, h) ∈ g.zip row := by rw [e]; simp
    have hh := Rel2.zip hr _ hm
    have hf := hg f (List.of_mem_zip hm).1
    have hw := wthN_le hf (h := h.toNat) (by have := hh.1; have := hh.2; dsimp only at *; omega)
    dsimp only at hh
    refine ⟨_, (by ((with_reducible (apply BCT.tu; apply BCTs.cons; apply BCT.nm; (iterate 6 apply FPut.s); exact FPut.u; apply BCTs.cons; apply BCT.nm; (iterate 7 apply FPut.s); exact FPut.u; exact BCTs.nil)))), ?_⟩
    unfold lb_chance_1
    ((with_reducible (apply s_fg; apply s_aug; (iterate 5 apply DAt.s); exact DAt.v; apply g_ex; apply g_def; apply g_caV; apply g_escN; apply g_name; (iterate 6 apply NmAt.s); exact NmAt.v; apply datk_v; apply g_caV; apply g_escN; apply g_name; (iterate 7 apply NmAt.s); exact NmAt.v; apply datk_v; apply g_caN; apply defk_d; (iterate 2 apply RA.d); exact RA.nil)); ((with_reducible apply DfO.d); exact ⟨rfl, rfl, rfl⟩))
    · have := wth_eq hf (h := h.toNat) (by omega)
      rw [show ((h.toNat : Nat) : Int) = h by omega] at this
      exact this
    ((with_reducible (apply datk_v; apply augk; (iterate 5 apply DAt.s); exact DAt.v; exact Res.dat; apply oo_mulI)); ((with_reducible refine mulOk_r ?_ ?_) <;> (first | decide | omega)); (with_reducible (apply stk; (iterate 5 apply FPut.s); exact FPut.v; apply kf_nx; apply Fgs.cons; (iterate 6 apply Fg1.s); exact Fg1.v; apply Fgs.cons; (iterate 7 apply Fg1.s); exact Fg1.v; exact Fgs.nil; apply qn_nx)))
    rw [List.map_append, List.map_singleton, lp_snoc, Int.natCast_mul])
theorem chance_eq {g : List Fd} (hg : ∀ f ∈ g, f.ok) (hm : manyG g ≤ 60) {cl : List (List (List Int))} {k : Nat} {c : List (List Int)} (hk : cl[k]? = some c) (hc : ∀ r ∈ c, RowOk g r) :
    FE f_chance [.d (encG g), .d (.tuple (encC cl)), .d (.int k)] (.val (.tuple [.int ((clsW g c : Nat) / gcI (clsW g c : Nat) (manyG g : Nat)), .int ((manyG g : Nat) / gcI (clsW g c : Nat) (manyG g : Nat))])) none := by
  have hkl : k < cl.length := (List.getElem?_eq_some_iff.mp hk).1
  have xk : IxAt (encC cl) (k : Nat) (.tuple (c.map enc1)) := ixAt_map rfl hk
  have hmp := manyG_pos g 1 hg
  have key := for_pre (c := .nm 4) (b := lb_chance_2) enc1 (fun pre => [.val (encG g), .val (.tuple (encC cl)), .val (.int k), .val (.int ((pre.map (rowW g)).sum : Nat)), .un, .un, .un, .un]) c (by
    intro pre row suf e
    have hr := hc row (by rw [e]; simp)
    have h1 := chance1 (s0 := .val (encG g)) (s1 := .val (.tuple (encC cl))) (s2 := .val (.int k)) (s3 := .val (.int ((pre.map (rowW g)).sum : Nat))) (s4 := .val (enc1 row)) hg hr
    refine ⟨_, .nm (by ((with_reducible ((iterate 4 apply FPut.s); exact FPut.u)))), ?_⟩
    unfold lb_chance_2
    ((with_reducible (apply s_fg; apply s_seq; apply s_setV; apply g_C; apply datk_v; apply stk; (iterate 5 apply FPut.s); exact FPut.u; apply ks_nx; apply s_seq; apply s_for; apply g_itG; apply g_elO; apply g_escN; apply g_name; exact NmAt.v; apply datk_v; apply g_elO; apply g_escN; apply g_name; (iterate 4 apply NmAt.s); exact NmAt.v; apply datk_v; apply g_elN; apply oplk; apply opl_zip2; (iterate 2 exact It.t))))
    rw [zip2_map]
    refine forK h1 ?_
    ((with_reducible (apply ks_nx; apply s_aug; (iterate 3 apply DAt.s); exact DAt.v; apply g_nm; (iterate 5 apply DAt.s); exact DAt.v; apply augk; (iterate 3 apply DAt.s); exact DAt.v; apply Res.nm; (iterate 5 apply DAt.s); exact DAt.v; exact oo_augI _ _; apply stk; (iterate 3 apply FPut.s); exact FPut.v; apply kf_nx; apply Fgs.cons; (iterate 4 apply Fg1.s); exact Fg1.v; apply Fgs.cons; (iterate 5 apply Fg1.s); exact Fg1.v; apply Fgs.cons; (iterate 6 apply Fg1.s); exact Fg1.u; apply Fgs.cons; (iterate 7 apply Fg1.s); exact Fg1.u; exact Fgs.nil; apply qn_nx)))
    rw [List.map_append, List.sum_append, Int.natCast_add]
    simp)
  refine fe_of ?_
  unfold m_chance
  show RS _ [.val (encG g), .val (.tuple (encC cl)), .val (.int k), .un, .un, .un, .un, .un] _
  ((with_reducible (apply s_seq; apply s_drop; apply g_def; apply g_caV; apply g_escN; apply g_name; apply NmAt.s; exact NmAt.v; apply datk_v; apply g_caV; apply g_escN; apply g_name; (iterate 2 apply NmAt.s); exact NmAt.v; apply datk_v; apply g_caN; apply defk_d; (iterate 2 apply RA.d); exact RA.nil)); ((with_reducible apply DfO.d); exact ⟨rfl, rfl, rfl⟩))
  · exact check_eq _ _ (by rw [List.length_map]; exact hkl)
  ((with_reducible (apply ks_nx; apply s_seq; apply s_setV; apply g_C; apply datk_v; apply stk; (iterate 3 apply FPut.s); exact FPut.u; apply ks_nx; apply s_seq; apply s_for; apply g_it; apply g_escE; apply g_bin; apply g_nm; apply DAt.s; exact DAt.v; apply g_nm; (iterate 2 apply DAt.s); exact DAt.v; apply bink; apply Res.nm; apply DAt.s; exact DAt.v; apply Res.nm; (iterate 2 apply DAt.s); exact DAt.v; apply oo_ixT; assumption; apply datk_v; apply itk; exact It.t)))
  refine forK key ?_
  ((with_reducible (apply ks_nx; apply s_ret; apply g_def; apply g_caV; apply g_escN; apply g_name; (iterate 3 apply NmAt.s); exact NmAt.v; apply datk_v; apply g_caV; apply g_escE; apply g_def; apply g_caV; apply g_escN; apply g_name; exact NmAt.v; apply datk_v; apply g_caN; apply defk_d; apply RA.d; exact RA.nil)); ((with_reducible apply DfO.d); exact ⟨rfl, rfl, rfl⟩))
  · exact many_eq hg
  ((with_reducible (apply datk_v; apply g_caN; apply defk_d; (iterate 2 apply RA.d); exact RA.nil)); ((with_reducible apply DfO.d); exact ⟨rfl, rfl, rfl⟩))
  · exact made_eq (by unfold manyG; omega) (by omega)
  ((with_reducible (apply qd_rt; (iterate 4 apply IoR.val); (iterate 4 apply IoR.un); exact IoR.nil)))
  rfl
/-! ways -/
/-- by (others, same) of each place, the last one ahead -/
def Wn : List (Int × Int) → Nat → Int
  | [], 0 => 1
  | [], _ + 1 => 0
  | (o, s) :: l, 0 => Wn l 0 * o
  | (o, s) :: l, c + 1 => Wn l (c + 1) * o + Wn l c * s
def os1 (z : List Int × Int) : Int × Int := ((z.1.length : Int) - (if decide (z.2 ∈ z.1) = true then 1 else 0), if decide (z.2 ∈ z.1) = true then 1 else 0)
theorem Wn_top : ∀ (l : List (Int × Int)) (c : Nat), l.length < c → Wn l c = 0
  | [], 0, h => absurd h (Nat.lt_irrefl _)
  | [], _ + 1, _ => rfl
  | (o, s) :: l, 0, h => absurd h (Nat.not_lt_zero _)
  | (o, s) :: l, c + 1, h => by
    rw [List.length_cons] at h
    rw [Wn, Wn_top l (c + 1) (by omega), Wn_top l c (by omega)]
    simp
def WsOk (l : List (Int × Int)) (ws : List Int) : Prop := ws.length = l.length + 1 ∧ ∀ c, ws.getD c 0 = Wn l c
theorem zipw_getD (o s : Int) : ∀ (xs ys : List Int), xs.length = ys.length → ∀ c, c < xs.length → ((xs.zip ys).map fun z : Int × Int => z.1 * o + z.2 * s).getD c 0 = xs.getD c 0 * o + ys.getD c 0 * s
  | [], _, _, c, h => absurd h (Nat.not_lt_zero _)
  | x :: xs, [], h, _, _ => by simp at h
  | x :: xs, y :: ys, h, 0, _ => by simp
  | x :: xs, y :: ys, h, c + 1, hc => by
    have := zipw_getD o s xs ys (by simpa using h) c (by simpa using hc)
    simpa using this
def stp (o s : Int) (ws : List Int) : List Int := ((ws ++ [0]).zip (0 :: ws)).map fun z : Int × Int => z.1 * o + z.2 * s
theorem WsOk.step {l : List (Int × Int)} {ws : List Int} (h : WsOk l ws) (o s : Int) : WsOk ((o, s) :: l) (stp o s ws) := by
  obtain ⟨h1, h2⟩ := h
  have hl : (stp o s ws).length = ws.length + 1 := by simp [stp]
  refine ⟨by rw [hl, h1]; rfl, fun c => ?_⟩
  by_cases hc : c < ws.length + 1
  · rw [stp, zipw_getD o s (ws ++ [0]) (0 :: ws) (by simp) c (by simpa using hc)]
    have e1 : (ws ++ [0]).getD c 0 = Wn l c := by
      rw [← h2 c]
      by_cases hc2 : c < ws.length
      · simp only [List.getD_eq_getElem?_getD, List.getElem?_append_left hc2]
      · have : c = ws.length := by omega
        subst this
        simp [List.getD_eq_getElem?_getD]
    rw [e1]
    cases c with
    | zero => simp [Wn]
    | succ c => rw [List.getD_cons_succ, h2 c, Wn]
  · rw [Wn_top _ _ (by simp; omega)]
    rw [List.getD_eq_getElem?_getD, List.getElem?_eq_none (by rw [hl]; omega)]
    rfl
theorem pways_lc (ws : List Int) (o sm : Int) (ho : -10 ≤ o ∧ o ≤ 10) (hsm : 0 ≤ sm ∧ sm ≤ 1) {s0 s1 s2 s3 s4 : Sl} : lcD [7, 8] (.tu [.nm 7, .nm 8]) mYes (mBin fAdd (.ex (mBin fMul (.nm 7) (.nm 6))) (.ex (mBin fMul (.nm 8) (.nm 5)))) (zip2D (iL ws ++ [.int 0]) (.int 0 :: iL ws)) [s0, s1, s2, s3, s4, .val (.int sm), .val (.int o), .un, .un] =
    .ok (iL (stp o sm ws)) [s0, s1, s2, s3, s4, .val (.int sm), .val (.int o), .un, .un] := by
  have ez : zip2D (iL ws ++ [.int 0]) (.int 0 :: iL ws) = ((ws ++ [0]).zip (0 :: ws)).map fun z : Int × Int => PyData.tuple [.int z.1, .int z.2] := by
    rw [← zip2_map]
    simp
  rw [ez]
  have := lc_pre (vs := [7, 8]) (c := .tu [.nm 7, .nm 8]) (t := mYes) (m := mBin fAdd (.ex (mBin fMul (.nm 7) (.nm 6))) (.ex (mBin fMul (.nm 8) (.nm 5)))) (fun z : Int × Int => PyData.tuple [.int z.1, .int z.2]) (fun _ => [s0, s1, s2, s3, s4, .val (.int sm), .val (.int o), .un, .un]) (fun _ => true) (fun z : Int × Int => PyData.int (z.1 * o + z.2 * sm)) ((ws ++ [0]).zip (0 :: ws)) (by
    rintro pre' ⟨a, b⟩ suf' e'
    refine ⟨_, (by dsimp only; ((with_reducible (apply BCT.tu; apply BCTs.cons; apply BCT.nm; (iterate 7 apply FPut.s); exact FPut.u; apply BCTs.cons; apply BCT.nm; (iterate 8 apply FPut.s); exact FPut.u; exact BCTs.nil)))), ?_⟩
    ((with_reducible (apply g_yes)))
    refine ⟨rfl, ?_⟩
    ((with_reducible (apply ifk_t; apply g_bin; apply g_ex; apply g_bin; apply g_nm; (iterate 7 apply DAt.s); exact DAt.v; apply g_nm; (iterate 6 apply DAt.s); exact DAt.v; apply bink; apply Res.nm; (iterate 7 apply DAt.s); exact DAt.v; apply Res.nm; (iterate 6 apply DAt.s); exact DAt.v; apply oo_mul)); ((with_reducible refine mulOk_r ?_ ?_) <;> (first | decide | omega)); (with_reducible (apply datk_v; apply g_ex; apply g_bin; apply g_nm; (iterate 8 apply DAt.s); exact DAt.v; apply g_nm; (iterate 5 apply DAt.s); exact DAt.v; apply bink; apply Res.nm; (iterate 8 apply DAt.s); exact DAt.v; apply Res.nm; (iterate 5 apply DAt.s); exact DAt.v; apply oo_mul)); ((with_reducible refine mulOk_r ?_ ?_) <;> (first | decide | omega)); (with_reducible (apply datk_v; apply bink; (iterate 2 exact Res.dat); exact oo_add _ _)))
    exact ⟨rfl, by ((with_reducible ((iterate 2 apply UnR.cons); exact UnR.nil; (iterate 8 apply FPut.s); exact FPut.v; (iterate 7 apply FPut.s); exact FPut.v)))⟩)
  rw [List.filter_eq_self.mpr (fun _ _ => rfl)] at this
  rw [this, stp, iL, List.map_map]
  rfl
theorem pways_eq {S : List (List Int)} {d : List Int} (hl : S.length = d.length) (hS : S.length ≤ 3) (hs : ∀ s ∈ S, s.length ≤ 9) : ∃ ws, FE f_places_ways [.d (encP S), .d (enc1 d)] (.val (.list (iL ws))) none ∧ WsOk ((S.zip d).reverse.map os1) ws := by
  obtain ⟨ρ', h1, ws, hw, rfl⟩ := for_inv (c := .tu [.nm 3, .nm 4]) (b := lb_places_ways_1) (fun z : List Int × Int => PyData.tuple [enc1 z.1, .int z.2]) (fun pre ρ => ∃ ws, WsOk (pre.reverse.map os1) ws ∧ ρ = [.val (encP S), .val (enc1 d), .val (.list (iL ws)), .un, .un, .un, .un, .un, .un]) (xs := S.zip d)
    (ρ := [.val (encP S), .val (enc1 d), .val (.list (iL [1])), .un, .un, .un, .un, .un, .un]) ⟨[1], ⟨rfl, fun c => by cases c <;> simp [Wn]⟩, rfl⟩ (by
      rintro pre ⟨s, e⟩ suf ρ he ⟨ws, hw, rfl⟩
      have hm : (s, e) ∈ S.zip d := by rw [he]; simp
      have hsl := hs s (List.of_mem_zip hm).1
      have hpl : pre.length < S.length := by
        have := congrArg List.length he
        rw [List.length_zip] at this
        simp at this
        omega
      have hwl := hw.1
      rw [List.length_map, List.length_reverse] at hwl
      have hin : Op2 (ofB fInB) (.int e) (enc1 s) (.val (.bool (decide (e ∈ s)))) := oo_inT EO.int (by decide) e s
      have hst := hw.step ((s.length : Int) - (if decide (e ∈ s) = true then 1 else 0)) (if decide (e ∈ s) = true then 1 else 0)
      have hrev : (pre ++ [(s, e)]).reverse.map os1 = ((s.length : Int) - (if decide (e ∈ s) = true then 1 else 0), if decide (e ∈ s) = true then 1 else 0) :: pre.reverse.map os1 := by
        rw [List.reverse_append, List.map_append]; rfl
      rw [← hrev] at hst
      refine ⟨_, (by dsimp only; ((with_reducible (apply BCT.tu; apply BCTs.cons; apply BCT.nm; (iterate 3 apply FPut.s); exact FPut.u; apply BCTs.cons; apply BCT.nm; (iterate 4 apply FPut.s); exact FPut.u; exact BCTs.nil)))), ?_⟩
      unfold lb_places_ways_1
      ((with_reducible (apply s_fg; apply s_seq; apply s_setV; apply g_if; apply g_TB; apply g_bin; apply g_nm; (iterate 4 apply DAt.s); exact DAt.v; apply g_nm; (iterate 3 apply DAt.s); exact DAt.v; apply bink; apply Res.nm; (iterate 4 apply DAt.s); exact DAt.v; apply Res.nm; (iterate 3 apply DAt.s); exact DAt.v)))
      · exact hin
      ((with_reducible (apply boolk)))
      refine ifk_b (fun h0 => ?_) (fun h0 => ?_)
      · rw [if_pos h0] at hst
        ((with_reducible (apply g_C; apply datk_v; apply stk; (iterate 5 apply FPut.s); exact FPut.u; apply ks_nx; apply s_seq; apply s_setV; apply g_bin; apply g_ex; apply g_call; apply g_evC; apply g_nm; (iterate 3 apply DAt.s); exact DAt.v; apply g_evN; apply callk; apply ResAll.cons; apply Res.nm; (iterate 3 apply DAt.s); exact DAt.v; exact ResAll.nil; apply opn_1; exact oo_lenT _; apply datk_v; apply g_nm; (iterate 5 apply DAt.s); exact DAt.v; apply bink; exact Res.dat; apply Res.nm; (iterate 5 apply DAt.s); exact DAt.v; exact oo_sub _ _; apply datk_v; apply stk; (iterate 6 apply FPut.s); exact FPut.u; apply ks_nx; apply s_setV; apply g_lc; apply g_itG; apply g_elO; apply g_escE; apply g_lst; apply g_elS; apply g_nm; (iterate 2 apply DAt.s); exact DAt.v; apply stark; apply Res.nm; (iterate 2 apply DAt.s); exact DAt.v; exact It.l; apply g_elO; apply g_escE; apply g_C; apply datk_v; apply g_elN; apply And.intro (a := Fits _))); ((with_reducible apply fits_of); ((try simp only [List.length_append, List.length_cons, List.length_nil, List.length_map, List.length_replicate, List.length_reverse, List.length_dropLast]); (first | assumption | omega | decide))); (with_reducible (apply datk_o; apply g_elO; apply g_escE; apply g_lst; apply g_elO; apply g_escE; apply g_C; apply datk_v; apply g_elS; apply g_nm; (iterate 2 apply DAt.s); exact DAt.v; apply stark; apply Res.nm; (iterate 2 apply DAt.s); exact DAt.v; exact It.l; apply g_elN; apply And.intro (a := Fits _))); ((with_reducible apply fits_of); ((try simp only [List.length_append, List.length_cons, List.length_nil, List.length_map, List.length_replicate, List.length_reverse, List.length_dropLast]); (first | assumption | omega | decide))); (with_reducible (apply datk_o; apply g_elN; apply oplk; apply opl_zip2; (iterate 2 exact It.l); apply lck)))
        · exact fits_of (by rw [zip2D_len]; simp; omega)
        ((with_reducible ((iterate 2 apply UnR.cons); exact UnR.nil; (iterate 8 apply FPut.s); exact FPut.u; (iterate 7 apply FPut.s); exact FPut.u)))
        rw [List.append_nil, List.length_map]
        refine lce (pways_lc ws ((s.length : Int) - 1) 1 (by omega) (by omega)) ?_
        ((with_reducible (apply datk_o; apply stk; (iterate 2 apply FPut.s); exact FPut.v; apply kf_nx; apply Fgs.cons; (iterate 3 apply Fg1.s); exact Fg1.v; apply Fgs.cons; (iterate 4 apply Fg1.s); exact Fg1.v; apply Fgs.cons; (iterate 5 apply Fg1.s); exact Fg1.v; apply Fgs.cons; (iterate 6 apply Fg1.s); exact Fg1.v; exact Fgs.nil; apply qn_nx)))
        exact ⟨_, hst, rfl⟩
      · rw [if_neg (by rw [h0]; exact Bool.false_ne_true)] at hst
        ((with_reducible (apply g_C; apply datk_v; apply stk; (iterate 5 apply FPut.s); exact FPut.u; apply ks_nx; apply s_seq; apply s_setV; apply g_bin; apply g_ex; apply g_call; apply g_evC; apply g_nm; (iterate 3 apply DAt.s); exact DAt.v; apply g_evN; apply callk; apply ResAll.cons; apply Res.nm; (iterate 3 apply DAt.s); exact DAt.v; exact ResAll.nil; apply opn_1; exact oo_lenT _; apply datk_v; apply g_nm; (iterate 5 apply DAt.s); exact DAt.v; apply bink; exact Res.dat; apply Res.nm; (iterate 5 apply DAt.s); exact DAt.v; exact oo_sub _ _; apply datk_v; apply stk; (iterate 6 apply FPut.s); exact FPut.u; apply ks_nx; apply s_setV; apply g_lc; apply g_itG; apply g_elO; apply g_escE; apply g_lst; apply g_elS; apply g_nm; (iterate 2 apply DAt.s); exact DAt.v; apply stark; apply Res.nm; (iterate 2 apply DAt.s); exact DAt.v; exact It.l; apply g_elO; apply g_escE; apply g_C; apply datk_v; apply g_elN; apply And.intro (a := Fits _))); ((with_reducible apply fits_of); ((try simp only [List.length_append, List.length_cons, List.length_nil, List.length_map, List.length_replicate, List.length_reverse, List.length_dropLast]); (first | assumption | omega | decide))); (with_reducible (apply datk_o; apply g_elO; apply g_escE; apply g_lst; apply g_elO; apply g_escE; apply g_C; apply datk_v; apply g_elS; apply g_nm; (iterate 2 apply DAt.s); exact DAt.v; apply stark; apply Res.nm; (iterate 2 apply DAt.s); exact DAt.v; exact It.l; apply g_elN; apply And.intro (a := Fits _))); ((with_reducible apply fits_of); ((try simp only [List.length_append, List.length_cons, List.length_nil, List.length_map, List.length_replicate, List.length_reverse, List.length_dropLast]); (first | assumption | omega | decide))); (with_reducible (apply datk_o; apply g_elN; apply oplk; apply opl_zip2; (iterate 2 exact It.l); apply lck)))
        · exact fits_of (by rw [zip2D_len]; simp; omega)
        ((with_reducible ((iterate 2 apply UnR.cons); exact UnR.nil; (iterate 8 apply FPut.s); exact FPut.u; (iterate 7 apply FPut.s); exact FPut.u)))
        rw [List.append_nil, List.length_map]
        refine lce (pways_lc ws ((s.length : Int) - 0) 0 (by omega) (by omega)) ?_
        ((with_reducible (apply datk_o; apply stk; (iterate 2 apply FPut.s); exact FPut.v; apply kf_nx; apply Fgs.cons; (iterate 3 apply Fg1.s); exact Fg1.v; apply Fgs.cons; (iterate 4 apply Fg1.s); exact Fg1.v; apply Fgs.cons; (iterate 5 apply Fg1.s); exact Fg1.v; apply Fgs.cons; (iterate 6 apply Fg1.s); exact Fg1.v; exact Fgs.nil; apply qn_nx)))
        exact ⟨_, hst, rfl⟩)
  refine ⟨ws, ?_, hw⟩
  refine fe_of ?_
  unfold m_places_ways
  show RS _ [.val (encP S), .val (enc1 d), .un, .un, .un, .un, .un, .un, .un] _
  ((with_reducible (apply s_seq; apply s_setV; apply g_lst; apply g_elO; apply g_escE; apply g_C; apply datk_v; apply g_elN; apply And.intro (a := Fits _))); ((with_reducible apply fits_of); ((try simp only [List.length_append, List.length_cons, List.length_nil, List.length_map, List.length_replicate, List.length_reverse, List.length_dropLast]); (first | assumption | omega | decide))); (with_reducible (apply datk_o; apply stk; (iterate 2 apply FPut.s); exact FPut.u; apply ks_nx; apply s_seq; apply s_for; apply g_itG; apply g_elO; apply g_escN; apply g_name; exact NmAt.v; apply datk_v; apply g_elO; apply g_escN; apply g_name; apply NmAt.s; exact NmAt.v; apply datk_v; apply g_elN; apply oplk; apply opl_zip2; (iterate 2 exact It.t))))
  rw [zip2_map]
  refine forK h1 ?_
  ((with_reducible (apply ks_nx; apply s_retNm; (iterate 2 apply RtAt.s); exact RtAt.v; apply qd_rt; (iterate 3 apply IoR.val); (iterate 6 apply IoR.un); exact IoR.nil)))
  rfl

end LW
set_option Elab.async false
set_option linter.all false
set_option maxRecDepth 100000
set_option maxHeartbeats 4000000
namespace LW
open PySem PySem.Spec PyProof.Rows L2 RT DL
/-! the last figures -/
def dn (L : Nat) : List Int := (List.range L).map fun k : Nat => (L : Int) - 1 - (k : Int)
theorem dn_split {L : Nat} {x : Int} {pre suf : List Int} (h : dn L = pre ++ x :: suf) : x = (L : Int) - 1 - (pre.length : Int) ∧ pre.length < L := by
  have h1 : (dn L)[pre.length]? = some x := by rw [h]; simp
  have h2 : pre.length < (dn L).length := (List.getElem?_eq_some_iff.mp h1).1
  unfold dn at h1 h2
  rw [List.length_map, List.length_range] at h2
  rw [List.getElem?_map, List.getElem?_range h2] at h1
  simp at h1
  exact ⟨by omega, h2⟩
theorem opl_r3 {L : Nat} (h : L ≤ 1000) : OpL gR3 [.int ((L : Int) - 1), .int (-1), .int (-1)] ((dn L).map PyData.int) := by
  unfold OpL gR3
  dsimp only
  rw [if_pos (by rw [Bool.and_eq_true, Bool.and_eq_true]; exact ⟨⟨inR_of (by omega) (by omega), inR_of (by decide) (by decide)⟩, decide_eq_true rfl⟩)]
  unfold rngC dn
  rw [List.map_map, show ((L : Int) - 1 - -1).toNat = L by omega]
  congr 1
  refine List.map_congr_left fun k hk => ?_
  show PyData.int ((L : Int) - 1 + (k : Nat) * (-1)) = PyData.int ((L : Int) - 1 - (k : Int))
  congr 1
  omega
def plen (l : List (List Int × Int)) : Nat := (l.map fun z => z.1.length).foldr (· * ·) 1
def Tn : List (List Int × Int) → List Int
  | [] => [1]
  | (s, e) :: l => ((plen l : Nat) * ((s.length : Int) - (if decide (e ∈ s) = true then 1 else 0))) :: (if decide (e ∈ s) = true then Tn l else List.replicate (l.length + 1) 0)
theorem plen_le : ∀ (l : List (List Int × Int)), (∀ z ∈ l, z.1.length ≤ 9) → plen l ≤ 9 ^ l.length
  | [], _ => Nat.le_refl _
  | z :: l, h => by
    have h1 := h z List.mem_cons_self
    have h2 := plen_le l fun y hy => h y (List.mem_cons_of_mem _ hy)
    show z.1.length * plen l ≤ _
    rw [List.length_cons, Nat.pow_succ, Nat.mul_comm]
    exact Nat.mul_le_mul h2 h1
theorem foldl_mul : ∀ (l : List Nat) (a : Nat), l.foldl (· * ·) a = a * l.foldr (· * ·) 1
  | [], a => by simp
  | x :: l, a => by rw [List.foldl_cons, foldl_mul l, List.foldr_cons, Nat.mul_assoc]
theorem foldr_rev : ∀ (l : List Nat), l.reverse.foldr (· * ·) 1 = l.foldr (· * ·) 1 := fun l => by
  rw [List.foldr_reverse]
  have := foldl_mul l 1
  rw [Nat.one_mul] at this
  rw [← this]
  congr 1
  funext x y
  exact Nat.mul_comm _ _
theorem ew_loop1 {S : List (List Int)} (hs : ∀ s ∈ S, s.length ≤ 9) {s1 s2 s5 s6 : Sl} : forD (.nm 4) lb_end_ways_1 (S.map enc1) [.val (encP S), s1, s2, .val (.int (1 : Nat)), .un, s5, s6] = .nx [.val (encP S), s1, s2, .val (.int ((S.map List.length).foldr (· * ·) 1 : Nat)), .un, s5, s6] := by
  have key := for_pre (c := .nm 4) (b := lb_end_ways_1) enc1 (fun pre => [.val (encP S), s1, s2, .val (.int (lp (pre.map List.length) : Nat)), .un, s5, s6]) S (by
    intro pre s suf e
    have hsl := hs s (by rw [e]; simp)
    have hsl' : (iL s).length ≤ 9 := by rw [List.length_map]; exact hsl
    refine ⟨_, (by ((with_reducible (apply BCT.nm; (iterate 4 apply FPut.s); exact FPut.u)))), ?_⟩
    unfold lb_end_ways_1
    ((with_reducible (apply s_fg; apply s_aug; (iterate 3 apply DAt.s); exact DAt.v; apply g_ex; apply g_call; apply g_evC; apply g_nm; (iterate 4 apply DAt.s); exact DAt.v; apply g_evN; apply callk; apply ResAll.cons; apply Res.nm; (iterate 4 apply DAt.s); exact DAt.v; exact ResAll.nil; apply opn_1; exact oo_lenT _; apply datk_v; apply augk; (iterate 3 apply DAt.s); exact DAt.v; exact Res.dat; apply oo_mulI)); ((with_reducible refine mulOk_r ?_ ?_) <;> (first | decide | omega)); (with_reducible (apply stk; (iterate 3 apply FPut.s); exact FPut.v; apply kf_nx; apply Fgs.cons; (iterate 4 apply Fg1.s); exact Fg1.v; exact Fgs.nil; apply qn_nx)))
    rw [List.map_append, List.map_singleton, lp_snoc, Int.natCast_mul, List.length_map])
  have e : lp (S.map List.length) = (S.map List.length).foldr (· * ·) 1 := by unfold lp; rw [foldl_mul, Nat.one_mul]
  rw [e] at key
  exact key
theorem ends_eq {S : List (List Int)} {d : List Int} (hl : S.length = d.length) (hS : S.length ≤ 3) (hs : ∀ s ∈ S, s.length ≤ 9 ∧ s ≠ []) : FE f_end_ways [.d (encP S), .d (enc1 d)] (.own (.ls (iL (Tn (S.zip d).reverse)))) none := by
  have hzl : (S.zip d).length = S.length := by rw [List.length_zip]; omega
  have hrl : (S.zip d).reverse.length = S.length := by rw [List.length_reverse, hzl]
  have hz9 : ∀ z ∈ (S.zip d).reverse, z.1.length ≤ 9 := fun z hz => (hs z.1 (List.of_mem_zip (List.mem_reverse.mp hz)).1).1
  have key := for_ret (c := .nm 5) (b := lb_end_ways_2) PyData.int (fun pre ρ => ∃ ways, Tn (S.zip d).reverse = ways ++ Tn ((S.zip d).reverse.drop pre.length) ∧ ways.length = pre.length ∧ ρ = [.val (encP S), .val (enc1 d), .own (.ls (iL ways)), .val (.int (plen ((S.zip d).reverse.drop pre.length) : Nat)), .un, .un, .un])
    (fun r ρ => r = .own (.ls (iL (Tn (S.zip d).reverse))) ∧ IoR ρ none) (xs := dn S.length)
    (ρ := [.val (encP S), .val (enc1 d), .own (.ls (iL [])), .val (.int (plen (S.zip d).reverse : Nat)), .un, .un, .un]) ⟨[], rfl, rfl, rfl⟩ (by
      rintro pre x suf ρ e ⟨ways, hw, hwl, rfl⟩
      obtain ⟨hx, hpl⟩ := dn_split e
      obtain ⟨s, e', hse⟩ : ∃ s e', (S.zip d).reverse[pre.length]? = some (s, e') := ⟨_, _, List.getElem?_eq_getElem (by omega)⟩
      have hse2 := hse
      rw [List.getElem?_reverse (by omega), hzl] at hse2
      obtain ⟨hs1, hd1⟩ := List.getElem?_zip_eq_some.mp hse2
      dsimp only at hs1 hd1
      have xS : IxAt (S.map enc1) x (enc1 s) := ixAt_map (n := S.length - 1 - pre.length) (by omega) hs1
      have xD : IxAt (iL d) x (.int e') := ixAt_map (n := S.length - 1 - pre.length) (by omega) hd1
      obtain ⟨hs9, hsn⟩ := hs s (List.mem_of_getElem? hs1)
      have hs0 : 0 < s.length := List.length_pos_iff.mpr hsn
      have hdrop : (S.zip d).reverse.drop pre.length = (s, e') :: (S.zip d).reverse.drop (pre.length + 1) := by
        have hlt : pre.length < (S.zip d).reverse.length := by omega
        rw [List.drop_eq_getElem_cons hlt]
        have : (S.zip d).reverse[pre.length] = (s, e') := by
          have := List.getElem?_eq_getElem hlt
          rw [hse] at this
          exact (Option.some.inj this).symm
        rw [this]
      have hdl : ((S.zip d).reverse.drop (pre.length + 1)).length = S.length - 1 - pre.length := by rw [List.length_drop]; omega
      generalize hR : (S.zip d).reverse.drop (pre.length + 1) = R at *
      rw [hdrop] at hw
      have hR9 : plen R ≤ 9 ^ R.length := plen_le R fun z hz => hz9 z (by rw [← hR] at hz; exact List.mem_of_mem_drop hz)
      have hR99 : 9 ^ R.length ≤ 9 ^ 3 := Nat.pow_le_pow_right (by decide) (by omega)
      have hdiv : ((plen ((s, e') :: R) : Nat) : Int) / ((iL s).length : Nat) = (plen R : Nat) := by
        show ((s.length * plen R : Nat) : Int) / _ = _
        rw [List.length_map, Int.natCast_mul]
        exact Int.mul_ediv_cancel_left _ (by omega)
      have hsl' : (iL s).length ≤ 9 ∧ 0 < (iL s).length := by rw [List.length_map]; exact ⟨hs9, hs0⟩
      have hin : Op2 (ofB fInB) (.int e') (enc1 s) (.val (.bool (decide (e' ∈ s)))) := oo_inT EO.int (by decide) e' s
      rw [hdrop]
      refine ⟨_, (by ((with_reducible (apply BCT.nm; (iterate 5 apply FPut.s); exact FPut.u)))), ?_⟩
      unfold lb_end_ways_2
      ((with_reducible (apply s_fg; apply s_seq; apply s_setV; apply g_bin; apply g_nm; exact DAt.v; apply g_nm; (iterate 5 apply DAt.s); exact DAt.v; apply bink; apply Res.nm; exact DAt.v; apply Res.nm; (iterate 5 apply DAt.s); exact DAt.v; apply oo_ixT; assumption; apply datk_v; apply stk; (iterate 4 apply FPut.s); exact FPut.u; apply ks_nx; apply s_seq; apply s_aug; (iterate 3 apply DAt.s); exact DAt.v; apply g_ex; apply g_call; apply g_evC; apply g_nm; (iterate 4 apply DAt.s); exact DAt.v; apply g_evN; apply callk; apply ResAll.cons; apply Res.nm; (iterate 4 apply DAt.s); exact DAt.v; exact ResAll.nil; apply opn_1; exact oo_lenT _; apply datk_v; apply augk; (iterate 3 apply DAt.s); exact DAt.v; exact Res.dat; apply oo_divP)); (refine ⟨?_, ?_⟩ <;> (first | decide | omega)); (with_reducible (apply stk; (iterate 3 apply FPut.s); exact FPut.v; apply ks_nx; apply s_seq; apply s_setV; apply g_if; apply g_TB; apply g_bin; apply g_ex; apply g_bin; apply g_nm; apply DAt.s; exact DAt.v; apply g_nm; (iterate 5 apply DAt.s); exact DAt.v; apply bink; apply Res.nm; apply DAt.s; exact DAt.v; apply Res.nm; (iterate 5 apply DAt.s); exact DAt.v; apply oo_ixT; assumption; apply datk_v; apply g_nm; (iterate 4 apply DAt.s); exact DAt.v; apply bink; exact Res.dat; apply Res.nm; (iterate 4 apply DAt.s); exact DAt.v; assumption; apply boolk)))
      rw [hdiv]
      skip
      refine ifk_b (fun h0 => ?_) (fun h0 => ?_)
      · have hT : Tn ((s, e') :: R) = ((plen R : Nat) * ((s.length : Int) - 1)) :: Tn R := by rw [Tn, if_pos h0, if_pos h0]
        ((with_reducible (apply g_C; apply datk_v; apply stk; (iterate 6 apply FPut.s); exact FPut.u; apply ks_nx; apply s_seq; apply s_drop; apply g_app; (iterate 2 apply LAt.s); exact LAt.o; apply g_bin; apply g_nm; (iterate 3 apply DAt.s); exact DAt.v; apply g_ex; apply g_bin; apply g_ex; apply g_call; apply g_evC; apply g_nm; (iterate 4 apply DAt.s); exact DAt.v; apply g_evN; apply callk; apply ResAll.cons; apply Res.nm; (iterate 4 apply DAt.s); exact DAt.v; exact ResAll.nil; apply opn_1; exact oo_lenT _; apply datk_v; apply g_nm; (iterate 6 apply DAt.s); exact DAt.v; apply bink; exact Res.dat; apply Res.nm; (iterate 6 apply DAt.s); exact DAt.v; exact oo_sub _ _; apply datk_v; apply bink; apply Res.nm; (iterate 3 apply DAt.s); exact DAt.v; exact Res.dat; apply oo_mul)); ((with_reducible refine mulOk_r ?_ ?_) <;> (first | decide | omega)); (with_reducible (apply datk_v; apply appk; (iterate 2 apply LAt.s); exact LAt.o)); ((with_reducible apply fits1_of); ((try simp only [List.length_append, List.length_cons, List.length_nil, List.length_map, List.length_replicate, List.length_reverse, List.length_dropLast]); (first | assumption | omega | decide))); (with_reducible (apply ks_nx; apply s_ite; apply g_TB; apply g_bin; apply g_nm; (iterate 6 apply DAt.s); exact DAt.v; apply g_ex; apply g_C; apply datk_v; apply bink; apply Res.nm; (iterate 6 apply DAt.s); exact DAt.v; exact Res.dat; exact oo_eq _ _; apply boolk)))
        refine ifk_n (by decide) ?_
        ((with_reducible (apply s_sk; apply kf_nx; apply Fgs.cons; (iterate 4 apply Fg1.s); exact Fg1.v; apply Fgs.cons; (iterate 5 apply Fg1.s); exact Fg1.v; apply Fgs.cons; (iterate 6 apply Fg1.s); exact Fg1.v; exact Fgs.nil; apply qr_nx)))
        rw [List.length_map]
        exact ⟨ways ++ [(plen R : Nat) * ((s.length : Int) - 1)], by rw [hw, hT, List.length_append, List.length_singleton, hR, List.append_assoc]; rfl, by simp [hwl], by rw [List.length_append, List.length_singleton, hR, iL_snoc]⟩
      · have hT : Tn ((s, e') :: R) = ((plen R : Nat) * ((s.length : Int) - 0)) :: List.replicate (R.length + 1) 0 := by rw [Tn, if_neg (by rw [h0]; exact Bool.false_ne_true), if_neg (by rw [h0]; exact Bool.false_ne_true)]
        ((with_reducible (apply g_C; apply datk_v; apply stk; (iterate 6 apply FPut.s); exact FPut.u; apply ks_nx; apply s_seq; apply s_drop; apply g_app; (iterate 2 apply LAt.s); exact LAt.o; apply g_bin; apply g_nm; (iterate 3 apply DAt.s); exact DAt.v; apply g_ex; apply g_bin; apply g_ex; apply g_call; apply g_evC; apply g_nm; (iterate 4 apply DAt.s); exact DAt.v; apply g_evN; apply callk; apply ResAll.cons; apply Res.nm; (iterate 4 apply DAt.s); exact DAt.v; exact ResAll.nil; apply opn_1; exact oo_lenT _; apply datk_v; apply g_nm; (iterate 6 apply DAt.s); exact DAt.v; apply bink; exact Res.dat; apply Res.nm; (iterate 6 apply DAt.s); exact DAt.v; exact oo_sub _ _; apply datk_v; apply bink; apply Res.nm; (iterate 3 apply DAt.s); exact DAt.v; exact Res.dat; apply oo_mul)); ((with_reducible refine mulOk_r ?_ ?_) <;> (first | decide | omega)); (with_reducible (apply datk_v; apply appk; (iterate 2 apply LAt.s); exact LAt.o)); ((with_reducible apply fits1_of); ((try simp only [List.length_append, List.length_cons, List.length_nil, List.length_map, List.length_replicate, List.length_reverse, List.length_dropLast]); (first | assumption | omega | decide))); (with_reducible (apply ks_nx; apply s_ite; apply g_TB; apply g_bin; apply g_nm; (iterate 6 apply DAt.s); exact DAt.v; apply g_ex; apply g_C; apply datk_v; apply bink; apply Res.nm; (iterate 6 apply DAt.s); exact DAt.v; exact Res.dat; exact oo_eq _ _; apply boolk)))
        refine ifk_y (by decide) ?_
        ((with_reducible (apply s_ret; apply g_lst; apply g_elS; apply g_nm; (iterate 2 apply DAt.s); exact DAt.o; apply stark; apply Res.nm; (iterate 2 apply DAt.s); exact DAt.o; exact It.l; apply g_elS; apply g_ex; apply g_bin; apply g_ex; apply g_lst; apply g_elO; apply g_escE; apply g_C; apply datk_v; apply g_elN; apply And.intro (a := Fits _))); ((with_reducible apply fits_of); ((try simp only [List.length_append, List.length_cons, List.length_nil, List.length_map, List.length_replicate, List.length_reverse, List.length_dropLast]); (first | assumption | omega | decide))); (with_reducible (apply datk_o; apply g_ex; apply g_bin; apply g_nm; (iterate 5 apply DAt.s); exact DAt.v; apply g_ex; apply g_C; apply datk_v; apply bink; apply Res.nm; (iterate 5 apply DAt.s); exact DAt.v; exact Res.dat; exact oo_add _ _; apply datk_v; apply bink; (iterate 2 exact Res.dat))))
        · exact oo_rep1 (n := R.length + 1) (by omega) (by omega)
        ((with_reducible (apply datk_o; apply stark; exact Res.dat; exact It.l; apply g_elN; apply And.intro (a := Fits _))); ((with_reducible apply fits_of); ((try simp only [List.length_append, List.length_cons, List.length_nil, List.length_map, List.length_replicate, List.length_reverse, List.length_dropLast]); (first | assumption | omega | decide))); (with_reducible (apply kf_rt; apply qr_rt)))
        refine ⟨?_, by ((with_reducible ((iterate 2 apply IoR.val); apply IoR.own; (iterate 4 apply IoR.val); exact IoR.nil)))⟩
        rw [hw, hT, List.length_map, iL_snoc, List.append_nil]
        simp [iL, List.map_append, List.map_replicate])
  refine fe_of ?_
  unfold m_end_ways
  show RS _ [.val (encP S), .val (enc1 d), .un, .un, .un, .un, .un] _
  ((with_reducible (apply s_seq; apply s_set; apply g_lst; apply g_elN; apply And.intro (a := Fits _))); ((with_reducible apply fits_of); ((try simp only [List.length_append, List.length_cons, List.length_nil, List.length_map, List.length_replicate, List.length_reverse, List.length_dropLast]); (first | assumption | omega | decide))); (with_reducible (apply slk_o; apply stk; (iterate 2 apply FPut.s); exact FPut.u; apply ks_nx; apply s_seq; apply s_setV; apply g_C; apply datk_v; apply stk; (iterate 3 apply FPut.s); exact FPut.u; apply ks_nx; apply s_seq; apply s_for; apply g_it; apply g_escN; apply g_name; exact NmAt.v; apply datk_v; apply itk; exact It.t)))
  refine forK (ew_loop1 fun s hs' => (hs s hs').1) ?_
  ((with_reducible (apply ks_nx; apply s_seq; apply s_for; apply g_rng; apply g_evC; apply g_ex; apply g_bin; apply g_ex; apply g_call; apply g_evC; apply g_nm; exact DAt.v; apply g_evN; apply callk; apply ResAll.cons; apply Res.nm; exact DAt.v; exact ResAll.nil; apply opn_1; exact oo_lenT _; apply datk_v; apply g_ex; apply g_C; apply datk_v; apply bink; (iterate 2 exact Res.dat); exact oo_sub _ _; apply datk_v; apply g_evC; apply g_ex; apply g_un; apply g_ex; apply g_C; apply datk_v; apply unk; exact Res.dat; exact oo_neg _; apply datk_v; apply g_evC; apply g_ex; apply g_un; apply g_ex; apply g_C; apply datk_v; apply unk; exact Res.dat; exact oo_neg _; apply datk_v; apply g_evN; apply rngk; apply ResAll.cons; exact Res.dat; apply ResAll.cons; exact Res.dat; apply ResAll.cons; exact Res.dat; exact ResAll.nil)))
  · exact opl_r3 (by rw [List.length_map]; omega)
  skip
  rw [List.length_map]
  have ep : (S.map List.length).foldr (· * ·) 1 = plen (S.zip d).reverse := by
    unfold plen
    rw [List.map_reverse, foldr_rev]
    have : (S.zip d).map (fun z => z.1.length) = S.map List.length := by
      rw [show (fun z : List Int × Int => z.1.length) = List.length ∘ Prod.fst from rfl, ← List.map_map, List.map_fst_zip (by omega)]
    rw [this]
  rw [ep]
  rcases key with ⟨ρ', h1, ways, hw, hwl, rfl⟩ | ⟨r, ρ', h1, rfl, h2⟩
  · have hdl : (dn S.length).length = S.length := by simp [dn]
    rw [hdl] at hwl
    refine forK h1 ?_
    ((with_reducible (apply ks_nx; apply s_ret; apply g_lst; apply g_elS; apply g_nm; (iterate 2 apply DAt.s); exact DAt.o; apply stark; apply Res.nm; (iterate 2 apply DAt.s); exact DAt.o; exact It.l; apply g_elO; apply g_escE; apply g_C; apply datk_v; apply g_elN; apply And.intro (a := Fits _))); ((with_reducible apply fits_of); ((try simp only [List.length_append, List.length_cons, List.length_nil, List.length_map, List.length_replicate, List.length_reverse, List.length_dropLast]); (first | assumption | omega | decide))); (with_reducible (apply qd_rt; (iterate 2 apply IoR.val); apply IoR.own; apply IoR.val; (iterate 3 apply IoR.un); exact IoR.nil)))
    rw [hdl, List.drop_of_length_le (by omega)] at hw
    rw [hw]
    simp [iL, Tn]
  · refine forK h1 ?_
    ((with_reducible (apply ks_rt; apply qd_rt)))
    · exact h2
    rfl

end LW
set_option Elab.async false
set_option linter.all false
set_option maxRecDepth 100000
set_option maxHeartbeats 4000000
namespace LW
open PySem PySem.Spec PyProof.Rows L2 RT DL
/-! the ways of a part -/
def chW (s e : List Int) (k : Nat) : List Int := (rng 0 (k + 1)).map fun c => ((chN (s.filter fun x => decide (x ∈ e)).length c.toNat : Nat) : Int) * ((chN (s.length - (s.filter fun x => decide (x ∈ e)).length) ((k : Int) - c).toNat : Nat) : Int)
def PwOk (f : Fd) (sp : SPt) (e : List Int) (ws : List Int) : Prop := match sp with
  | .ch s => ws = chW s e f.k
  | .pl ps => match f.kd with
    | .fi => WsOk ((ps.zip e).reverse.map os1) ws
    | _ => ws = Tn (ps.zip e).reverse
theorem pw_eq {f : Fd} (hf : f.ok) {sp : SPt} (hs : okSP f sp) {e : List Int} (he : e ∈ parts f) : ∃ (ws : List Int) (r : Rv), FE f_part_ways [.d (encF f), .d (encSP sp), .d (enc1 e)] r none ∧ r.dat = .list (iL ws) ∧ PwOk f sp e ws := by
  have hel := partsN_len f f.k e he
  obtain ⟨f1, f2, f3, f4, f5⟩ := id hf
  cases sp with
  | ch s =>
    obtain ⟨hk, hS⟩ := hs
    have hsl := hS.len
    have hil := List.length_filter_le (fun x => decide (x ∈ e)) s
    refine ⟨chW s e f.k, .own (.ls (iL (chW s e f.k))), ?_, rfl, rfl⟩
    refine fe_of ?_
    unfold m_part_ways
    show RS _ [.val (encF f), .val (enc1 s), .val (enc1 e), .un, .un, .un, .un, .un, .un, .un] _
    rw [encF, hk]
    ((with_reducible (apply s_seq; apply s_asg; apply g_name; exact NmAt.v; apply datk_v; apply asgk; apply BCT.tu; apply BCTs.cons; apply BCT.nm; (iterate 3 apply FPut.s); exact FPut.u; apply BCTs.cons; apply BCT.nm; (iterate 4 apply FPut.s); exact FPut.u; apply BCTs.cons; apply BCT.nm; (iterate 5 apply FPut.s); exact FPut.u; exact BCTs.nil; apply ks_nx; apply s_seq; apply s_ite; apply g_TB; apply g_bin; apply g_nm; (iterate 3 apply DAt.s); exact DAt.v; apply g_ex; apply g_C; apply datk_v; apply bink; apply Res.nm; (iterate 3 apply DAt.s); exact DAt.v; exact Res.dat; exact oo_eqS _ _; apply boolk)); (refine ifk_sn (by decide) ?_); (with_reducible (apply s_sk; apply ks_nx; apply s_seq; apply s_ite; apply g_TB; apply g_bin; apply g_nm; (iterate 3 apply DAt.s); exact DAt.v; apply g_ex; apply g_C; apply datk_v; apply bink; apply Res.nm; (iterate 3 apply DAt.s); exact DAt.v; exact Res.dat; exact oo_eqS _ _; apply boolk)); (refine ifk_sn (by decide) ?_); (with_reducible (apply s_sk; apply ks_nx; apply s_seq; apply s_setV; apply g_call; apply g_evC; apply g_ex; apply g_lc; apply g_it; apply g_escN; apply g_name; apply NmAt.s; exact NmAt.v; apply datk_v; apply itk; exact It.t; apply lck)); ((with_reducible apply fits_of); ((try simp only [List.length_append, List.length_cons, List.length_nil, List.length_map, List.length_replicate, List.length_reverse, List.length_dropLast]); (first | assumption | omega | decide))); (with_reducible (apply UnR.cons; exact UnR.nil; (iterate 7 apply FPut.s); exact FPut.u)))
    refine lce (lc_pre (vs := [7]) (c := .nm 7) PyData.int (fun _ => _) (fun x => decide (x ∈ e)) (fun _ => PyData.int 1) s fun pre x suf h => ?_) ?_
    · refine ⟨_, .nm (by ((with_reducible ((iterate 7 apply FPut.s); exact FPut.u)))), ?_⟩
      ((with_reducible (apply g_TB; apply g_bin; apply g_nm; (iterate 7 apply DAt.s); exact DAt.v; apply g_nm; (iterate 2 apply DAt.s); exact DAt.v; apply bink; apply Res.nm; (iterate 7 apply DAt.s); exact DAt.v; apply Res.nm; (iterate 2 apply DAt.s); exact DAt.v)))
      · exact oo_inT EO.int (by decide) x e
      ((with_reducible (apply boolk)))
      refine ⟨rfl, ?_⟩
      refine ifk_b (fun h0 => ?_) (fun h0 => ?_)
      · ((with_reducible (apply g_C)))
        exact ⟨rfl, by ((with_reducible (apply UnR.cons; exact UnR.nil; (iterate 7 apply FPut.s); exact FPut.v)))⟩
      · ((with_reducible (apply UnR.cons; exact UnR.nil; (iterate 7 apply FPut.s); exact FPut.v)))
    have hrl : (rng 0 ((f.k : Int) + 1)).length ≤ 4 := by rw [rng_len]; omega
    ((with_reducible (apply datk_o; apply g_evN; apply callk; apply ResAll.cons; exact Res.dat; exact ResAll.nil; apply opn_1; exact oo_lenL _; apply datk_v; apply stk; (iterate 6 apply FPut.s); exact FPut.u; apply ks_nx; apply s_seq; apply s_setV; apply g_bin; apply g_ex; apply g_call; apply g_evC; apply g_nm; apply DAt.s; exact DAt.v; apply g_evN; apply callk; apply ResAll.cons; apply Res.nm; apply DAt.s; exact DAt.v; exact ResAll.nil; apply opn_1; exact oo_lenT _; apply datk_v; apply g_nm; (iterate 6 apply DAt.s); exact DAt.v; apply bink; exact Res.dat; apply Res.nm; (iterate 6 apply DAt.s); exact DAt.v; exact oo_sub _ _; apply datk_v; apply stk; (iterate 8 apply FPut.s); exact FPut.u; apply ks_nx; apply s_ret; apply g_lc; apply g_rng; apply g_evC; apply g_ex; apply g_bin; apply g_nm; (iterate 5 apply DAt.s); exact DAt.v; apply g_ex; apply g_C; apply datk_v; apply bink; apply Res.nm; (iterate 5 apply DAt.s); exact DAt.v; exact Res.dat; exact oo_add _ _; apply datk_v; apply g_evN; apply rngk; apply ResAll.cons; exact Res.dat; exact ResAll.nil; apply opl_r1)); (refine ⟨?_, ?_⟩ <;> (first | decide | omega)); (with_reducible (apply lck)); ((with_reducible apply fits_of); ((try simp only [List.length_append, List.length_cons, List.length_nil, List.length_map, List.length_replicate, List.length_reverse, List.length_dropLast]); (first | assumption | omega | decide))); (with_reducible (apply UnR.cons; exact UnR.nil; (iterate 9 apply FPut.s); exact FPut.u)))
    rw [List.length_map, List.length_map]
    have hcl := fun (a : Nat) (ha : a < 10) (b : Nat) (hb : b < 10) => ch_le a ha b hb
    skip
    refine lce (lc_pre (vs := [9]) (c := .nm 9) PyData.int (fun _ => _) (fun _ => true) (fun c => PyData.int (((chN (s.filter fun x => decide (x ∈ e)).length c.toNat : Nat) : Int) * ((chN (s.length - (s.filter fun x => decide (x ∈ e)).length) ((f.k : Int) - c).toNat : Nat) : Int))) (rng 0 ((f.k : Int) + 1)) fun pre c suf h => ?_) ?_
    · have hc := rng_split h
      refine ⟨_, .nm (by ((with_reducible ((iterate 9 apply FPut.s); exact FPut.u)))), ?_⟩
      ((with_reducible (apply g_yes)))
      refine ⟨rfl, ?_⟩
      have c1 := ch_le (s.filter fun x => decide (x ∈ e)).length (by omega) c.toNat (by omega)
      have c2 := ch_le ((s.length : Int) - ((s.filter fun x => decide (x ∈ e)).length : Nat)).toNat (by omega) ((f.k : Int) - c).toNat (by omega)
      ((with_reducible (apply ifk_t; apply g_bin; apply g_ex; apply g_call; apply g_evC; apply g_nm; (iterate 6 apply DAt.s); exact DAt.v; apply g_evC; apply g_nm; (iterate 9 apply DAt.s); exact DAt.v; apply g_evN; apply callk; apply ResAll.cons; apply Res.nm; (iterate 6 apply DAt.s); exact DAt.v; apply ResAll.cons; apply Res.nm; (iterate 9 apply DAt.s); exact DAt.v; exact ResAll.nil; apply opn_2)))
      · exact comb_eq (by omega) (by omega)
      ((with_reducible (apply datk_v; apply g_ex; apply g_call; apply g_evC; apply g_nm; (iterate 8 apply DAt.s); exact DAt.v; apply g_evC; apply g_ex; apply g_bin; apply g_nm; (iterate 5 apply DAt.s); exact DAt.v; apply g_nm; (iterate 9 apply DAt.s); exact DAt.v; apply bink; apply Res.nm; (iterate 5 apply DAt.s); exact DAt.v; apply Res.nm; (iterate 9 apply DAt.s); exact DAt.v; exact oo_sub _ _; apply datk_v; apply g_evN; apply callk; apply ResAll.cons; apply Res.nm; (iterate 8 apply DAt.s); exact DAt.v; apply ResAll.cons; exact Res.dat; exact ResAll.nil; apply opn_2)))
      · exact comb_eq (by omega) (by omega)
      ((with_reducible (apply datk_v; apply bink; (iterate 2 exact Res.dat); apply oo_mul)); ((with_reducible refine mulOk_r ?_ ?_) <;> (first | decide | omega)))
      refine ⟨?_, by ((with_reducible (apply UnR.cons; exact UnR.nil; (iterate 9 apply FPut.s); exact FPut.v)))⟩
      rw [Int.toNat_natCast]
      rw [show ((s.length : Int) - ((s.filter fun x => decide (x ∈ e)).length : Nat)).toNat = s.length - (s.filter fun x => decide (x ∈ e)).length by omega]
      rfl
    ((with_reducible (apply qd_rt; (iterate 7 apply IoR.val); apply IoR.un; apply IoR.val; apply IoR.un; exact IoR.nil)))
    rw [List.filter_eq_self.mpr (fun _ _ => rfl)]
    unfold chW iL
    rw [List.map_map]
    rfl
  | pl ps =>
    obtain ⟨hk, hpl, hps⟩ := hs
    cases hq : f.kd with
    | ch => exact absurd hq hk
    | fi =>
      obtain ⟨ws, h1, h2⟩ := pways_eq (S := ps) (d := e) (by omega) (by omega) fun s hs => by have := (hps s hs).1.len; omega
      refine ⟨ws, .val (.list (iL ws)), ?_, rfl, by unfold PwOk; dsimp only; rw [hq]; exact h2⟩
      refine fe_of ?_
      unfold m_part_ways
      show RS _ [.val (encF f), .val (encP ps), .val (enc1 e), .un, .un, .un, .un, .un, .un, .un] _
      rw [encF, hq]
      ((with_reducible (apply s_seq; apply s_asg; apply g_name; exact NmAt.v; apply datk_v; apply asgk; apply BCT.tu; apply BCTs.cons; apply BCT.nm; (iterate 3 apply FPut.s); exact FPut.u; apply BCTs.cons; apply BCT.nm; (iterate 4 apply FPut.s); exact FPut.u; apply BCTs.cons; apply BCT.nm; (iterate 5 apply FPut.s); exact FPut.u; exact BCTs.nil; apply ks_nx; apply s_seq; apply s_ite; apply g_TB; apply g_bin; apply g_nm; (iterate 3 apply DAt.s); exact DAt.v; apply g_ex; apply g_C; apply datk_v; apply bink; apply Res.nm; (iterate 3 apply DAt.s); exact DAt.v; exact Res.dat; exact oo_eqS _ _; apply boolk)); (refine ifk_sy (by decide) ?_); (with_reducible (apply s_ret; apply g_def; apply g_caV; apply g_escN; apply g_name; apply NmAt.s; exact NmAt.v; apply datk_v; apply g_caV; apply g_escN; apply g_name; (iterate 2 apply NmAt.s); exact NmAt.v; apply datk_v; apply g_caN; apply defk_d; (iterate 2 apply RA.d); exact RA.nil)); ((with_reducible apply DfO.d); exact ⟨rfl, rfl, rfl⟩); (with_reducible (assumption; apply ks_rt; apply qd_rt; (iterate 6 apply IoR.val); (iterate 4 apply IoR.un); exact IoR.nil)))
      rfl
    | ta =>
      have h1 := ends_eq (S := ps) (d := e) (by omega) (by omega) fun s hs => ⟨by have := (hps s hs).1.len; omega, (hps s hs).2⟩
      refine ⟨Tn (ps.zip e).reverse, .own (.ls (iL (Tn (ps.zip e).reverse))), ?_, rfl, by unfold PwOk; dsimp only; rw [hq]⟩
      refine fe_of ?_
      unfold m_part_ways
      show RS _ [.val (encF f), .val (encP ps), .val (enc1 e), .un, .un, .un, .un, .un, .un, .un] _
      rw [encF, hq]
      ((with_reducible (apply s_seq; apply s_asg; apply g_name; exact NmAt.v; apply datk_v; apply asgk; apply BCT.tu; apply BCTs.cons; apply BCT.nm; (iterate 3 apply FPut.s); exact FPut.u; apply BCTs.cons; apply BCT.nm; (iterate 4 apply FPut.s); exact FPut.u; apply BCTs.cons; apply BCT.nm; (iterate 5 apply FPut.s); exact FPut.u; exact BCTs.nil; apply ks_nx; apply s_seq; apply s_ite; apply g_TB; apply g_bin; apply g_nm; (iterate 3 apply DAt.s); exact DAt.v; apply g_ex; apply g_C; apply datk_v; apply bink; apply Res.nm; (iterate 3 apply DAt.s); exact DAt.v; exact Res.dat; exact oo_eqS _ _; apply boolk)); (refine ifk_sn (by decide) ?_); (with_reducible (apply s_sk; apply ks_nx; apply s_seq; apply s_ite; apply g_TB; apply g_bin; apply g_nm; (iterate 3 apply DAt.s); exact DAt.v; apply g_ex; apply g_C; apply datk_v; apply bink; apply Res.nm; (iterate 3 apply DAt.s); exact DAt.v; exact Res.dat; exact oo_eqS _ _; apply boolk)); (refine ifk_sy (by decide) ?_); (with_reducible (apply s_ret; apply g_def; apply g_caV; apply g_escN; apply g_name; apply NmAt.s; exact NmAt.v; apply datk_v; apply g_caV; apply g_escN; apply g_name; (iterate 2 apply NmAt.s); exact NmAt.v; apply datk_v; apply g_caN; apply defk_d; (iterate 2 apply RA.d); exact RA.nil)); ((with_reducible apply DfO.d); exact ⟨rfl, rfl, rfl⟩); (with_reducible (assumption; apply ks_rt; apply qd_rt; (iterate 6 apply IoR.val); (iterate 4 apply IoR.un); exact IoR.nil)))
      rfl
/-! hits -/
def tl (p e : List Int) : Nat := ((p.zip e).reverse.takeWhile fun z => decide (z.1 = z.2)).length
def hitP (f : Fd) (p e : List Int) : Nat := match f.kd with
  | .ch => (p.filter fun x => decide (x ∈ e)).length
  | .fi => ((p.zip e).filter fun z => decide (z.1 = z.2)).length
  | .ta => tl p e
theorem sip_eq {p e : List Int} (hl : p.length ≤ 100) : FE f_same_in_places [.d (enc1 p), .d (enc1 e)] (.val (.int (((p.zip e).filter fun z => decide (z.1 = z.2)).length : Nat))) none := by
  refine fe_of ?_
  unfold m_same_in_places
  show RS _ [.val (enc1 p), .val (enc1 e), .un, .un] _
  ((with_reducible (apply s_ret; apply g_call; apply g_evC; apply g_ex; apply g_lc; apply g_itG; apply g_elO; apply g_escN; apply g_name; exact NmAt.v; apply datk_v; apply g_elO; apply g_escN; apply g_name; apply NmAt.s; exact NmAt.v; apply datk_v; apply g_elN; apply oplk; apply opl_zip2; (iterate 2 exact It.t); apply lck)))
  · exact fits_of (by rw [zip2D_len]; simp only [List.length_map]; omega)
  ((with_reducible ((iterate 2 apply UnR.cons); exact UnR.nil; (iterate 3 apply FPut.s); exact FPut.u; (iterate 2 apply FPut.s); exact FPut.u)))
  rw [zip2_map]
  refine lce (lc_pre (vs := [2, 3]) (fun z : Int × Int => PyData.tuple [.int z.1, .int z.2]) (fun _ => _) (fun z => decide (z.1 = z.2)) (fun _ => PyData.int 1) (p.zip e) fun pre z suf h => ?_) ?_
  · refine ⟨_, (by ((with_reducible (apply BCT.tu; apply BCTs.cons; apply BCT.nm; (iterate 2 apply FPut.s); exact FPut.u; apply BCTs.cons; apply BCT.nm; (iterate 3 apply FPut.s); exact FPut.u; exact BCTs.nil)))), ?_⟩
    ((with_reducible (apply g_TB; apply g_bin; apply g_nm; (iterate 2 apply DAt.s); exact DAt.v; apply g_nm; (iterate 3 apply DAt.s); exact DAt.v; apply bink; apply Res.nm; (iterate 2 apply DAt.s); exact DAt.v; apply Res.nm; (iterate 3 apply DAt.s); exact DAt.v; exact oo_eq _ _; apply boolk)))
    refine ⟨rfl, ?_⟩
    refine ifk_b (fun h0 => ?_) (fun h0 => ?_)
    · ((with_reducible (apply g_C)))
      exact ⟨rfl, by ((with_reducible ((iterate 2 apply UnR.cons); exact UnR.nil; (iterate 3 apply FPut.s); exact FPut.v; (iterate 2 apply FPut.s); exact FPut.v)))⟩
    · ((with_reducible ((iterate 2 apply UnR.cons); exact UnR.nil; (iterate 3 apply FPut.s); exact FPut.v; (iterate 2 apply FPut.s); exact FPut.v)))
  ((with_reducible (apply datk_o; apply g_evN; apply callk; apply ResAll.cons; exact Res.dat; exact ResAll.nil; apply opn_1; exact oo_lenL _; apply qd_rt; (iterate 2 apply IoR.val); (iterate 2 apply IoR.un); exact IoR.nil)))
  rw [List.length_map]
theorem tw_idx {α : Type} (q : α → Bool) : ∀ (l : List α), (∀ i, i < (l.takeWhile q).length → ∃ x, l[i]? = some x ∧ q x = true) ∧ ∀ x, l[(l.takeWhile q).length]? = some x → q x = false
  | [] => ⟨fun i h => absurd h (Nat.not_lt_zero _), fun x h => by simp at h⟩
  | a :: l => by
    obtain ⟨h1, h2⟩ := tw_idx q l
    cases ha : q a with
    | true =>
      rw [List.takeWhile_cons_of_pos ha]
      refine ⟨fun i h => ?_, fun x h => h2 x (by simpa using h)⟩
      cases i with
      | zero => exact ⟨a, rfl, ha⟩
      | succ i => obtain ⟨x, h3, h4⟩ := h1 i (by simpa using h); exact ⟨x, by simpa using h3, h4⟩
    | false =>
      rw [List.takeWhile_cons_of_neg (by rw [ha]; exact Bool.false_ne_true)]
      refine ⟨fun i h => absurd h (Nat.not_lt_zero _), fun x h => ?_⟩
      have : a = x := by simpa using h
      rw [← this]; exact ha
theorem sae_eq {p e : List Int} (hl : p.length = e.length) (hl2 : p.length ≤ 100) : FE f_same_at_end [.d (enc1 p), .d (enc1 e)] (.val (.int (tl p e : Nat))) none := by
  have hzl : (p.zip e).reverse.length = p.length := by rw [List.length_reverse, List.length_zip]; omega
  obtain ⟨t1, t2⟩ := tw_idx (fun z : Int × Int => decide (z.1 = z.2)) (p.zip e).reverse
  have htl : tl p e ≤ p.length := by rw [← hzl]; exact (List.takeWhile_sublist _).length_le
  have get : ∀ c, c < p.length → ∃ a b, (p.zip e).reverse[c]? = some (a, b) ∧ IxAt (iL p) (-1 - (c : Int)) (.int a) ∧ IxAt (iL e) (-1 - (c : Int)) (.int b) := by
    intro c hc
    obtain ⟨a, b, hab⟩ : ∃ a b, (p.zip e).reverse[c]? = some (a, b) := ⟨_, _, List.getElem?_eq_getElem (by omega)⟩
    have hab2 := hab
    have hz2 : (p.zip e).length = p.length := by rw [List.length_zip]; omega
    rw [List.getElem?_reverse (by omega), hz2] at hab2
    obtain ⟨h1, h2⟩ := List.getElem?_zip_eq_some.mp hab2
    refine ⟨a, b, hab, atI_neg (n := p.length - 1 - c) (by simp only [List.length_map]; omega) (by omega) (by rw [List.getElem?_map, h1]; rfl), atI_neg (n := p.length - 1 - c) (by simp only [List.length_map]; omega) (by omega) (by rw [List.getElem?_map, h2]; rfl)⟩
  obtain ⟨ρ', h1, rfl⟩ := wh_inv (t := mAnd (mTB (mBin fLt (.nm 2) (.ex (mCall (c1 gLen) [(.nm 0)])))) (mTB (mBin fEq (.ex (mBin fIx (.nm 0) (.ex (mBin fSub (.ex (mUn fNeg (.ex (mC (.int 1))))) (.nm 2))))) (.ex (mBin fIx (.nm 1) (.ex (mBin fSub (.ex (mUn fNeg (.ex (mC (.int 1))))) (.nm 2))))))))
    (b := lb_same_at_end_1) (fun n ρ => ∃ c, c + n = tl p e ∧ ρ = [.val (enc1 p), .val (enc1 e), .val (.int (c : Nat))]) (fun ρ => ρ = [.val (enc1 p), .val (enc1 e), .val (.int (tl p e : Nat))]) (tl p e) 1000000 [.val (enc1 p), .val (enc1 e), .val (.int (0 : Nat))] (by omega) ⟨0, by omega, rfl⟩ (by
      rintro n ρ ⟨c, hc, rfl⟩
      ((with_reducible (apply g_and; apply g_TB; apply g_bin; apply g_nm; (iterate 2 apply DAt.s); exact DAt.v; apply g_ex; apply g_call; apply g_evC; apply g_nm; exact DAt.v; apply g_evN; apply callk; apply ResAll.cons; apply Res.nm; exact DAt.v; exact ResAll.nil; apply opn_1; exact oo_lenT _; apply datk_v; apply bink; apply Res.nm; (iterate 2 apply DAt.s); exact DAt.v; exact Res.dat; exact oo_lt _ _; apply boolk)))
      refine ifk_d (fun h => ?_) (fun h => ?_)
      · have hcl : c < p.length := by rw [List.length_map] at h; omega
        obtain ⟨a, b, hab, xa, xb⟩ := get c hcl
        ((with_reducible (apply g_TB; apply g_bin; apply g_ex; apply g_bin; apply g_nm; exact DAt.v; apply g_ex; apply g_bin; apply g_ex; apply g_un; apply g_ex; apply g_C; apply datk_v; apply unk; exact Res.dat; exact oo_neg _; apply datk_v; apply g_nm; (iterate 2 apply DAt.s); exact DAt.v; apply bink; exact Res.dat; apply Res.nm; (iterate 2 apply DAt.s); exact DAt.v; exact oo_sub _ _; apply datk_v; apply bink; apply Res.nm; exact DAt.v; exact Res.dat; apply oo_ixT; assumption; apply datk_v; apply g_ex; apply g_bin; apply g_nm; apply DAt.s; exact DAt.v; apply g_ex; apply g_bin; apply g_ex; apply g_un; apply g_ex; apply g_C; apply datk_v; apply unk; exact Res.dat; exact oo_neg _; apply datk_v; apply g_nm; (iterate 2 apply DAt.s); exact DAt.v; apply bink; exact Res.dat; apply Res.nm; (iterate 2 apply DAt.s); exact DAt.v; exact oo_sub _ _; apply datk_v; apply bink; apply Res.nm; apply DAt.s; exact DAt.v; exact Res.dat; apply oo_ixT; assumption; apply datk_v; apply bink; (iterate 2 exact Res.dat); exact oo_eq _ _; apply boolk)))
        refine ifk_d (fun h0 => ?_) (fun h0 => ?_)
        · unfold lb_same_at_end_1
          ((with_reducible (apply s_aug; (iterate 2 apply DAt.s); exact DAt.v; apply g_ex; apply g_C; apply datk_v; apply augk; (iterate 2 apply DAt.s); exact DAt.v; exact Res.dat; exact oo_augI _ _; apply stk; (iterate 2 apply FPut.s); exact FPut.v; apply qn_nx)))
          have hlt : c < tl p e := by
            have : tl p e ≠ c := fun z => by
              have := t2 (a, b) (by rw [show ((p.zip e).reverse.takeWhile fun z => decide (z.1 = z.2)).length = c from z]; exact hab)
              simp [h0] at this
            omega
          exact ⟨n - 1, by omega, c + 1, by omega, by simp⟩
        · have : tl p e = c := by
            by_cases hlt : c < tl p e
            · obtain ⟨x, h3, h4⟩ := t1 c hlt
              rw [hab] at h3
              cases h3
              simp at h4
              exact absurd h4 h0
            · omega
          rw [this]
      · have hcl : ¬ c < p.length := by rw [List.length_map] at h; omega
        have : tl p e = c := by omega
        ((with_reducible (apply ifk_f)))
        rw [this])
  refine fe_of ?_
  unfold m_same_at_end
  show RS _ [.val (enc1 p), .val (enc1 e), .un] _
  ((with_reducible (apply s_seq; apply s_setV; apply g_C; apply datk_v; apply stk; (iterate 2 apply FPut.s); exact FPut.u; apply ks_nx; apply s_seq)))
  refine s_wh h1 ?_
  ((with_reducible (apply ks_nx; apply s_retNm; (iterate 2 apply RtAt.s); exact RtAt.v; apply qd_rt; (iterate 3 apply IoR.val); exact IoR.nil)))
  rfl

end LW
set_option Elab.async false
set_option linter.all false
set_option maxRecDepth 100000
set_option maxHeartbeats 4000000
namespace LW
open PySem PySem.Spec PyProof.Rows L2 RT DL
/-! counting -/
theorem sum_ite {α : Type} (A B : α → Bool) (o s : Nat) : ∀ (l : List α), (l.map fun a => (if A a = true then o else 0) + (if B a = true then s else 0)).sum = l.countP A * o + l.countP B * s
  | [] => by simp
  | a :: l => by
    rw [List.map_cons, List.sum_cons, sum_ite A B o s l, List.countP_cons, List.countP_cons]
    cases hA : A a <;> cases hB : B a <;> simp [Nat.add_mul] <;> omega
theorem countP_map' {α β : Type} (f : α → β) (p : β → Bool) (l : List α) : (l.map f).countP p = l.countP fun x => p (f x) := by rw [List.countP_map]; rfl
theorem countP_flat {α β : Type} (f : α → List β) (p : β → Bool) : ∀ (l : List α), (l.flatMap f).countP p = (l.map fun a => (f a).countP p).sum
  | [] => rfl
  | a :: l => by rw [List.flatMap_cons, List.countP_append, countP_flat f p l, List.map_cons, List.sum_cons]
theorem filter_mem_perm {lo hi : Int} {s : List Int} (h : InS lo hi s) : ((rng lo hi).filter fun x => decide (x ∈ s)).Perm s := by
  refine (List.perm_ext_iff_of_nodup ((List.filter_sublist).nodup (rng_nodup lo hi)) h.1).mpr fun x => ?_
  rw [List.mem_filter, mem_rng]
  constructor
  · rintro ⟨_, h2⟩; simpa using h2
  · intro hx; exact ⟨h.2 x hx, by simpa using hx⟩
theorem count_in {lo hi : Int} {s : List Int} (h : InS lo hi s) (q : Int → Bool) : ((rng lo hi).countP fun x => decide (x ∈ s) && q x) = s.countP q := by
  rw [← (filter_mem_perm h).countP_eq q, List.countP_filter]
  congr 1
  funext x
  exact Bool.and_comm _ _
theorem count_one {s : List Int} (h : s.Nodup) (e : Int) : s.countP (fun x => decide (x = e)) = if decide (e ∈ s) = true then 1 else 0 := by
  have := h.count (a := e)
  rw [List.count_eq_countP] at this
  have e2 : (fun x => decide (x = e)) = (fun x => x == e) := by funext x; rfl
  rw [e2, this]
  by_cases hm : e ∈ s <;> simp [hm]
theorem count_not {s : List Int} (h : s.Nodup) (e : Int) : (s.countP (fun x => !decide (x = e)) : Nat) + (if decide (e ∈ s) = true then 1 else 0) = s.length := by
  rw [← count_one h e]
  have := List.length_eq_countP_add_countP (p := fun x => decide (x = e)) (l := s)
  have e2 : (fun a => decide ¬(decide (a = e) = true)) = fun x => !decide (x = e) := by funext x; simp
  rw [e2] at this
  omega
/-! tuples of figures -/
def tup (n : Nat) : Nat → List (List Int)
  | 0 => [[]]
  | t + 1 => (tup n t).flatMap fun q => (rng 0 n).map fun x => q ++ [x]
theorem partsN_tup {f : Fd} (h : f.kd ≠ .ch) : ∀ t, partsN f t = tup f.n t
  | 0 => rfl
  | t + 1 => by
    show (partsN f t).flatMap (ext1 f) = _
    rw [partsN_tup h t]
    show _ = (tup f.n t).flatMap fun q => (rng 0 f.n).map fun x => q ++ [x]
    congr 1
    funext q
    unfold ext1 fst1 lst1
    rw [if_neg h, if_neg h]
theorem tup_len {n : Nat} : ∀ (t : Nat) (p : List Int), p ∈ tup n t → p.length = t ∧ ∀ x ∈ p, 0 ≤ x ∧ x < n
  | 0, p, h => by
    have e : p = [] := by simpa [tup] using h
    subst e; exact ⟨rfl, fun _ h => nomatch h⟩
  | t + 1, p, h => by
    simp only [tup, List.mem_flatMap, List.mem_map] at h
    obtain ⟨q, hq, y, hy, rfl⟩ := h
    obtain ⟨h1, h2⟩ := tup_len t q hq
    refine ⟨by rw [List.length_append, h1]; rfl, fun x hx => ?_⟩
    rcases List.mem_append.mp hx with hx | hx
    · exact h2 x hx
    · have e : x = y := by simpa using hx
      subst e; exact mem_rng.mp hy
theorem snoc_of {α : Type} {l : List α} {t : Nat} (h : l.length = t + 1) : ∃ l' x, l = l' ++ [x] ∧ l'.length = t := by
  have hn : l ≠ [] := fun e => by subst e; cases h
  exact ⟨l.dropLast, l.getLast hn, (List.dropLast_concat_getLast hn).symm, by rw [List.length_dropLast, h]; rfl⟩
theorem holds_snoc {S : List (List Int)} {s : List Int} {q : List Int} {x : Int} (h : q.length = S.length) : holdsP (.pl (S ++ [s])) (q ++ [x]) = (holdsP (.pl S) q && decide (x ∈ s)) := by
  show ((q ++ [x]).zip (S ++ [s])).all _ = _
  rw [List.zip_append h, List.all_append]
  simp [holdsP]
def hf (p e : List Int) : Nat := ((p.zip e).filter fun z => decide (z.1 = z.2)).length
theorem hf_snoc {q d : List Int} {x e : Int} (h : q.length = d.length) : hf (q ++ [x]) (d ++ [e]) = hf q d + (if decide (x = e) = true then 1 else 0) := by
  unfold hf
  rw [List.zip_append h, List.filter_append, List.length_append]
  congr 1
  by_cases hx : x = e <;> simp [hx]
theorem tl_snoc {q d : List Int} {x e : Int} (h : q.length = d.length) : tl (q ++ [x]) (d ++ [e]) = if decide (x = e) = true then 1 + tl q d else 0 := by
  unfold tl
  rw [List.zip_append h, List.reverse_append]
  show (List.takeWhile _ ((x, e) :: (q.zip d).reverse)).length = _
  by_cases hx : x = e
  · rw [List.takeWhile_cons_of_pos (by simpa using hx), if_pos (by simpa using hx), List.length_cons]; omega
  · rw [List.takeWhile_cons_of_neg (by simpa using hx), if_neg (by simpa using hx)]; rfl
theorem fi_count {n : Nat} : ∀ (t : Nat) (S : List (List Int)) (d : List Int) (c : Nat), S.length = t → d.length = t → (∀ s ∈ S, InS 0 n s) →
    (((tup n t).countP fun p => holdsP (.pl S) p && (hf p d == c) : Nat) : Int) = Wn ((S.zip d).reverse.map os1) c
  | 0, S, d, c, h1, h2, _ => by
    have e1 : S = [] := List.length_eq_zero_iff.mp h1
    have e2 : d = [] := List.length_eq_zero_iff.mp h2
    subst e1; subst e2
    cases c <;> simp [tup, holdsP, hf, Wn]
  | t + 1, S, d, c, h1, h2, h3 => by
    obtain ⟨S, s, rfl, g1⟩ := snoc_of h1
    obtain ⟨d, e, rfl, g2⟩ := snoc_of h2
    clear h1 h2
    have h1 := g1
    have h2 := g2
    have hs := h3 s (by simp)
    have ih := fi_count (n := n) t S d
    have hc1 := count_one hs.1 e
    have hc2 := count_not hs.1 e
    have key : ((tup n (t + 1)).countP fun p => holdsP (.pl (S ++ [s])) p && (hf p (d ++ [e]) == c)) = ((tup n t).countP fun q => holdsP (.pl S) q && (hf q d == c)) * (s.countP fun x => !decide (x = e)) + ((tup n t).countP fun q => holdsP (.pl S) q && (hf q d + 1 == c)) * (s.countP fun x => decide (x = e)) := by
      rw [tup, countP_flat, ← sum_ite]
      congr 1
      refine List.map_congr_left fun q hq => ?_
      obtain ⟨hql, _⟩ := tup_len t q hq
      rw [countP_map', ← count_in hs, ← count_in hs]
      have hcong : (rng 0 n).countP (fun x => holdsP (.pl (S ++ [s])) (q ++ [x]) && (hf (q ++ [x]) (d ++ [e]) == c)) = (rng 0 n).countP (fun x => (decide (x ∈ s) && !decide (x = e)) && (holdsP (.pl S) q && (hf q d == c))) + (rng 0 n).countP (fun x => (decide (x ∈ s) && decide (x = e)) && (holdsP (.pl S) q && (hf q d + 1 == c))) := by
        induction rng 0 n with
        | nil => rfl
        | cons x l ihl =>
          rw [List.countP_cons, List.countP_cons, List.countP_cons, ihl, holds_snoc (by omega), hf_snoc (by omega)]
          by_cases hx : x = e <;> cases decide (x ∈ s) <;> cases holdsP (.pl S) q <;> simp [hx] <;> omega
      rw [hcong]
      congr 1
      · cases (holdsP (.pl S) q && (hf q d == c))
        · simp
        · simp
      · cases (holdsP (.pl S) q && (hf q d + 1 == c))
        · simp
        · simp
    rw [key, List.zip_append (by omega), List.reverse_append, Int.natCast_add, Int.natCast_mul, Int.natCast_mul, ih c h1 h2 (fun z hz => h3 z (List.mem_append_left _ hz)), hc1]
    have eo : ((s.countP fun x => !decide (x = e) : Nat) : Int) = (s.length : Int) - (if decide (e ∈ s) = true then 1 else 0) := by
      split at hc2 <;> rename_i hh <;> simp only [hh] <;> simp <;> omega
    rw [eo]
    cases c with
    | zero =>
      show _ = Wn ((S.zip d).reverse.map os1) 0 * _
      simp
    | succ c =>
      have := ih c h1 h2 (fun z hz => h3 z (List.mem_append_left _ hz))
      have e3 : (fun q => holdsP (.pl S) q && (hf q d + 1 == c + 1)) = fun q => holdsP (.pl S) q && (hf q d == c) := by
        funext q
        congr 1
        by_cases h : hf q d = c <;> simp [h]
      rw [e3, this]
      show _ = Wn ((S.zip d).reverse.map os1) (c + 1) * ((s.length : Int) - (if decide (e ∈ s) = true then 1 else 0)) + Wn ((S.zip d).reverse.map os1) c * (if decide (e ∈ s) = true then 1 else 0)
      congr 1
      congr 1
      split <;> rfl

end LW
set_option Elab.async false
set_option linter.all false
set_option maxRecDepth 100000
set_option maxHeartbeats 4000000
namespace LW
open PySem PySem.Spec PyProof.Rows L2 RT DL
theorem plen_rev (l : List (List Int × Int)) : plen l.reverse = plen l := by
  unfold plen
  rw [List.map_reverse, foldr_rev]
theorem holds_count {n : Nat} : ∀ (t : Nat) (S : List (List Int)) (d : List Int), S.length = t → d.length = t → (∀ s ∈ S, InS 0 n s) → ((tup n t).countP fun p => holdsP (.pl S) p) = plen (S.zip d).reverse
  | 0, S, d, h1, h2, _ => by
    have e1 : S = [] := List.length_eq_zero_iff.mp h1
    subst e1
    simp [tup, holdsP, plen]
  | t + 1, S, d, h1, h2, h3 => by
    obtain ⟨S, s, rfl, g1⟩ := snoc_of h1
    obtain ⟨d, e, rfl, g2⟩ := snoc_of h2
    have hs := h3 s (by simp)
    have ih := holds_count (n := n) t S d g1 g2 (fun z hz => h3 z (List.mem_append_left _ hz))
    have key : ((tup n (t + 1)).countP fun p => holdsP (.pl (S ++ [s])) p) = ((tup n t).countP fun q => holdsP (.pl S) q) * s.length + ((tup n t).countP fun q => false) * 0 := by
      rw [tup, countP_flat, ← sum_ite]
      congr 1
      refine List.map_congr_left fun q hq => ?_
      obtain ⟨hql, _⟩ := tup_len t q hq
      rw [countP_map']
      have hl : s.length = s.countP (fun _ => true) := by simp
      rw [hl, ← count_in hs]
      have hcong : (fun x => holdsP (.pl (S ++ [s])) (q ++ [x])) = fun x => holdsP (.pl S) q && decide (x ∈ s) := by
        funext x; exact holds_snoc (by omega)
      rw [hcong]
      cases holdsP (.pl S) q <;> simp
    rw [key, ih, List.zip_append (by omega), List.reverse_append]
    show _ = s.length * plen (S.zip d).reverse
    rw [Nat.mul_comm]
    simp
theorem ta_count {n : Nat} : ∀ (t : Nat) (S : List (List Int)) (d : List Int) (c : Nat), S.length = t → d.length = t → (∀ s ∈ S, InS 0 n s) → c ≤ t →
    (((tup n t).countP fun p => holdsP (.pl S) p && (tl p d == c) : Nat) : Int) = (Tn (S.zip d).reverse).getD c 0
  | 0, S, d, c, h1, h2, _, hc => by
    have e1 : S = [] := List.length_eq_zero_iff.mp h1
    have e2 : d = [] := List.length_eq_zero_iff.mp h2
    subst e1; subst e2
    have : c = 0 := by omega
    subst this
    simp [tup, holdsP, tl, Tn]
  | t + 1, S, d, c, h1, h2, h3, hc => by
    obtain ⟨S, s, rfl, g1⟩ := snoc_of h1
    obtain ⟨d, e, rfl, g2⟩ := snoc_of h2
    have hs := h3 s (by simp)
    have h3' : ∀ z ∈ S, InS 0 n z := fun z hz => h3 z (List.mem_append_left _ hz)
    have hc1 := count_one hs.1 e
    have hc2 := count_not hs.1 e
    have key : ((tup n (t + 1)).countP fun p => holdsP (.pl (S ++ [s])) p && (tl p (d ++ [e]) == c)) = ((tup n t).countP fun q => holdsP (.pl S) q && (0 == c)) * (s.countP fun x => !decide (x = e)) + ((tup n t).countP fun q => holdsP (.pl S) q && (1 + tl q d == c)) * (s.countP fun x => decide (x = e)) := by
      rw [tup, countP_flat, ← sum_ite]
      congr 1
      refine List.map_congr_left fun q hq => ?_
      obtain ⟨hql, _⟩ := tup_len t q hq
      rw [countP_map', ← count_in hs, ← count_in hs]
      have hcong : (rng 0 n).countP (fun x => holdsP (.pl (S ++ [s])) (q ++ [x]) && (tl (q ++ [x]) (d ++ [e]) == c)) = (rng 0 n).countP (fun x => (decide (x ∈ s) && !decide (x = e)) && (holdsP (.pl S) q && (0 == c))) + (rng 0 n).countP (fun x => (decide (x ∈ s) && decide (x = e)) && (holdsP (.pl S) q && (1 + tl q d == c))) := by
        induction rng 0 n with
        | nil => rfl
        | cons x l ihl =>
          rw [List.countP_cons, List.countP_cons, List.countP_cons, ihl, holds_snoc (by omega), tl_snoc (by omega)]
          by_cases hx : x = e <;> cases decide (x ∈ s) <;> cases holdsP (.pl S) q <;> simp [hx] <;> omega
      rw [hcong]
      congr 1
      · cases (holdsP (.pl S) q && (0 == c))
        · simp
        · simp
      · cases (holdsP (.pl S) q && (1 + tl q d == c))
        · simp
        · simp
    have eo : ((s.countP fun x => !decide (x = e) : Nat) : Int) = (s.length : Int) - (if decide (e ∈ s) = true then 1 else 0) := by
      split at hc2 <;> rename_i hh <;> simp only [hh] <;> simp <;> omega
    rw [key, List.zip_append (by omega), List.reverse_append, Int.natCast_add, Int.natCast_mul, Int.natCast_mul, hc1, eo]
    show _ = (Tn ((s, e) :: (S.zip d).reverse)).getD c 0
    rw [Tn]
    cases c with
    | zero =>
      have hh := holds_count (n := n) t S d g1 g2 h3'
      have e1 : (fun q => holdsP (.pl S) q && (0 == 0)) = fun q => holdsP (.pl S) q := by funext q; simp
      have e2 : (fun q => holdsP (.pl S) q && (1 + tl q d == 0)) = fun q => false := by
        funext q
        have : (1 + tl q d == 0) = false := by simp
        rw [this, Bool.and_false]
      rw [e1, hh, e2]
      simp
    | succ c =>
      have ih := ta_count (n := n) t S d c g1 g2 h3' (by omega)
      have e1 : (fun q => holdsP (.pl S) q && (0 == c + 1)) = fun q => false := by funext q; simp
      have e3 : (fun q => holdsP (.pl S) q && (1 + tl q d == c + 1)) = fun q => holdsP (.pl S) q && (tl q d == c) := by
        funext q
        congr 1
        rw [Bool.eq_iff_iff, beq_iff_eq, beq_iff_eq]
        omega
      rw [e1, e3, List.getD_cons_succ]
      by_cases hm : e ∈ s
      · simp only [hm, decide_true, if_true]
        rw [← ih]
        simp
      · simp only [hm, decide_false, Bool.false_eq_true, if_false]
        have hzl : (S.zip d).reverse.length = t := by rw [List.length_reverse, List.length_zip]; omega
        rw [hzl]
        simp [List.getD_eq_getElem?_getD, List.getElem?_replicate]
        try (split <;> simp)
/-! choices -/
def subs : Nat → List Int → List (List Int)
  | 0, _ => [[]]
  | _ + 1, [] => []
  | k + 1, x :: l => (subs k l).map (fun p => x :: p) ++ subs (k + 1) l
theorem parts_subs : ∀ n, n < 10 → ∀ k, k < 4 → parts ⟨.ch, n, k⟩ = subs k (rng 1 ((n : Nat) + 1)) := by decide +kernel
theorem chN_zero (n : Nat) : chN n 0 = 1 := by cases n <;> rfl
theorem ch_count (A B : Int → Bool) : ∀ (l : List Int) (k h : Nat), (subs k l).countP (fun p => p.all A && ((p.filter B).length == h)) = if h ≤ k then chN (l.countP fun x => A x && B x) h * chN (l.countP fun x => A x && !B x) (k - h) else 0
  | l, 0, h => by
    cases h with
    | zero => simp [subs, chN_zero]
    | succ h => simp [subs]
  | [], k + 1, h => by
    rw [subs]
    by_cases hh : h ≤ k + 1
    · rw [if_pos hh]
      cases h with
      | zero => simp [chN]
      | succ h => simp [chN]
    · rw [if_neg hh]; rfl
  | x :: l, k + 1, h => by
    have ih1 := fun h => ch_count A B l k h
    have ih2 := ch_count A B l (k + 1) h
    rw [subs, List.countP_append, countP_map', ih2]
    cases hA : A x with
    | false =>
      have e1 : (subs k l).countP (fun p => (x :: p).all A && (((x :: p).filter B).length == h)) = 0 := by
        rw [List.countP_eq_zero]
        intro p _
        simp [hA]
      rw [e1]
      simp [hA]
    | true =>
      cases hB : B x with
      | true =>
        have e1 : (subs k l).countP (fun p => (x :: p).all A && (((x :: p).filter B).length == h)) = if h = 0 then 0 else (subs k l).countP (fun p => p.all A && ((p.filter B).length == h - 1)) := by
          cases h with
          | zero =>
            rw [if_pos rfl, List.countP_eq_zero]
            intro p _
            simp [hB]
          | succ h =>
            rw [if_neg (by omega)]
            congr 1
            funext p
            simp [hA, hB]
        rw [e1]
        simp only [List.countP_cons, hA, hB, Bool.and_self, Bool.not_true, Bool.and_false, if_true, Bool.false_eq_true, if_false, Nat.add_zero]
        cases h with
        | zero => simp [chN_zero]
        | succ h =>
          rw [if_neg (by omega), ih1, Nat.add_sub_cancel]
          by_cases hk : h ≤ k
          · rw [if_pos hk, if_pos (by omega), if_pos (by omega), show k + 1 - (h + 1) = k - h by omega]
            show _ = (chN _ h + chN _ (h + 1)) * _
            rw [Nat.add_mul]
          · rw [if_neg hk, if_neg (by omega), if_neg (by omega)]
      | false =>
        have e1 : (subs k l).countP (fun p => (x :: p).all A && (((x :: p).filter B).length == h)) = (subs k l).countP (fun p => p.all A && ((p.filter B).length == h)) := by
          congr 1
          funext p
          simp [hA, hB]
        rw [e1, ih1]
        simp only [List.countP_cons, hA, hB, Bool.and_self, Bool.not_false, Bool.and_false, if_true, Bool.false_eq_true, if_false, Nat.add_zero]
        by_cases hk : h ≤ k
        · rw [if_pos hk, if_pos (by omega), if_pos (by omega), show k + 1 - h = (k - h) + 1 by omega]
          show _ = _ * (chN _ (k - h) + chN _ (k - h + 1))
          rw [Nat.mul_add]
        · rw [if_neg hk]
          by_cases hk2 : h ≤ k + 1
          · rw [if_pos hk2, if_pos hk2, show k + 1 - h = 0 by omega]
            simp [chN_zero]
          · rw [if_neg hk2, if_neg hk2]

end LW
set_option Elab.async false
set_option linter.all false
set_option maxRecDepth 100000
set_option maxHeartbeats 4000000
namespace LW
open PySem PySem.Spec PyProof.Rows L2 RT DL
def cntP (f : Fd) (sp : SPt) (e : List Int) (c : Nat) : Nat := (parts f).countP fun p => holdsP sp p && (hitP f p e == c)
theorem Tn_len : ∀ (l : List (List Int × Int)), (Tn l).length = l.length + 1
  | [] => rfl
  | (s, e) :: l => by
    rw [Tn, List.length_cons, List.length_cons]
    split
    · rw [Tn_len l]
    · rw [List.length_replicate]
theorem rng_getD {n c : Nat} (F : Int → Int) (h : c < n) : ((rng 0 n).map F).getD c 0 = F c := by
  have : (rng 0 n)[c]? = some (c : Int) := by
    unfold rng
    rw [List.getElem?_map, List.getElem?_range (by omega)]
    simp
  rw [List.getD_eq_getElem?_getD, List.getElem?_map, this]
  rfl
theorem pw_count {f : Fd} (hf' : f.ok) {sp : SPt} (hs : okSP f sp) {e : List Int} (he : e ∈ parts f) {ws : List Int} (hw : PwOk f sp e ws) : ws.length = f.k + 1 ∧ ∀ c, c ≤ f.k → ws.getD c 0 = ((cntP f sp e c : Nat) : Int) := by
  have hel := partsN_len f f.k e he
  obtain ⟨f1, f2, f3, f4, f5⟩ := id hf'
  cases sp with
  | ch s =>
    obtain ⟨hk, hS⟩ := hs
    have hw : ws = chW s e f.k := hw
    subst hw
    refine ⟨by rw [chW, List.length_map, rng_len]; omega, fun c hc => ?_⟩
    have hfil : (s.filter fun x => decide (x ∈ e)).length = s.countP fun x => decide (x ∈ e) := List.countP_eq_length_filter.symm
    have hcompl : (s.countP fun x => !decide (x ∈ e)) = s.length - (s.countP fun x => decide (x ∈ e)) := by
      have := List.length_eq_countP_add_countP (p := fun x => decide (x ∈ e)) (l := s)
      have e2 : (fun a => decide ¬(decide (a ∈ e) = true)) = fun x => !decide (x ∈ e) := by funext x; simp
      rw [e2] at this
      omega
    have hpar : parts f = subs f.k (rng 1 ((f.n : Nat) + 1)) := by
      cases f with
      | mk kd n k =>
        dsimp only at hk
        subst hk
        exact parts_subs n (by show n < 10; dsimp only at f2; omega) k (by dsimp only at f4; omega)
    have hcnt : cntP f (.ch s) e c = (subs f.k (rng 1 ((f.n : Nat) + 1))).countP fun p => p.all (fun x => decide (x ∈ s)) && ((p.filter fun x => decide (x ∈ e)).length == c) := by
      unfold cntP
      rw [hpar]
      congr 1
      funext p
      unfold hitP
      rw [hk]
      rfl
    rw [hcnt, ch_count, if_pos hc, count_in hS, count_in hS, hcompl, ← hfil]
    unfold chW
    have := rng_getD (n := f.k + 1) (c := c) (fun c => ((chN (s.filter fun x => decide (x ∈ e)).length c.toNat : Nat) : Int) * ((chN (s.length - (s.filter fun x => decide (x ∈ e)).length) ((f.k : Int) - c).toNat : Nat) : Int)) (by omega)
    rw [show ((f.k + 1 : Nat) : Int) = (f.k : Int) + 1 by omega] at this
    rw [this, Int.natCast_mul, Int.toNat_natCast, show ((f.k : Int) - (c : Nat)).toNat = f.k - c by omega]
  | pl ps =>
    obtain ⟨hk, hpl, hps⟩ := hs
    have hpar : parts f = tup f.n f.k := partsN_tup hk f.k
    have hzl : (ps.zip e).reverse.length = f.k := by rw [List.length_reverse, List.length_zip]; omega
    cases hq : f.kd with
    | ch => exact absurd hq hk
    | fi =>
      unfold PwOk at hw
      dsimp only at hw
      rw [hq] at hw
      dsimp only at hw
      obtain ⟨h1, h2⟩ := hw
      rw [List.length_map, hzl] at h1
      refine ⟨h1, fun c hc => ?_⟩
      rw [h2, ← fi_count (n := f.n) f.k ps e c hpl hel fun s hs => (hps s hs).1]
      unfold cntP
      rw [hpar]
      congr 2
      funext p
      unfold hitP
      rw [hq]
      rfl
    | ta =>
      unfold PwOk at hw
      dsimp only at hw
      rw [hq] at hw
      dsimp only at hw
      subst hw
      refine ⟨by rw [Tn_len, hzl], fun c hc => ?_⟩
      rw [← ta_count (n := f.n) f.k ps e c hpl hel (fun s hs => (hps s hs).1) hc]
      unfold cntP
      rw [hpar]
      congr 2
      funext p
      unfold hitP
      rw [hq]
/-! over all draws -/
theorem subs_sub : ∀ (l : List Int) (k : Nat) (p : List Int), p ∈ subs k l → p.Sublist l
  | l, 0, p, h => by
    have : p = [] := by cases l <;> simpa [subs] using h
    subst this; exact List.nil_sublist _
  | [], k + 1, p, h => by simp [subs] at h
  | x :: l, k + 1, p, h => by
    rw [subs, List.mem_append, List.mem_map] at h
    rcases h with ⟨q, hq, rfl⟩ | h
    · exact (subs_sub l k q hq).cons_cons x
    · exact (subs_sub l (k + 1) p h).cons x
theorem both_len {p d : List Int} (hp : p.Nodup) (hd : d.Nodup) : (p.filter fun x => decide (x ∈ d)).length = (d.filter fun x => decide (x ∈ p)).length := by
  refine List.Perm.length_eq ((List.perm_ext_iff_of_nodup ((List.filter_sublist).nodup hp) ((List.filter_sublist).nodup hd)).mpr fun x => ?_)
  simp [List.mem_filter, and_comm]
theorem zip_swap' : ∀ (p d : List Int), p.zip d = (d.zip p).map Prod.swap
  | [], d => by simp
  | _ :: _, [] => by simp
  | x :: p, y :: d => by simp [zip_swap' p d]
theorem hf_symm (p d : List Int) : hf p d = hf d p := by
  unfold hf
  rw [zip_swap' p d, List.filter_map, List.length_map]
  congr 2
  funext z
  simp [eq_comm]
theorem tl_symm (p d : List Int) : tl p d = tl d p := by
  unfold tl
  rw [zip_swap' p d, ← List.map_reverse, List.takeWhile_map, List.length_map]
  congr 2
  funext z
  simp [eq_comm]
theorem wn_tab : ∀ n, n < 10 → ∀ k, k < 4 → ∀ c, c < 4 → 2 ≤ n → c ≤ k → Wn (List.replicate k ((n : Nat) - 1, 1)) c = ((chN k c * (n - 1) ^ (k - c) : Nat) : Int) := by decide +kernel
theorem full_holds {n : Nat} : ∀ (t : Nat) (p : List Int), p ∈ tup n t → holdsP (.pl (List.replicate t (rng 0 n))) p = true := by
  intro t p hp
  obtain ⟨hl, hm⟩ := tup_len t p hp
  unfold holdsP
  dsimp only
  rw [List.all_eq_true]
  intro z hz
  obtain ⟨h1, h2⟩ := List.of_mem_zip hz
  have := List.eq_of_mem_replicate h2
  rw [this]
  simpa [mem_rng] using hm _ h1
theorem os_full {n : Nat} (hn : 1 ≤ n) : ∀ (t : Nat) (e : List Int), e.length = t → (∀ x ∈ e, 0 ≤ x ∧ x < n) → ((List.replicate t (rng 0 n)).zip e).map os1 = List.replicate t ((n : Int) - 1, 1)
  | 0, e, h, _ => by simp
  | t + 1, [], h, _ => by simp at h
  | t + 1, x :: e, h, hx => by
    rw [List.replicate_succ, List.zip_cons_cons, List.map_cons, os_full hn t e (by simpa using h) fun y hy => hx y (List.mem_cons_of_mem _ hy), List.replicate_succ]
    congr 1
    have hx0 := hx x List.mem_cons_self
    have hm : x ∈ rng 0 n := mem_rng.mpr hx0
    unfold os1
    dsimp only
    rw [rng_len]
    simp [hm]
theorem rng_InS (lo hi : Int) : InS lo hi (rng lo hi) := ⟨rng_nodup lo hi, fun x hx => mem_rng.mp hx⟩
def Tf (n : Nat) : Nat → List Int
  | 0 => [1]
  | t + 1 => ((n ^ t : Nat) : Int) * ((n : Int) - 1) :: Tf n t
theorem plen_full {n : Nat} : ∀ (l : List (List Int × Int)), (∀ z ∈ l, z.1 = rng 0 n) → plen l = n ^ l.length
  | [], _ => rfl
  | z :: l, h => by
    have ih := plen_full l fun y hy => h y (List.mem_cons_of_mem _ hy)
    show z.1.length * plen l = _
    rw [ih, h z List.mem_cons_self, rng_len, List.length_cons, Nat.pow_succ, Nat.mul_comm]
    congr 1
theorem Tn_full {n : Nat} : ∀ (l : List (List Int × Int)), (∀ z ∈ l, z.1 = rng 0 n ∧ 0 ≤ z.2 ∧ z.2 < n) → Tn l = Tf n l.length
  | [], _ => rfl
  | (s, e) :: l, h => by
    have h0 := h (s, e) List.mem_cons_self
    dsimp only at h0
    have hm : e ∈ rng 0 (n : Int) := mem_rng.mpr h0.2
    rw [Tn, h0.1, plen_full l fun y hy => (h y (List.mem_cons_of_mem _ hy)).1, Tn_full l fun y hy => h y (List.mem_cons_of_mem _ hy), rng_len]
    simp [hm, Tf]
theorem tf_tab : ∀ n, n < 10 → ∀ k, k < 4 → ∀ c, c < 4 → 2 ≤ n → c ≤ k → (Tf n k).getD c 0 = ((if c = k then 1 else (n - 1) * n ^ (k - c - 1) : Nat) : Int) := by decide +kernel
theorem wth_count {f : Fd} (hf' : f.ok) {p : List Int} (hp : p ∈ parts f) {h : Nat} (hh : h ≤ f.k) : ((parts f).countP fun d => hitP f p d == h) = wthN f h := by
  have hpl := partsN_len f f.k p hp
  obtain ⟨f1, f2, f3, f4, f5⟩ := id hf'
  unfold wthN
  cases hq : f.kd with
  | ch =>
    have hpar : parts f = subs f.k (rng 1 ((f.n : Nat) + 1)) := by
      cases f with
      | mk kd n k =>
        dsimp only at hq
        subst hq
        exact parts_subs n (by show n < 10; dsimp only at f2; omega) k (by dsimp only at f4; omega)
    have hps : p.Sublist (rng 1 ((f.n : Nat) + 1)) := subs_sub _ f.k p (by rw [← hpar]; exact hp)
    have hpn := hps.nodup (rng_nodup _ _)
    have hPS := InS.of_sub hps
    have e1 : ((parts f).countP fun d => hitP f p d == h) = (subs f.k (rng 1 ((f.n : Nat) + 1))).countP fun d => d.all (fun _ => true) && ((d.filter fun x => decide (x ∈ p)).length == h) := by
      rw [hpar]
      refine List.countP_congr fun d hd => ?_
      have hdn := (subs_sub _ f.k d hd).nodup (rng_nodup _ _)
      unfold hitP
      rw [hq]
      dsimp only
      rw [both_len hpn hdn]
      simp
    rw [e1, ch_count, if_pos hh]
    have c1 : ((rng 1 ((f.n : Nat) + 1)).countP fun x => true && decide (x ∈ p)) = f.k := by
      have := count_in hPS (fun _ => true)
      simp only [Bool.and_true] at this
      simp only [Bool.true_and]
      rw [this]
      simpa using hpl
    have c2 : ((rng 1 ((f.n : Nat) + 1)).countP fun x => true && !decide (x ∈ p)) = f.n - f.k := by
      have := List.length_eq_countP_add_countP (p := fun x => true && decide (x ∈ p)) (l := rng 1 ((f.n : Nat) + 1))
      have e2 : (fun a => decide ¬((true && decide (a ∈ p)) = true)) = fun x => true && !decide (x ∈ p) := by funext x; simp
      rw [e2, c1, rng_len] at this
      omega
    rw [c1, c2]
  | fi =>
    have hk : f.kd ≠ .ch := by rw [hq]; exact fun z => nomatch z
    have hpar : parts f = tup f.n f.k := partsN_tup hk f.k
    have hpm := (tup_len f.k p (by rw [← hpar]; exact hp)).2
    have e1 : ((parts f).countP fun d => hitP f p d == h) = (tup f.n f.k).countP fun d => holdsP (.pl (List.replicate f.k (rng 0 f.n))) d && (hf d p == h) := by
      rw [hpar]
      refine List.countP_congr fun d hd => ?_
      unfold hitP
      rw [hq, full_holds f.k d hd]
      dsimp only
      rw [show ((p.zip d).filter fun z => decide (z.1 = z.2)).length = hf d p from hf_symm p d]
      simp
    have := fi_count (n := f.n) f.k (List.replicate f.k (rng 0 f.n)) p h (by simp) hpl fun s hs => by
      rw [List.eq_of_mem_replicate hs]; exact rng_InS _ _
    rw [List.map_reverse, os_full (by omega) f.k p hpl hpm, List.reverse_replicate, wn_tab f.n (by omega) f.k (by omega) h (by omega) f1 hh] at this
    rw [e1]
    exact Int.ofNat.inj this
  | ta =>
    have hk : f.kd ≠ .ch := by rw [hq]; exact fun z => nomatch z
    have hpar : parts f = tup f.n f.k := partsN_tup hk f.k
    have hpm := (tup_len f.k p (by rw [← hpar]; exact hp)).2
    have e1 : ((parts f).countP fun d => hitP f p d == h) = (tup f.n f.k).countP fun d => holdsP (.pl (List.replicate f.k (rng 0 f.n))) d && (tl d p == h) := by
      rw [hpar]
      refine List.countP_congr fun d hd => ?_
      unfold hitP
      rw [hq, full_holds f.k d hd]
      dsimp only
      rw [tl_symm p d]
      simp
    have := ta_count (n := f.n) f.k (List.replicate f.k (rng 0 f.n)) p h (by simp) hpl (fun s hs => by
      rw [List.eq_of_mem_replicate hs]; exact rng_InS _ _) hh
    rw [Tn_full (n := f.n) _ (fun z hz => by
      obtain ⟨h1, h2⟩ := List.of_mem_zip (List.mem_reverse.mp hz)
      exact ⟨List.eq_of_mem_replicate h1, hpm _ h2⟩), List.length_reverse, List.length_zip, List.length_replicate, hpl, Nat.min_self, tf_tab f.n (by omega) f.k (by omega) h (by omega) f1 hh] at this
    rw [e1]
    exact Int.ofNat.inj this

end LW
set_option Elab.async false
set_option linter.all false
set_option maxRecDepth 100000
set_option maxHeartbeats 4000000
namespace LW
open PySem PySem.Spec PyProof.Rows L2 RT DL
/-! the picks of a game -/
def picksC : List Fd → List (List (List Int))
  | [] => [[]]
  | f :: g => (parts f).flatMap fun p => (picksC g).map fun ps => p :: ps
theorem foldF_C' : ∀ (g : List Fd) (acc : List (List (List Int))), g.foldl (fun acc f => acc.flatMap fun pk => (parts f).map fun p => pk ++ [p]) acc = acc.flatMap fun a => (picksC g).map fun ps => a ++ ps
  | [], acc => by simp [picksC, List.flatMap_singleton']
  | f :: g, acc => by
    rw [List.foldl_cons, foldF_C' g, List.flatMap_assoc]
    congr 1
    funext a
    rw [List.flatMap_map]
    show _ = ((parts f).flatMap fun p => (picksC g).map fun ps => p :: ps).map fun ps => a ++ ps
    rw [List.map_flatMap]
    congr 1
    funext p
    rw [List.map_map]
    refine List.map_congr_left fun x _ => ?_
    simp
theorem foldF_C (g : List Fd) : foldF g = picksC g := by
  have := foldF_C' g [[]]
  unfold foldF
  rw [this]
  simp
def allT : List (List Int → Bool) → List (List Int) → Bool
  | R :: Rs, p :: ps => R p && allT Rs ps
  | [], [] => true
  | _, _ => false
def prT : List Fd → List (List Int → Bool) → Nat
  | f :: g, R :: Rs => (parts f).countP R * prT g Rs
  | _, _ => 1
theorem count_allT : ∀ (g : List Fd) (Rs : List (List Int → Bool)), g.length = Rs.length → (picksC g).countP (allT Rs) = prT g Rs
  | [], [], _ => rfl
  | f :: g, R :: Rs, h => by
    have ih := count_allT g Rs (by simpa using h)
    rw [picksC, countP_flat]
    have e : ((parts f).map fun p => ((picksC g).map fun ps => p :: ps).countP (allT (R :: Rs))) = (parts f).map fun p => (if R p = true then prT g Rs else 0) + (if (false : Bool) = true then 0 else 0) := by
      refine List.map_congr_left fun p _ => ?_
      rw [countP_map']
      cases hR : R p with
      | true =>
        rw [← ih]
        simp [allT, hR]
      | false => simp [allT, hR]
    rw [e, sum_ite R (fun _ => false)]
    simp [prT]
/-! hits -/
def hitsL : List Fd → List (List Int) → List (List Int) → List Int
  | f :: g, p :: ps, d :: dss => (hitP f p d : Nat) :: hitsL g ps dss
  | _, _, _ => []
theorem rowW_cons (f : Fd) (g : List Fd) (h : Int) (row : List Int) : rowW (f :: g) (h :: row) = wthN f h.toNat * rowW g row := by
  unfold rowW lp
  rw [List.zip_cons_cons, List.map_cons, List.foldl_cons, foldl_mul, foldl_mul, Nat.one_mul, Nat.one_mul]
theorem draws_prT : ∀ {g : List Fd} {pk : List (List Int)} {row : List Int}, (∀ f ∈ g, f.ok) → Rel2 (fun f p => p ∈ parts f) g pk → RowOk g row → ∃ Rs, Rs.length = g.length ∧ prT g Rs = rowW g row ∧ ∀ d, Rel2 (fun f p => p ∈ parts f) g d → allT Rs d = decide (hitsL g pk d = row)
  | [], [], [], _, .nil, .nil => ⟨[], rfl, rfl, fun d hd => by cases hd; rfl⟩
  | f :: g, p :: pk, h :: row, hg, .cons h1 h2, .cons r1 r2 => by
    obtain ⟨Rs, z1, z2, z3⟩ := draws_prT (fun x hx => hg x (List.mem_cons_of_mem _ hx)) h2 r2
    refine ⟨(fun d => hitP f p d == h.toNat) :: Rs, by rw [List.length_cons, z1]; rfl, ?_, fun d hd => ?_⟩
    · rw [rowW_cons, ← z2]
      show (parts f).countP _ * _ = _
      rw [wth_count (hg f List.mem_cons_self) h1 (by have := r1.1; have := r1.2; omega)]
    · cases hd with
      | cons q1 q2 =>
        rename_i d0 d
        show ((hitP f p d0 == h.toNat) && allT Rs d) = _
        rw [z3 d q2]
        have e : (hitP f p d0 == h.toNat) = decide ((hitP f p d0 : Int) = h) := by
          rw [Bool.eq_iff_iff, beq_iff_eq, decide_eq_true_iff]
          have := r1.1
          omega
        rw [e]
        show _ = decide (((hitP f p d0 : Nat) : Int) :: hitsL g pk d = h :: row)
        rw [Bool.eq_iff_iff]
        simp
theorem draws_row {g : List Fd} {pk : List (List Int)} {row : List Int} (hg : ∀ f ∈ g, f.ok) (hp : pk ∈ foldF g) (hr : RowOk g row) : (foldF g).countP (fun d => decide (hitsL g pk d = row)) = rowW g row := by
  obtain ⟨Rs, h1, h2, h3⟩ := draws_prT hg (foldF_rel hp) hr
  rw [← h2, ← count_allT g Rs h1.symm, ← foldF_C]
  exact List.countP_congr fun d hd => by rw [h3 d (foldF_rel hd)]
/-- what a system wins -/
def winR : List (List Int) → List Int → Int
  | ws :: wss, h :: row => ws.getD h.toNat 0 * winR wss row
  | _, _ => 1
inductive PwsOk : List Fd → List SPt → List (List Int) → List (List Int) → Prop
  | nil : PwsOk [] [] [] []
  | cons {f : Fd} {g : List Fd} {sp : SPt} {sy : List SPt} {e : List Int} {d : List (List Int)} {ws : List Int} {wss : List (List Int)} : okSP f sp → e ∈ parts f → PwOk f sp e ws → PwsOk g sy d wss → PwsOk (f :: g) (sp :: sy) (e :: d) (ws :: wss)
theorem holdsG_cons (sp : SPt) (sy : List SPt) (p : List Int) (pk : List (List Int)) : holdsG (sp :: sy) (p :: pk) = (holdsP sp p && holdsG sy pk) := by unfold holdsG; rw [List.zip_cons_cons, List.all_cons]
theorem wins_prT : ∀ {g : List Fd} {sy : List SPt} {d : List (List Int)} {wss : List (List Int)} {row : List Int}, (∀ f ∈ g, f.ok) → PwsOk g sy d wss → RowOk g row → ∃ Rs, Rs.length = g.length ∧ ((prT g Rs : Nat) : Int) = winR wss row ∧ ∀ pk, Rel2 (fun f p => p ∈ parts f) g pk → allT Rs pk = (holdsG sy pk && decide (hitsL g pk d = row))
  | [], [], [], [], [], _, .nil, .nil => ⟨[], rfl, rfl, fun d hd => by cases hd; rfl⟩
  | f :: g, sp :: sy, e :: d, ws :: wss, h :: row, hg, .cons h1 h2 h3 h4, .cons r1 r2 => by
    obtain ⟨Rs, z1, z2, z3⟩ := wins_prT (fun x hx => hg x (List.mem_cons_of_mem _ hx)) h4 r2
    obtain ⟨_, hc⟩ := pw_count (hg f List.mem_cons_self) h1 h2 h3
    refine ⟨(fun p => holdsP sp p && (hitP f p e == h.toNat)) :: Rs, by rw [List.length_cons, z1]; rfl, ?_, fun pk hd => ?_⟩
    · show (((parts f).countP _ * prT g Rs : Nat) : Int) = ws.getD h.toNat 0 * winR wss row
      rw [Int.natCast_mul, z2, hc h.toNat (by have := r1.1; have := r1.2; omega)]
      rfl
    · cases hd with
      | cons q1 q2 =>
        rename_i p pk
        show ((holdsP sp p && (hitP f p e == h.toNat)) && allT Rs pk) = _
        rw [z3 pk q2, holdsG_cons]
        have e' : (hitP f p e == h.toNat) = decide ((hitP f p e : Int) = h) := by
          rw [Bool.eq_iff_iff, beq_iff_eq, decide_eq_true_iff]
          have := r1.1
          omega
        rw [e']
        show _ = ((holdsP sp p && holdsG sy pk) && decide (((hitP f p e : Nat) : Int) :: hitsL g pk d = h :: row))
        rw [Bool.eq_iff_iff]
        simp
        constructor
        · rintro ⟨⟨a, b⟩, c, d⟩; exact ⟨⟨a, c⟩, b, d⟩
        · rintro ⟨⟨a, c⟩, b, d⟩; exact ⟨⟨a, b⟩, c, d⟩
theorem wins_row {g : List Fd} {sy : List SPt} {d : List (List Int)} {wss : List (List Int)} {row : List Int} (hg : ∀ f ∈ g, f.ok) (hp : PwsOk g sy d wss) (hr : RowOk g row) : winR wss row = (((foldF g).countP fun pk => holdsG sy pk && decide (hitsL g pk d = row) : Nat) : Int) := by
  obtain ⟨Rs, h1, h2, h3⟩ := wins_prT hg hp hr
  rw [← h2, ← count_allT g Rs h1.symm, ← foldF_C]
  congr 1
  exact List.countP_congr fun pk hk => by rw [h3 pk (foldF_rel hk)]
/-! classes -/
theorem count_mem {α : Type} (p : α → Bool) (F : α → List Int) : ∀ (c : List (List Int)), c.Nodup → ∀ (l : List α), (c.map fun r => l.countP fun x => p x && decide (F x = r)).sum = l.countP fun x => p x && decide (F x ∈ c)
  | [], _, l => by simp
  | r :: c, h, l => by
    obtain ⟨h1, h2⟩ := List.nodup_cons.mp h
    rw [List.map_cons, List.sum_cons, count_mem p F c h2 l]
    induction l with
    | nil => rfl
    | cons x l ih =>
      rw [List.countP_cons, List.countP_cons, List.countP_cons, ← ih]
      by_cases e : F x = r
      · have : ¬ F x ∈ c := by rw [e]; exact h1
        cases p x <;> simp [e, h1] <;> omega
      · by_cases e2 : F x ∈ c <;> cases p x <;> simp [e, e2] <;> omega
def clOf (own : List Int) : List (List (List Int)) → Nat → Option Nat
  | [], _ => none
  | c :: cs, i => if own ∈ c then some i else clOf own cs (i + 1)
theorem clOf_ge : ∀ {own : List Int} {cl : List (List (List Int))} {i k : Nat}, clOf own cl i = some k → i ≤ k ∧ ∃ c, cl[k - i]? = some c ∧ own ∈ c
  | own, [], i, k, h => by cases h
  | own, c :: cs, i, k, h => by
    unfold clOf at h
    split at h
    · rename_i hm; cases h; exact ⟨Nat.le_refl _, c, by simp, hm⟩
    · obtain ⟨h1, c', h2, h3⟩ := clOf_ge h
      refine ⟨by omega, c', ?_, h3⟩
      rw [show k - i = (k - (i + 1)) + 1 by omega, List.getElem?_cons_succ]
      exact h2
theorem clOf_mem : ∀ {cl : List (List (List Int))} {own : List Int} {i k : Nat} {c : List (List Int)}, cl.flatten.Nodup → cl[k]? = some c → own ∈ c → clOf own cl i = some (i + k)
  | [], own, i, k, c, _, h, _ => by simp at h
  | c0 :: cs, own, i, 0, c, hn, h, hm => by
    have : c0 = c := by simpa using h
    subst this
    unfold clOf
    rw [if_pos hm]; rfl
  | c0 :: cs, own, i, k + 1, c, hn, h, hm => by
    rw [List.flatten_cons] at hn
    obtain ⟨_, n2, n3⟩ := List.nodup_append.mp hn
    have h' : cs[k]? = some c := by simpa using h
    have : ¬ own ∈ c0 := fun z => n3 own z own (List.mem_flatten.mpr ⟨c, List.mem_of_getElem? h', hm⟩) rfl
    unfold clOf
    rw [if_neg this, clOf_mem n2 h' hm]
    congr 1
    omega
theorem clOf_iff {cl : List (List (List Int))} (hn : cl.flatten.Nodup) {own : List Int} {k : Nat} {c : List (List Int)} (h : cl[k]? = some c) : clOf own cl 0 = some k ↔ own ∈ c := by
  constructor
  · intro q
    obtain ⟨_, c', h2, h3⟩ := clOf_ge q
    rw [Nat.sub_zero, h] at h2
    cases h2; exact h3
  · intro q
    rw [clOf_mem hn h q]
    simp
theorem nodup_of_flat {cl : List (List (List Int))} (hn : cl.flatten.Nodup) : ∀ c ∈ cl, c.Nodup := by
  induction cl with
  | nil => intro c h; cases h
  | cons c0 cs ih =>
    rw [List.flatten_cons] at hn
    obtain ⟨n1, n2, _⟩ := List.nodup_append.mp hn
    intro c h
    rcases List.mem_cons.mp h with rfl | h
    · exact n1
    · exact ih n2 c h
/-- the winners of a class, by what a system wins -/
def winC (wss : List (List Int)) (c : List (List Int)) : Int := (c.map (winR wss)).sum
theorem sum_cast {α : Type} (F : α → Nat) : ∀ (l : List α), (l.map fun x => ((F x : Nat) : Int)).sum = ((l.map F).sum : Nat)
  | [] => rfl
  | x :: l => by rw [List.map_cons, List.sum_cons, sum_cast F l, List.map_cons, List.sum_cons, Int.natCast_add]
theorem winC_eq {g : List Fd} {sy : List SPt} {d : List (List Int)} {wss : List (List Int)} {cl : List (List (List Int))} {k : Nat} {c : List (List Int)} (hg : ∀ f ∈ g, f.ok) (hp : PwsOk g sy d wss) (hn : cl.flatten.Nodup) (hk : cl[k]? = some c) (hr : ∀ r ∈ c, RowOk g r) :
    winC wss c = (((foldF g).countP fun pk => holdsG sy pk && decide (clOf (hitsL g pk d) cl 0 = some k) : Nat) : Int) := by
  have e1 : winC wss c = ((c.map fun r => (foldF g).countP fun pk => holdsG sy pk && decide (hitsL g pk d = r)).sum : Nat) := by
    rw [← sum_cast]
    unfold winC
    congr 1
    exact List.map_congr_left fun r hx => wins_row hg hp (hr r hx)
  rw [e1, count_mem _ (fun pk => hitsL g pk d) c (nodup_of_flat hn c (List.mem_of_getElem? hk))]
  congr 2
  funext pk
  congr 1
  rw [Bool.eq_iff_iff, decide_eq_true_iff, decide_eq_true_iff]
  exact (clOf_iff hn hk).symm
theorem drawsC_eq {g : List Fd} {pk : List (List Int)} {cl : List (List (List Int))} {k : Nat} {c : List (List Int)} (hg : ∀ f ∈ g, f.ok) (hp : pk ∈ foldF g) (hn : cl.flatten.Nodup) (hk : cl[k]? = some c) (hr : ∀ r ∈ c, RowOk g r) :
    (foldF g).countP (fun d => decide (clOf (hitsL g pk d) cl 0 = some k)) = clsW g c := by
  have e1 : clsW g c = (c.map fun r => (foldF g).countP fun d => true && decide (hitsL g pk d = r)).sum := by
    unfold clsW
    congr 1
    exact List.map_congr_left fun r hx => by simp only [Bool.true_and]; exact (draws_row hg hp (hr r hx)).symm
  rw [e1, count_mem _ (fun d => hitsL g pk d) c (nodup_of_flat hn c (List.mem_of_getElem? hk))]
  congr 1
  funext d
  rw [Bool.true_and, Bool.eq_iff_iff, decide_eq_true_iff, decide_eq_true_iff]
  exact clOf_iff hn hk
/-- counted by rows, counted by columns -/
theorem count_swap {α β : Type} (R : α → β → Bool) (xs : List α) : ∀ (ys : List β), (xs.map fun x => ys.countP (R x)).sum = (ys.map fun y => xs.countP fun x => R x y).sum
  | [] => by
    simp only [List.countP_nil, List.map_nil, List.sum_nil]
    induction xs with
    | nil => rfl
    | cons x xs ih => rw [List.map_cons, List.sum_cons, ih]; rfl
  | y :: ys => by
    rw [List.map_cons, List.sum_cons, ← count_swap R xs ys]
    have e : (xs.map fun x => (y :: ys).countP (R x)) = xs.map fun x => ys.countP (R x) + (if R x y = true then 1 else 0) := List.map_congr_left fun x _ => by rw [List.countP_cons]
    rw [e]
    clear e
    induction xs with
    | nil => rfl
    | cons x xs ih => rw [List.map_cons, List.sum_cons, List.map_cons, List.sum_cons, List.countP_cons, ih]; omega

end LW
set_option Elab.async false
set_option linter.all false
set_option maxRecDepth 100000
set_option maxHeartbeats 4000000
namespace LW
open PySem PySem.Spec PyProof.Rows L2 RT DL
theorem hitsL_zip : ∀ (g : List Fd) (pk d : List (List Int)), hitsL g pk d = (g.zip (pk.zip d)).map fun z => ((hitP z.1 z.2.1 z.2.2 : Nat) : Int)
  | [], _, _ => by simp [hitsL]
  | _ :: _, [], _ => by simp [hitsL]
  | _ :: _, _ :: _, [] => by simp [hitsL]
  | f :: g, p :: pk, e :: d => by
    rw [hitsL, hitsL_zip g pk d]
    rfl
theorem hits_eq {g : List Fd} (hg : ∀ f ∈ g, f.ok) (hl : g.length ≤ 3) {pk d : List (List Int)} (hp : Rel2 (fun f p => p ∈ parts f) g pk) (hd : Rel2 (fun f p => p ∈ parts f) g d) :
    FE f_hits [.d (encG g), .d (encP pk), .d (encP d)] (.val (.tuple (iL (hitsL g pk d)))) none := by
  have hpl := hp.len
  have hdl := hd.len
  have key := for_pre (c := .tu [.nm 4, .nm 5, .nm 6]) (b := lb_hits_1) (fun z : Fd × (List Int × List Int) => PyData.tuple [encF z.1, enc1 z.2.1, enc1 z.2.2]) (fun pre => [.val (encG g), .val (encP pk), .val (encP d), .own (.ls (iL (pre.map fun z => ((hitP z.1 z.2.1 z.2.2 : Nat) : Int)))), .un, .un, .un, .un]) (g.zip (pk.zip d)) (by
    rintro pre ⟨f, p, e⟩ suf h
    have hz : (g.zip (pk.zip d))[pre.length]? = some (f, p, e) := by rw [h]; simp
    obtain ⟨hf, hz2⟩ := List.getElem?_zip_eq_some.mp hz
    obtain ⟨hz3, hz4⟩ := List.getElem?_zip_eq_some.mp hz2
    dsimp only at hf hz3 hz4
    have hfo := hg f (List.mem_of_getElem? hf)
    have hpre : pre.length < g.length := (List.getElem?_eq_some_iff.mp hf).1
    obtain ⟨p', hp1, hp2⟩ := hp.get hf
    obtain ⟨e', he1, he2⟩ := hd.get hf
    rw [hz3] at hp1; cases hp1
    rw [hz4] at he1; cases he1
    have hpk := partsN_len f f.k p hp2
    have hek := partsN_len f f.k e he2
    obtain ⟨f1, f2, f3, f4, f5⟩ := hfo
    have fin : iL (pre.map fun z => ((hitP z.1 z.2.1 z.2.2 : Nat) : Int)) ++ [.int ((hitP f p e : Nat) : Int)] = iL ((pre ++ [(f, p, e)]).map fun z => ((hitP z.1 z.2.1 z.2.2 : Nat) : Int)) := by simp
    refine ⟨_, (by dsimp only; ((with_reducible (apply BCT.tu; apply BCTs.cons; apply BCT.nm; (iterate 4 apply FPut.s); exact FPut.u; apply BCTs.cons; apply BCT.nm; (iterate 5 apply FPut.s); exact FPut.u; apply BCTs.cons; apply BCT.nm; (iterate 6 apply FPut.s); exact FPut.u; exact BCTs.nil)))), ?_⟩
    unfold lb_hits_1
    ((with_reducible (apply s_fg; apply s_ite; apply g_TB; apply g_bin; apply g_ex; apply g_bin; apply g_nm; (iterate 4 apply DAt.s); exact DAt.v; apply g_ex; apply g_C; apply datk_v; apply bink; apply Res.nm; (iterate 4 apply DAt.s); exact DAt.v; exact Res.dat; apply oo_ixT; exact ix0; apply datk_v; apply g_ex; apply g_C; apply datk_v; apply bink; (iterate 2 exact Res.dat); exact oo_eqS _ _; apply boolk)))
    refine ifk_d (fun h0 => ?_) (fun h0 => ?_)
    · have hk := kd_ch.mp h0
      ((with_reducible (apply s_drop; apply g_app; (iterate 3 apply LAt.s); exact LAt.o; apply g_call; apply g_evC; apply g_ex; apply g_lc; apply g_it; apply g_escN; apply g_name; (iterate 5 apply NmAt.s); exact NmAt.v; apply datk_v; apply itk; exact It.t; apply lck)); ((with_reducible apply fits_of); ((try simp only [List.length_append, List.length_cons, List.length_nil, List.length_map, List.length_replicate, List.length_reverse, List.length_dropLast]); (first | assumption | omega | decide))); (with_reducible (apply UnR.cons; exact UnR.nil; (iterate 7 apply FPut.s); exact FPut.u)))
      refine lce (lc_pre (vs := [7]) (c := .nm 7) PyData.int (fun _ => _) (fun x => decide (x ∈ e)) (fun _ => PyData.int 1) p fun pre x suf h => ?_) ?_
      · refine ⟨_, .nm (by ((with_reducible ((iterate 7 apply FPut.s); exact FPut.u)))), ?_⟩
        ((with_reducible (apply g_TB; apply g_bin; apply g_nm; (iterate 7 apply DAt.s); exact DAt.v; apply g_nm; (iterate 6 apply DAt.s); exact DAt.v; apply bink; apply Res.nm; (iterate 7 apply DAt.s); exact DAt.v; apply Res.nm; (iterate 6 apply DAt.s); exact DAt.v)))
        · exact oo_inT EO.int (by decide) x e
        ((with_reducible (apply boolk)))
        refine ⟨rfl, ?_⟩
        refine ifk_b (fun h0 => ?_) (fun h0 => ?_)
        · ((with_reducible (apply g_C)))
          exact ⟨rfl, by ((with_reducible (apply UnR.cons; exact UnR.nil; (iterate 7 apply FPut.s); exact FPut.v)))⟩
        · ((with_reducible (apply UnR.cons; exact UnR.nil; (iterate 7 apply FPut.s); exact FPut.v)))
      ((with_reducible (apply datk_o; apply g_evN; apply callk; apply ResAll.cons; exact Res.dat; exact ResAll.nil; apply opn_1; exact oo_lenL _; apply datk_v; apply appk; (iterate 3 apply LAt.s); exact LAt.o)); ((with_reducible apply fits1_of); ((try simp only [List.length_append, List.length_cons, List.length_nil, List.length_map, List.length_replicate, List.length_reverse, List.length_dropLast]); (first | assumption | omega | decide))); (with_reducible (apply kf_nx; apply Fgs.cons; (iterate 4 apply Fg1.s); exact Fg1.v; apply Fgs.cons; (iterate 5 apply Fg1.s); exact Fg1.v; apply Fgs.cons; (iterate 6 apply Fg1.s); exact Fg1.v; exact Fgs.nil; apply qn_nx)))
      rw [List.length_map, ← fin]
      unfold hitP
      rw [hk]
    · have hk : f.kd ≠ .ch := fun z => h0 (kd_ch.mpr z)
      ((with_reducible (apply s_ite; apply g_TB; apply g_bin; apply g_ex; apply g_bin; apply g_nm; (iterate 4 apply DAt.s); exact DAt.v; apply g_ex; apply g_C; apply datk_v; apply bink; apply Res.nm; (iterate 4 apply DAt.s); exact DAt.v; exact Res.dat; apply oo_ixT; exact ix0; apply datk_v; apply g_ex; apply g_C; apply datk_v; apply bink; (iterate 2 exact Res.dat); exact oo_eqS _ _; apply boolk)))
      refine ifk_d (fun h1 => ?_) (fun h1 => ?_)
      · have hk := kd_fi.mp h1
        ((with_reducible (apply s_drop; apply g_app; (iterate 3 apply LAt.s); exact LAt.o; apply g_def; apply g_caV; apply g_escN; apply g_name; (iterate 5 apply NmAt.s); exact NmAt.v; apply datk_v; apply g_caV; apply g_escN; apply g_name; (iterate 6 apply NmAt.s); exact NmAt.v; apply datk_v; apply g_caN; apply defk_d; (iterate 2 apply RA.d); exact RA.nil)); ((with_reducible apply DfO.d); exact ⟨rfl, rfl, rfl⟩))
        · exact sip_eq (by omega)
        ((with_reducible (apply datk_v; apply appk; (iterate 3 apply LAt.s); exact LAt.o)); ((with_reducible apply fits1_of); ((try simp only [List.length_append, List.length_cons, List.length_nil, List.length_map, List.length_replicate, List.length_reverse, List.length_dropLast]); (first | assumption | omega | decide))); (with_reducible (apply kf_nx; apply Fgs.cons; (iterate 4 apply Fg1.s); exact Fg1.v; apply Fgs.cons; (iterate 5 apply Fg1.s); exact Fg1.v; apply Fgs.cons; (iterate 6 apply Fg1.s); exact Fg1.v; exact Fgs.nil; apply qn_nx)))
        rw [← fin]
        unfold hitP
        rw [hk]
      · have hk2 : f.kd = .ta := by
          cases hq : f.kd
          · exact absurd hq hk
          · exact absurd (kd_fi.mpr hq) h1
          · rfl
        ((with_reducible (apply s_drop; apply g_app; (iterate 3 apply LAt.s); exact LAt.o; apply g_def; apply g_caV; apply g_escN; apply g_name; (iterate 5 apply NmAt.s); exact NmAt.v; apply datk_v; apply g_caV; apply g_escN; apply g_name; (iterate 6 apply NmAt.s); exact NmAt.v; apply datk_v; apply g_caN; apply defk_d; (iterate 2 apply RA.d); exact RA.nil)); ((with_reducible apply DfO.d); exact ⟨rfl, rfl, rfl⟩))
        · exact sae_eq (by omega) (by omega)
        ((with_reducible (apply datk_v; apply appk; (iterate 3 apply LAt.s); exact LAt.o)); ((with_reducible apply fits1_of); ((try simp only [List.length_append, List.length_cons, List.length_nil, List.length_map, List.length_replicate, List.length_reverse, List.length_dropLast]); (first | assumption | omega | decide))); (with_reducible (apply kf_nx; apply Fgs.cons; (iterate 4 apply Fg1.s); exact Fg1.v; apply Fgs.cons; (iterate 5 apply Fg1.s); exact Fg1.v; apply Fgs.cons; (iterate 6 apply Fg1.s); exact Fg1.v; exact Fgs.nil; apply qn_nx)))
        rw [← fin]
        unfold hitP
        rw [hk2])
  refine fe_of ?_
  unfold m_hits
  show RS _ [.val (encG g), .val (encP pk), .val (encP d), .un, .un, .un, .un, .un] _
  ((with_reducible (apply s_seq; apply s_set; apply g_lst; apply g_elN; apply And.intro (a := Fits _))); ((with_reducible apply fits_of); ((try simp only [List.length_append, List.length_cons, List.length_nil, List.length_map, List.length_replicate, List.length_reverse, List.length_dropLast]); (first | assumption | omega | decide))); (with_reducible (apply slk_o; apply stk; (iterate 3 apply FPut.s); exact FPut.u; apply ks_nx; apply s_seq; apply s_for; apply g_itG; apply g_elO; apply g_escN; apply g_name; exact NmAt.v; apply datk_v; apply g_elO; apply g_escN; apply g_name; apply NmAt.s; exact NmAt.v; apply datk_v; apply g_elO; apply g_escN; apply g_name; (iterate 2 apply NmAt.s); exact NmAt.v; apply datk_v; apply g_elN; apply oplk; apply opl_zip3; (iterate 3 exact It.t))))
  rw [zip3_map]
  refine forK key ?_
  ((with_reducible (apply ks_nx; apply s_ret; apply g_call; apply g_evC; apply g_nm; (iterate 3 apply DAt.s); exact DAt.o; apply g_evN; apply callk; apply ResAll.cons; apply Res.nm; (iterate 3 apply DAt.s); exact DAt.o; exact ResAll.nil; apply opn_1; exact oo_tupL _; apply qd_rt; (iterate 3 apply IoR.val); apply IoR.own; (iterate 4 apply IoR.un); exact IoR.nil)))
  rw [hitsL_zip]
def optD : Option Nat → D
  | some k => .int (k : Nat)
  | none => .none
theorem class_eq {g : List Fd} (hg : ∀ f ∈ g, f.ok) (hl : g.length ≤ 3) {pk d : List (List Int)} (hp : Rel2 (fun f p => p ∈ parts f) g pk) (hd : Rel2 (fun f p => p ∈ parts f) g d) (cl : List (List (List Int))) :
    FE f_class_of [.d (encG g), .d (.tuple (encC cl)), .d (encP pk), .d (encP d)] (.val (optD (clOf (hitsL g pk d) cl 0))) none := by
  have key := for_ret (c := .tu [.nm 5, .nm 6]) (b := lb_class_of_1) (fun z : List (List Int) × Nat => PyData.tuple [.int (z.2 : Nat), .tuple (z.1.map enc1)])
    (fun pre ρ => ρ = [.val (encG g), .val (.tuple (encC cl)), .val (encP pk), .val (encP d), .val (enc1 (hitsL g pk d)), .un, .un] ∧ clOf (hitsL g pk d) cl 0 = clOf (hitsL g pk d) (cl.drop pre.length) pre.length)
    (fun r ρ => r = .val (optD (clOf (hitsL g pk d) cl 0)) ∧ IoR ρ none) (xs := cl.zipIdx)
    (ρ := [.val (encG g), .val (.tuple (encC cl)), .val (encP pk), .val (encP d), .val (enc1 (hitsL g pk d)), .un, .un]) ⟨rfl, rfl⟩ (by
      rintro pre ⟨c, k⟩ suf ρ e ⟨rfl, hc⟩
      have hx : cl.zipIdx[pre.length]? = some (c, k) := by rw [e]; simp
      rw [List.getElem?_zipIdx] at hx
      obtain ⟨hr, hk⟩ : cl[pre.length]? = some c ∧ k = pre.length := by
        cases hq : cl[pre.length]? with
        | none => rw [hq] at hx; simp at hx
        | some r => rw [hq] at hx; simp at hx; exact ⟨by rw [hx.1], by omega⟩
      subst hk
      have hlen : pre.length < cl.length := (List.getElem?_eq_some_iff.mp hr).1
      have hdrop : cl.drop pre.length = c :: cl.drop (pre.length + 1) := by
        rw [List.drop_eq_getElem_cons hlen]
        have := List.getElem?_eq_getElem hlen
        rw [hr] at this
        rw [← Option.some.inj this]
      rw [hdrop, clOf] at hc
      refine ⟨_, (by dsimp only; ((with_reducible (apply BCT.tu; apply BCTs.cons; apply BCT.nm; (iterate 5 apply FPut.s); exact FPut.u; apply BCTs.cons; apply BCT.nm; (iterate 6 apply FPut.s); exact FPut.u; exact BCTs.nil)))), ?_⟩
      unfold lb_class_of_1
      ((with_reducible (apply s_fg; apply s_ite; apply g_TB; apply g_bin; apply g_nm; (iterate 4 apply DAt.s); exact DAt.v; apply g_nm; (iterate 6 apply DAt.s); exact DAt.v; apply bink; apply Res.nm; (iterate 4 apply DAt.s); exact DAt.v; apply Res.nm; (iterate 6 apply DAt.s); exact DAt.v)))
      · exact oo_inT EO1 (by decide) (hitsL g pk d) c
      ((with_reducible (apply boolk)))
      refine ifk_d (fun h0 => ?_) (fun h0 => ?_)
      · rw [if_pos h0] at hc
        ((with_reducible (apply s_retNm; (iterate 5 apply RtAt.s); exact RtAt.v; apply kf_rt; apply qr_rt)))
        refine ⟨?_, by ((with_reducible ((iterate 7 apply IoR.val); exact IoR.nil)))⟩
        rw [hc]
        rfl
      · rw [if_neg h0] at hc
        ((with_reducible (apply s_sk; apply kf_nx; apply Fgs.cons; (iterate 5 apply Fg1.s); exact Fg1.v; apply Fgs.cons; (iterate 6 apply Fg1.s); exact Fg1.v; exact Fgs.nil; apply qr_nx)))
        refine ⟨rfl, ?_⟩
        rw [hc, List.length_append, List.length_singleton])
  refine fe_of ?_
  unfold m_class_of
  show RS _ [.val (encG g), .val (.tuple (encC cl)), .val (encP pk), .val (encP d), .un, .un, .un] _
  ((with_reducible (apply s_seq; apply s_setV; apply g_def; apply g_caV; apply g_escN; apply g_name; exact NmAt.v; apply datk_v; apply g_caV; apply g_escN; apply g_name; (iterate 2 apply NmAt.s); exact NmAt.v; apply datk_v; apply g_caV; apply g_escN; apply g_name; (iterate 3 apply NmAt.s); exact NmAt.v; apply datk_v; apply g_caN; apply defk_d; (iterate 3 apply RA.d); exact RA.nil)); ((with_reducible apply DfO.d); exact ⟨rfl, rfl, rfl⟩))
  · exact hits_eq hg hl hp hd
  ((with_reducible (apply datk_v; apply stk; (iterate 4 apply FPut.s); exact FPut.u; apply ks_nx; apply s_seq; apply s_for; apply g_itG; apply g_elO; apply g_escN; apply g_name; apply NmAt.s; exact NmAt.v; apply datk_v; apply g_elN; apply oplk; apply opl_enum; exact It.t)))
  rw [show encC cl = cl.map (fun c => PyData.tuple (c.map enc1)) from rfl, enum_map]
  rcases key with ⟨ρ', h1, rfl, h2⟩ | ⟨r, ρ', h1, rfl, h2⟩
  · refine forK h1 ?_
    ((with_reducible (apply ks_nx; apply s_ret; apply g_C; apply qd_rt; (iterate 5 apply IoR.val); (iterate 2 apply IoR.un); exact IoR.nil)))
    rw [h2, List.length_zipIdx, List.drop_length]
    rfl
  · refine forK h1 ?_
    ((with_reducible (apply ks_rt; apply qd_rt)))
    · exact h2
    rfl
/-! wins -/
def lpI (l : List Int) : Int := l.foldl (· * ·) 1
theorem lpI_snoc (l : List Int) (a : Int) : lpI (l ++ [a]) = lpI l * a := by unfold lpI; rw [List.foldl_append]; rfl
theorem foldl_mulI : ∀ (l : List Int) (a : Int), l.foldl (· * ·) a = a * l.foldr (· * ·) 1
  | [], a => by simp
  | x :: l, a => by rw [List.foldl_cons, foldl_mulI l, List.foldr_cons, Int.mul_assoc]
theorem winR_lp : ∀ (wss : List (List Int)) (row : List Int), winR wss row = lpI ((wss.zip row).map fun z => z.1.getD z.2.toNat 0)
  | [], _ => by simp [winR, lpI]
  | _ :: _, [] => by simp [winR, lpI]
  | ws :: wss, h :: row => by
    rw [winR, winR_lp wss row, List.zip_cons_cons, List.map_cons]
    unfold lpI
    rw [List.foldl_cons, foldl_mulI, foldl_mulI, Int.one_mul, Int.one_mul]
theorem cntP_le {f : Fd} (hf : f.ok) (sp : SPt) (e : List Int) (c : Nat) : cntP f sp e c ≤ 1331 := Nat.le_trans (List.countP_le_length) (parts_size hf.2.1 hf.2.2.2.1)
theorem PwsOk.zip : ∀ {g : List Fd} {sy : List SPt} {d : List (List Int)} {wss : List (List Int)} {row : List Int}, (∀ f ∈ g, f.ok) → PwsOk g sy d wss → RowOk g row → ∀ z ∈ wss.zip row, 0 ≤ z.2 ∧ z.2 < z.1.length ∧ 0 ≤ z.1.getD z.2.toNat 0 ∧ z.1.getD z.2.toNat 0 ≤ 1331
  | [], [], [], [], [], _, .nil, .nil => fun z h => by simp at h
  | f :: g, sp :: sy, e :: d, ws :: wss, h :: row, hg, .cons h1 h2 h3 h4, .cons r1 r2 => fun z hz => by
    rw [List.zip_cons_cons] at hz
    rcases List.mem_cons.mp hz with rfl | hz
    · have hf := hg f List.mem_cons_self
      obtain ⟨q1, q2⟩ := pw_count hf h1 h2 h3
      dsimp only
      obtain ⟨a, b⟩ := r1
      rw [q2 h.toNat (by omega), q1]
      have := cntP_le hf sp e h.toNat
      exact ⟨a, by omega, by omega, by omega⟩
    · exact PwsOk.zip (fun x hx => hg x (List.mem_cons_of_mem _ hx)) h4 r2 z hz
theorem pws_of : ∀ (g : List Fd) (sy : List SPt) (d : List (List Int)), Rel2 okSP g sy → Rel2 (fun f p => p ∈ parts f) g d → ∀ wss, Rel2 (fun (z : Fd × (SPt × List Int)) ws => PwOk z.1 z.2.1 z.2.2 ws) (g.zip (sy.zip d)) wss → PwsOk g sy d wss
  | [], [], [], .nil, .nil, wss, h => by cases h; exact .nil
  | f :: g, sp :: sy, e :: d, .cons s1 s2, .cons d1 d2, wss, h => by
    rw [List.zip_cons_cons, List.zip_cons_cons] at h
    cases h with
    | cons w1 w2 => exact .cons s1 d1 w1 (pws_of g sy d s2 d2 _ w2)
abbrev encW (ws : List Int) : D := .list (iL ws)
theorem wins_eq {g : List Fd} (hg : ∀ f ∈ g, f.ok) (hl : g.length ≤ 3) {sy : List SPt} (hs : Rel2 okSP g sy) {d : List (List Int)} (hd : Rel2 (fun f p => p ∈ parts f) g d) {cl : List (List (List Int))} (hr : ∀ c ∈ cl, ∀ r ∈ c, RowOk g r) (hcl : cl.length ≤ 4) :
    ∃ wss, PwsOk g sy d wss ∧ FE f_wins [.d (encG g), .d (.tuple (encC cl)), .d (.tuple (sy.map encSP)), .d (encP d)] (.val (.tuple (iL (cl.map (winC wss))))) none := by
  have hsl := hs.len
  have hdl := hd.len
  obtain ⟨out, ρ', h1, wss, rfl, hw, rfl⟩ := lc_inv (vs := [5, 6, 7]) (c := .tu [.nm 5, .nm 6, .nm 7]) (t := mYes) (m := mDef 3 f_part_ways [.v (.nm 5), .v (.nm 6), .v (.nm 7)]) (fun z : Fd × (SPt × List Int) => PyData.tuple [encF z.1, encSP z.2.1, enc1 z.2.2])
    (fun pre out ρ => ∃ wss : List (List Int), out = wss.map encW ∧ Rel2 (fun (z : Fd × (SPt × List Int)) ws => PwOk z.1 z.2.1 z.2.2 ws) pre wss ∧ ρ = [.val (encG g), .val (.tuple (encC cl)), .val (.tuple (sy.map encSP)), .val (encP d), .un, .un, .un, .un, .un, .un, .un, .un, .un, .un, .un]) (xs := g.zip (sy.zip d))
    (ρ := [.val (encG g), .val (.tuple (encC cl)), .val (.tuple (sy.map encSP)), .val (encP d), .un, .un, .un, .un, .un, .un, .un, .un, .un, .un, .un]) ⟨[], rfl, .nil, rfl⟩ (by
      rintro pre ⟨f, sp, e⟩ suf out ρ h ⟨wss, rfl, hw, rfl⟩
      have hz : (g.zip (sy.zip d))[pre.length]? = some (f, sp, e) := by rw [h]; simp
      obtain ⟨hf, hz2⟩ := List.getElem?_zip_eq_some.mp hz
      obtain ⟨hz3, hz4⟩ := List.getElem?_zip_eq_some.mp hz2
      dsimp only at hf hz3 hz4
      have hfo := hg f (List.mem_of_getElem? hf)
      obtain ⟨p', hp1, hp2⟩ := hs.get hf
      obtain ⟨e', he1, he2⟩ := hd.get hf
      rw [hz3] at hp1; cases hp1
      rw [hz4] at he1; cases he1
      obtain ⟨ws, r, q1, q2, q3⟩ := pw_eq hfo hp2 he2
      refine ⟨_, (by dsimp only; ((with_reducible (apply BCT.tu; apply BCTs.cons; apply BCT.nm; (iterate 5 apply FPut.s); exact FPut.u; apply BCTs.cons; apply BCT.nm; (iterate 6 apply FPut.s); exact FPut.u; apply BCTs.cons; apply BCT.nm; (iterate 7 apply FPut.s); exact FPut.u; exact BCTs.nil)))), ?_⟩
      ((with_reducible (apply g_yes; apply ifk_t; apply g_def; apply g_caV; apply g_escN; apply g_name; (iterate 5 apply NmAt.s); exact NmAt.v; apply datk_v; apply g_caV; apply g_escN; apply g_name; (iterate 6 apply NmAt.s); exact NmAt.v; apply datk_v; apply g_caV; apply g_escN; apply g_name; (iterate 7 apply NmAt.s); exact NmAt.v; apply datk_v; apply g_caN; apply defk_d; (iterate 3 apply RA.d); exact RA.nil)); ((with_reducible apply DfO.d); exact ⟨rfl, rfl, rfl⟩); (with_reducible (assumption)))
      exact ⟨_, by ((with_reducible ((iterate 3 apply UnR.cons); exact UnR.nil; (iterate 7 apply FPut.s); exact FPut.v; (iterate 6 apply FPut.s); exact FPut.v; (iterate 5 apply FPut.s); exact FPut.v))), wss ++ [ws], by rw [q2]; simp, hw.snoc q3, rfl⟩)
  have hp := pws_of g sy d hs hd wss hw
  refine ⟨wss, hp, ?_⟩
  have loop1 : ∀ {s0 s1 s2 s3 s5 s6 s7 s8 s9 s10 s11 : Sl} {row : List Int}, RowOk g row → forD (.tu [.nm 13, .nm 14]) lb_wins_1 ((wss.zip row).map fun z => .tuple [encW z.1, .int z.2]) [s0, s1, s2, s3, .val (.list (wss.map encW)), s5, s6, s7, s8, s9, s10, s11, .val (.int 1), .un, .un] =
      .nx [s0, s1, s2, s3, .val (.list (wss.map encW)), s5, s6, s7, s8, s9, s10, s11, .val (.int (winR wss row)), .un, .un] := by
    intro s0 s1 s2 s3 s5 s6 s7 s8 s9 s10 s11 row hrow
    have hzz := hp.zip hg hrow
    rw [winR_lp]
    exact for_pre (c := .tu [.nm 13, .nm 14]) (b := lb_wins_1) (fun z : List Int × Int => PyData.tuple [encW z.1, .int z.2]) (fun pre => [s0, s1, s2, s3, .val (.list (wss.map encW)), s5, s6, s7, s8, s9, s10, s11, .val (.int (lpI (pre.map fun z => z.1.getD z.2.toNat 0))), .un, .un]) (wss.zip row) (by
      rintro pre ⟨ws, h⟩ suf e
      obtain ⟨a, b, c, dd⟩ := hzz (ws, h) (by rw [e]; simp)
      dsimp only at a b c dd
      have xw : IxAt (iL ws) h (.int (ws.getD h.toNat 0)) := ixAt_rng (d := 0) ⟨a, b⟩
      refine ⟨_, (by dsimp only; ((with_reducible (apply BCT.tu; apply BCTs.cons; apply BCT.nm; (iterate 13 apply FPut.s); exact FPut.u; apply BCTs.cons; apply BCT.nm; (iterate 14 apply FPut.s); exact FPut.u; exact BCTs.nil)))), ?_⟩
      unfold lb_wins_1
      ((with_reducible (apply s_fg; apply s_aug; (iterate 12 apply DAt.s); exact DAt.v; apply g_ex; apply g_bin; apply g_nm; (iterate 13 apply DAt.s); exact DAt.v; apply g_nm; (iterate 14 apply DAt.s); exact DAt.v; apply bink; apply Res.nm; (iterate 13 apply DAt.s); exact DAt.v; apply Res.nm; (iterate 14 apply DAt.s); exact DAt.v; apply oo_ixL; assumption; apply datk_v; apply augk; (iterate 12 apply DAt.s); exact DAt.v; exact Res.dat; apply oo_mulI)); ((with_reducible refine mulOk_r ?_ ?_) <;> (first | decide | omega)); (with_reducible (apply stk; (iterate 12 apply FPut.s); exact FPut.v; apply kf_nx; apply Fgs.cons; (iterate 13 apply Fg1.s); exact Fg1.v; apply Fgs.cons; (iterate 14 apply Fg1.s); exact Fg1.v; exact Fgs.nil; apply qn_nx)))
      rw [List.map_append, List.map_singleton, lpI_snoc])
  have loop2 : ∀ {s0 s1 s2 s3 s5 s6 s7 s8 s9 : Sl} {c : List (List Int)}, (∀ r ∈ c, RowOk g r) → forD (.nm 11) lb_wins_2 (c.map enc1) [s0, s1, s2, s3, .val (.list (wss.map encW)), s5, s6, s7, s8, s9, .val (.int 0), .un, .un, .un, .un] =
      .nx [s0, s1, s2, s3, .val (.list (wss.map encW)), s5, s6, s7, s8, s9, .val (.int (winC wss c)), .un, .un, .un, .un] := by
    intro s0 s1 s2 s3 s5 s6 s7 s8 s9 c hc
    exact for_pre (c := .nm 11) (b := lb_wins_2) enc1 (fun pre => [s0, s1, s2, s3, .val (.list (wss.map encW)), s5, s6, s7, s8, s9, .val (.int (winC wss pre)), .un, .un, .un, .un]) c (by
      intro pre row suf e
      refine ⟨_, (by ((with_reducible (apply BCT.nm; (iterate 11 apply FPut.s); exact FPut.u)))), ?_⟩
      unfold lb_wins_2
      ((with_reducible (apply s_fg; apply s_seq; apply s_setV; apply g_C; apply datk_v; apply stk; (iterate 12 apply FPut.s); exact FPut.u; apply ks_nx; apply s_seq; apply s_for; apply g_itG; apply g_elO; apply g_escN; apply g_name; (iterate 4 apply NmAt.s); exact NmAt.v; apply datk_v; apply g_elO; apply g_escN; apply g_name; (iterate 11 apply NmAt.s); exact NmAt.v; apply datk_v; apply g_elN; apply oplk; apply opl_zip2; exact It.l; exact It.t)))
      rw [zip2_map]
      refine forK (loop1 (hc row (by rw [e]; simp))) ?_
      ((with_reducible (apply ks_nx; apply s_aug; (iterate 10 apply DAt.s); exact DAt.v; apply g_nm; (iterate 12 apply DAt.s); exact DAt.v; apply augk; (iterate 10 apply DAt.s); exact DAt.v; apply Res.nm; (iterate 12 apply DAt.s); exact DAt.v; exact oo_augI _ _; apply stk; (iterate 10 apply FPut.s); exact FPut.v; apply kf_nx; apply Fgs.cons; (iterate 11 apply Fg1.s); exact Fg1.v; apply Fgs.cons; (iterate 12 apply Fg1.s); exact Fg1.v; apply Fgs.cons; (iterate 13 apply Fg1.s); exact Fg1.u; apply Fgs.cons; (iterate 14 apply Fg1.s); exact Fg1.u; exact Fgs.nil; apply qn_nx)))
      unfold winC
      rw [List.map_append, List.sum_append]
      simp)
  have loop3 := for_pre (c := .nm 9) (b := lb_wins_3) (fun c : List (List Int) => PyData.tuple (c.map enc1)) (fun pre => [.val (encG g), .val (.tuple (encC cl)), .val (.tuple (sy.map encSP)), .val (encP d), .val (.list (wss.map encW)), .un, .un, .un, .own (.ls (iL (pre.map (winC wss)))), .un, .un, .un, .un, .un, .un]) cl (by
    intro pre c suf e
    have hpl : pre.length < cl.length := by rw [e]; simp
    refine ⟨_, (by ((with_reducible (apply BCT.nm; (iterate 9 apply FPut.s); exact FPut.u)))), ?_⟩
    unfold lb_wins_3
    ((with_reducible (apply s_fg; apply s_seq; apply s_setV; apply g_C; apply datk_v; apply stk; (iterate 10 apply FPut.s); exact FPut.u; apply ks_nx; apply s_seq; apply s_for; apply g_it; apply g_escN; apply g_name; (iterate 9 apply NmAt.s); exact NmAt.v; apply datk_v; apply itk; exact It.t)))
    refine forK (loop2 (hr c (by rw [e]; simp))) ?_
    ((with_reducible (apply ks_nx; apply s_drop; apply g_app; (iterate 8 apply LAt.s); exact LAt.o; apply g_name; (iterate 10 apply NmAt.s); exact NmAt.v; apply datk_v; apply appk; (iterate 8 apply LAt.s); exact LAt.o)); ((with_reducible apply fits1_of); ((try simp only [List.length_append, List.length_cons, List.length_nil, List.length_map, List.length_replicate, List.length_reverse, List.length_dropLast]); (first | assumption | omega | decide))); (with_reducible (apply kf_nx; apply Fgs.cons; (iterate 9 apply Fg1.s); exact Fg1.v; apply Fgs.cons; (iterate 10 apply Fg1.s); exact Fg1.v; apply Fgs.cons; (iterate 11 apply Fg1.s); exact Fg1.u; apply Fgs.cons; (iterate 12 apply Fg1.s); exact Fg1.u; apply Fgs.cons; (iterate 13 apply Fg1.s); exact Fg1.u; apply Fgs.cons; (iterate 14 apply Fg1.s); exact Fg1.u; exact Fgs.nil; apply qn_nx)))
    simp)
  refine fe_of ?_
  unfold m_wins
  show RS _ [.val (encG g), .val (.tuple (encC cl)), .val (.tuple (sy.map encSP)), .val (encP d), .un, .un, .un, .un, .un, .un, .un, .un, .un, .un, .un] _
  ((with_reducible (apply s_seq; apply s_setV; apply g_lc; apply g_itG; apply g_elO; apply g_escN; apply g_name; exact NmAt.v; apply datk_v; apply g_elO; apply g_escN; apply g_name; (iterate 2 apply NmAt.s); exact NmAt.v; apply datk_v; apply g_elO; apply g_escN; apply g_name; (iterate 3 apply NmAt.s); exact NmAt.v; apply datk_v; apply g_elN; apply oplk; apply opl_zip3; (iterate 3 exact It.t); apply lck)))
  · exact fits_of (by rw [zip3D_len]; simp only [List.length_map]; omega)
  ((with_reducible ((iterate 3 apply UnR.cons); exact UnR.nil; (iterate 7 apply FPut.s); exact FPut.u; (iterate 6 apply FPut.s); exact FPut.u; (iterate 5 apply FPut.s); exact FPut.u)))
  rw [zip3_map]
  refine lce h1 ?_
  ((with_reducible (apply datk_o; apply stk; (iterate 4 apply FPut.s); exact FPut.u; apply ks_nx; apply s_seq; apply s_set; apply g_lst; apply g_elN; apply And.intro (a := Fits _))); ((with_reducible apply fits_of); ((try simp only [List.length_append, List.length_cons, List.length_nil, List.length_map, List.length_replicate, List.length_reverse, List.length_dropLast]); (first | assumption | omega | decide))); (with_reducible (apply slk_o; apply stk; (iterate 8 apply FPut.s); exact FPut.u; apply ks_nx; apply s_seq; apply s_for; apply g_it; apply g_escN; apply g_name; apply NmAt.s; exact NmAt.v; apply datk_v; apply itk; exact It.t)))
  refine forK loop3 ?_
  ((with_reducible (apply ks_nx; apply s_ret; apply g_call; apply g_evC; apply g_nm; (iterate 8 apply DAt.s); exact DAt.o; apply g_evN; apply callk; apply ResAll.cons; apply Res.nm; (iterate 8 apply DAt.s); exact DAt.o; exact ResAll.nil; apply opn_1; exact oo_tupL _; apply qd_rt; (iterate 5 apply IoR.val); (iterate 3 apply IoR.un); apply IoR.own; (iterate 6 apply IoR.un); exact IoR.nil)))
  rfl

end LW
set_option Elab.async false
set_option linter.all false
set_option maxRecDepth 100000
set_option maxHeartbeats 4000000
namespace LW
open PySem PySem.Spec PyProof.Rows L2 RT DL
abbrev encS (sy : List SPt) : D := .tuple (sy.map encSP)
def heldOf (g : List Fd) (sys : List (List SPt)) : List (List (List Int)) := sys.flatMap fun sy => (foldF g).filter fun pk => holdsG sy pk
theorem heldOf_snoc (g : List Fd) (sys : List (List SPt)) (sy : List SPt) : heldOf g (sys ++ [sy]) = heldOf g sys ++ (foldF g).filter fun pk => holdsG sy pk := by
  unfold heldOf; rw [List.flatMap_append, List.flatMap_singleton]
theorem heldOf_len {g : List Fd} (hm : manyG g ≤ 60) (sys : List (List SPt)) : (heldOf g sys).length ≤ sys.length * 60 :=
  flatMap_len_le _ 60 sys fun sy _ => Nat.le_trans (List.length_filter_le _ _) (by rw [foldF_len]; exact hm)
theorem heldOf_mem {g : List Fd} {sys : List (List SPt)} {pk : List (List Int)} (h : pk ∈ heldOf g sys) : pk ∈ foldF g := by
  unfold heldOf at h
  obtain ⟨sy, _, h2⟩ := List.mem_flatMap.mp h
  exact (List.mem_filter.mp h2).1
/-- all that the law has made -/
structure Gm (g : List Fd) (cl : List (List (List Int))) (t : Tb) (sys : List (List SPt)) : Prop where
  ok : ∀ f ∈ g, f.ok
  len : 1 ≤ g.length ∧ g.length ≤ 3
  many : manyG g ≤ 60
  nd : cl.flatten.Nodup
  mem : ∀ x ∈ cl.flatten, x ∈ hitsF g
  clen : cl.length ≤ 4
  tb : t.ok cl.length
  sy : ∀ sy ∈ sys, Rel2 okSP g sy
  slen : sys.length ≤ 3
theorem Gm.row {g : List Fd} {cl : List (List (List Int))} {t : Tb} {sys : List (List SPt)} (h : Gm g cl t sys) : ∀ c ∈ cl, ∀ r ∈ c, RowOk g r := fun c hc r hr => hitsF_rel (h.mem r (List.mem_flatten.mpr ⟨c, hc, hr⟩))
theorem sys_lc {ns : List Int} {g : List Fd} (hg : ∀ f ∈ g, f.ok) (hl : g.length ≤ 3) {s3 s4 s5 : Sl} (j : Int) (ds0 : List Int) : ∃ (sys : List (List SPt)) (ds : List Int), (∀ sy ∈ sys, Rel2 okSP g sy) ∧ sys.length = (rng 0 j).length ∧
    lcD [7] (.nm 7) mYes (mDef 2 f__law_system [.io 1, .v (.nm 2)]) ((rng 0 j).map PyData.int) [.fz ns, .own (.ls (iL ds0)), .val (encG g), s3, s4, s5, .un, .un, .un, .un, .un, .un, .un, .un, .un, .un, .un, .un, .un, .un, .un, .un, .un, .un, .un, .un] = .ok (sys.map encS) [.fz ns, .own (.ls (iL ds)), .val (encG g), s3, s4, s5, .un, .un, .un, .un, .un, .un, .un, .un, .un, .un, .un, .un, .un, .un, .un, .un, .un, .un, .un, .un] := by
  obtain ⟨out, ρ', h1, sys, ds, rfl, h2, h3, rfl⟩ := lc_inv (vs := [7]) (c := .nm 7) (t := mYes) (m := mDef 2 f__law_system [.io 1, .v (.nm 2)]) PyData.int
    (fun pre out ρ => ∃ (sys : List (List SPt)) (ds : List Int), out = sys.map encS ∧ (∀ sy ∈ sys, Rel2 okSP g sy) ∧ sys.length = pre.length ∧ ρ = [.fz ns, .own (.ls (iL ds)), .val (encG g), s3, s4, s5, .un, .un, .un, .un, .un, .un, .un, .un, .un, .un, .un, .un, .un, .un, .un, .un, .un, .un, .un, .un]) (xs := rng 0 j) (ρ := [.fz ns, .own (.ls (iL ds0)), .val (encG g), s3, s4, s5, .un, .un, .un, .un, .un, .un, .un, .un, .un, .un, .un, .un, .un, .un, .un, .un, .un, .un, .un, .un]) ⟨[], ds0, rfl, (fun _ h => nomatch h), rfl, rfl⟩ (by
      rintro pre x suf out ρ e ⟨sys, ds, rfl, h2, h3, rfl⟩
      obtain ⟨sy, ds1, q1, q2⟩ := system_eq hg hl ds
      refine ⟨_, .nm (by ((with_reducible ((iterate 7 apply FPut.s); exact FPut.u)))), ?_⟩
      ((with_reducible (apply g_yes; apply ifk_t; apply g_def; apply g_caI; apply LAt.s; exact LAt.o; apply g_caV; apply g_escN; apply g_name; (iterate 2 apply NmAt.s); exact NmAt.v; apply datk_v; apply g_caN; apply defk_io; apply RA.io; apply LAt.s; exact LAt.o; apply RA.d; exact RA.nil)); ((with_reducible apply DfI.d); exact ⟨rfl, Nat.le_refl _⟩); (with_reducible (apply LAt.s; exact LAt.o; assumption)))
      exact ⟨_, by ((with_reducible (apply UnR.cons; exact UnR.nil; (iterate 7 apply FPut.s); exact FPut.v))), sys ++ [sy], ds1, by simp [Rv.dat], fun z hz => by
        rcases List.mem_append.mp hz with hz | hz
        · exact h2 z hz
        · have : z = sy := by simpa using hz
          rw [this]; exact q2, by simp [h3], rfl⟩)
  exact ⟨sys, ds, h2, h3, h1⟩
theorem held_loop {g : List Fd} {cl : List (List (List Int))} {t : Tb} {sys : List (List SPt)} (h : Gm g cl t sys) {s0 s1 s4 s5 s6 s7 : Sl} : forD (.nm 9) lb_law_1 (sys.map encS) [s0, s1, .val (encG g), .val (.list ((foldF g).map encP)), s4, s5, s6, s7, .val (.list []), .un, .un, .un, .un, .un, .un, .un, .un, .un, .un, .un, .un, .un, .un, .un, .un, .un] =
    .nx [s0, s1, .val (encG g), .val (.list ((foldF g).map encP)), s4, s5, s6, s7, .val (.list ((heldOf g sys).map encP)), .un, .un, .un, .un, .un, .un, .un, .un, .un, .un, .un, .un, .un, .un, .un, .un, .un] := by
  refine for_pre (c := .nm 9) (b := lb_law_1) encS (fun pre => [s0, s1, .val (encG g), .val (.list ((foldF g).map encP)), s4, s5, s6, s7, .val (.list ((heldOf g pre).map encP)), .un, .un, .un, .un, .un, .un, .un, .un, .un, .un, .un, .un, .un, .un, .un, .un, .un]) sys fun pre sy suf e => ?_
  have hsy := h.sy sy (by rw [e]; simp)
  have hpl : pre.length < sys.length := by rw [e]; simp
  have hs3 := h.slen
  have hm := h.many
  have hhl := heldOf_len hm pre
  have hfl := foldF_len g
  have hfil := List.length_filter_le (fun pk => holdsG sy pk) (foldF g)
  refine ⟨_, .nm (by ((with_reducible ((iterate 9 apply FPut.s); exact FPut.u)))), ?_⟩
  unfold lb_law_1
  ((with_reducible (apply s_fg; apply s_setV; apply g_bin; apply g_nm; (iterate 8 apply DAt.s); exact DAt.v; apply g_ex; apply g_lc; apply g_it; apply g_escN; apply g_name; (iterate 3 apply NmAt.s); exact NmAt.v; apply datk_v; apply itk; exact It.l; apply lck)); ((with_reducible apply fits_of); ((try simp only [List.length_append, List.length_cons, List.length_nil, List.length_map, List.length_replicate, List.length_reverse, List.length_dropLast]); (first | assumption | omega | decide))); (with_reducible (apply UnR.cons; exact UnR.nil; (iterate 10 apply FPut.s); exact FPut.u)))
  refine lce (lc_pre (vs := [10]) (c := .nm 10) encP (fun _ => _) (fun pk => holdsG sy pk) encP (foldF g) fun pre' pk suf' e' => ?_) ?_
  · have hpk : pk ∈ foldF g := by rw [e']; simp
    have hh := holds_eq h.ok h.len.2 hsy (foldF_rel hpk)
    refine ⟨_, .nm (by ((with_reducible ((iterate 10 apply FPut.s); exact FPut.u)))), ?_⟩
    ((with_reducible (apply g_tru; apply g_ex; apply g_def; apply g_caV; apply g_escN; apply g_name; (iterate 2 apply NmAt.s); exact NmAt.v; apply datk_v; apply g_caV; apply g_escN; apply g_name; (iterate 9 apply NmAt.s); exact NmAt.v; apply datk_v; apply g_caV; apply g_escN; apply g_name; (iterate 10 apply NmAt.s); exact NmAt.v; apply datk_v; apply g_caN; apply defk_d; (iterate 3 apply RA.d); exact RA.nil)); ((with_reducible apply DfO.d); exact ⟨rfl, rfl, rfl⟩); (with_reducible (assumption; apply datk_v)))
    refine truk .dat rfl ?_
    refine ⟨rfl, ?_⟩
    refine ifk_b (fun h0 => ?_) (fun h0 => ?_)
    · ((with_reducible (apply g_name; (iterate 10 apply NmAt.s); exact NmAt.v)))
      exact ⟨rfl, by ((with_reducible (apply UnR.cons; exact UnR.nil; (iterate 10 apply FPut.s); exact FPut.v)))⟩
    · ((with_reducible (apply UnR.cons; exact UnR.nil; (iterate 10 apply FPut.s); exact FPut.v)))
  ((with_reducible (apply datk_o; apply bink; apply Res.nm; (iterate 8 apply DAt.s); exact DAt.v; exact Res.dat; apply oo_addL)); ((with_reducible apply fits_of); ((try simp only [List.length_append, List.length_cons, List.length_nil, List.length_map, List.length_replicate, List.length_reverse, List.length_dropLast]); (first | assumption | omega | decide))); (with_reducible (apply datk_o; apply stk; (iterate 8 apply FPut.s); exact FPut.v; apply kf_nx; apply Fgs.cons; (iterate 9 apply Fg1.s); exact Fg1.v; exact Fgs.nil; apply qn_nx)))
  rw [heldOf_snoc, List.map_append]
def clk (g : List Fd) (cl : List (List (List Int))) (d : List (List Int)) (k : Nat) (pk : List (List Int)) : Bool := decide (clOf (hitsL g pk d) cl 0 = some k)
def winL (g : List Fd) (cl : List (List (List Int))) (d : List (List Int)) (hs : List (List (List Int))) : List Int := (List.range cl.length).map fun k => ((hs.countP (clk g cl d k) : Nat) : Int)
theorem winL_len (g : List Fd) (cl : List (List (List Int))) (d : List (List Int)) (hs : List (List (List Int))) : (winL g cl d hs).length = cl.length := by simp [winL]
theorem winL_get {g : List Fd} {cl : List (List (List Int))} {d : List (List Int)} {hs : List (List (List Int))} {k : Nat} (h : k < cl.length) : (winL g cl d hs)[k]? = some ((hs.countP (clk g cl d k) : Nat) : Int) := by
  unfold winL; rw [List.getElem?_map, List.getElem?_range h]; rfl
theorem rng_map_get {α : Type} (F : Int → α) (n : Nat) : (rng 0 n).map F = (List.range n).map fun k : Nat => F (k : Int) := by
  unfold rng
  rw [List.map_map, show ((n : Int) - 0).toNat = n by omega]
  refine List.map_congr_left fun k _ => ?_
  show F (0 + (k : Int)) = _
  rw [Int.zero_add]
theorem win_loop {g : List Fd} {cl : List (List (List Int))} {t : Tb} {sys : List (List SPt)} (h : Gm g cl t sys) {d : List (List Int)} (hd : d ∈ foldF g) {s16 : Sl} (h16 : s16.free = true) {s0 s1 s3 s5 s6 s7 s8 s10 s11 s12 s17 s18 s19 s20 s21 s22 s23 s24 s25 : Sl} :
    ∃ s16' : Sl, s16'.free = true ∧ forD (.nm 9) lb_law_2 (sys.map encS) [s0, s1, .val (encG g), s3, .val (.tuple (encC cl)), s5, s6, s7, s8, .un, s10, s11, s12, .val (encP d), .val (.list (iL (winL g cl d []))), .un, s16, s17, s18, s19, s20, s21, s22, s23, s24, s25] =
    .nx [s0, s1, .val (encG g), s3, .val (.tuple (encC cl)), s5, s6, s7, s8, .un, s10, s11, s12, .val (encP d), .val (.list (iL (winL g cl d (heldOf g sys)))), .un, s16', s17, s18, s19, s20, s21, s22, s23, s24, s25] := by
  obtain ⟨ρ', h1, s', h2, rfl⟩ := for_inv (c := .nm 9) (b := lb_law_2) encS (fun pre ρ => ∃ s' : Sl, s'.free = true ∧ ρ = [s0, s1, .val (encG g), s3, .val (.tuple (encC cl)), s5, s6, s7, s8, .un, s10, s11, s12, .val (encP d), .val (.list (iL (winL g cl d (heldOf g pre)))), .un, s', s17, s18, s19, s20, s21, s22, s23, s24, s25]) (xs := sys) (ρ := [s0, s1, .val (encG g), s3, .val (.tuple (encC cl)), s5, s6, s7, s8, .un, s10, s11, s12, .val (encP d), .val (.list (iL (winL g cl d []))), .un, s16, s17, s18, s19, s20, s21, s22, s23, s24, s25]) ⟨s16, h16, rfl⟩ (by
  rintro pre sy suf ρ e ⟨s', hs', rfl⟩
  have hsy := h.sy sy (by rw [e]; simp)
  have hcl := h.clen
  have hcl2 : (encC cl).length = cl.length := List.length_map ..
  have hrl : (rng 0 (cl.length : Nat)).length ≤ 4 := by rw [rng_len]; omega
  obtain ⟨wss, hp, hw⟩ := wins_eq h.ok h.len.2 hsy (foldF_rel hd) h.row hcl
  refine ⟨_, .nm (by ((with_reducible ((iterate 9 apply FPut.s); exact FPut.u)))), ?_⟩
  unfold lb_law_2
  ((with_reducible (apply s_fg; apply s_seq; apply s_setV; apply g_def; apply g_caV; apply g_escN; apply g_name; (iterate 2 apply NmAt.s); exact NmAt.v; apply datk_v; apply g_caV; apply g_escN; apply g_name; (iterate 4 apply NmAt.s); exact NmAt.v; apply datk_v; apply g_caV; apply g_escN; apply g_name; (iterate 9 apply NmAt.s); exact NmAt.v; apply datk_v; apply g_caV; apply g_escN; apply g_name; (iterate 13 apply NmAt.s); exact NmAt.v; apply datk_v; apply g_caN; apply defk_d; (iterate 4 apply RA.d); exact RA.nil)); ((with_reducible apply DfO.d); exact ⟨rfl, rfl, rfl⟩); (with_reducible (assumption; apply datk_v; apply stk; (iterate 15 apply FPut.s); exact FPut.u; apply ks_nx; apply s_setV; apply g_lc; apply g_rng; apply g_evC; apply g_ex; apply g_call; apply g_evC; apply g_nm; (iterate 4 apply DAt.s); exact DAt.v; apply g_evN; apply callk; apply ResAll.cons; apply Res.nm; (iterate 4 apply DAt.s); exact DAt.v; exact ResAll.nil; apply opn_1; exact oo_lenT _; apply datk_v; apply g_evN; apply rngk; apply ResAll.cons; exact Res.dat; exact ResAll.nil; apply opl_r1)); (refine ⟨?_, ?_⟩ <;> (first | decide | omega)); (with_reducible (apply lck)); ((with_reducible apply fits_of); ((try simp only [List.length_append, List.length_cons, List.length_nil, List.length_map, List.length_replicate, List.length_reverse, List.length_dropLast]); (first | assumption | omega | decide))); (with_reducible (apply UnR.cons; exact UnR.nil; (iterate 16 apply FPut.s); exact FPut.g (by assumption))))
  rw [hcl2]
  skip
  refine lce (lc_pre (vs := [16]) (c := .nm 16) PyData.int (fun _ => _) (fun _ => true) (fun k => PyData.int ((winL g cl d (heldOf g pre)).getD k.toNat 0 + (cl.map (winC wss)).getD k.toNat 0)) (rng 0 (cl.length : Nat)) fun pre' k suf' e' => ?_) ?_
  · have hk := rng_split e'
    refine ⟨_, .nm (by ((with_reducible ((iterate 16 apply FPut.s); exact FPut.u)))), ?_⟩
    ((with_reducible (apply g_yes)))
    refine ⟨rfl, ?_⟩
    ((with_reducible (apply ifk_t; apply g_bin; apply g_ex; apply g_bin; apply g_nm; (iterate 14 apply DAt.s); exact DAt.v; apply g_nm; (iterate 16 apply DAt.s); exact DAt.v; apply bink; apply Res.nm; (iterate 14 apply DAt.s); exact DAt.v; apply Res.nm; (iterate 16 apply DAt.s); exact DAt.v; apply oo_ixL)))
    · exact ixAt_rng (d := 0) ⟨by omega, by rw [winL_len]; omega⟩
    ((with_reducible (apply datk_v; apply g_ex; apply g_bin; apply g_nm; (iterate 15 apply DAt.s); exact DAt.v; apply g_nm; (iterate 16 apply DAt.s); exact DAt.v; apply bink; apply Res.nm; (iterate 15 apply DAt.s); exact DAt.v; apply Res.nm; (iterate 16 apply DAt.s); exact DAt.v; apply oo_ixT)))
    · exact ixAt_rng (d := 0) ⟨by omega, by rw [List.length_map]; omega⟩
    ((with_reducible (apply datk_v; apply bink; (iterate 2 exact Res.dat); exact oo_add _ _)))
    exact ⟨rfl, by ((with_reducible (apply UnR.cons; exact UnR.nil; (iterate 16 apply FPut.s); exact FPut.v)))⟩
  ((with_reducible (apply datk_o; apply stk; (iterate 14 apply FPut.s); exact FPut.v; apply kf_nx; apply Fgs.cons; (iterate 9 apply Fg1.s); exact Fg1.v; apply Fgs.cons; (iterate 15 apply Fg1.s); exact Fg1.v; exact Fgs.nil; apply qn_nx)))
  have fin : ((rng 0 (cl.length : Nat)).filter fun _ => true).map (fun k => PyData.int ((winL g cl d (heldOf g pre)).getD k.toNat 0 + (cl.map (winC wss)).getD k.toNat 0)) = iL (winL g cl d (heldOf g (pre ++ [sy]))) := by
    rw [List.filter_eq_self.mpr (fun _ _ => rfl), rng_map_get]
    unfold iL
    conv => rhs; unfold winL
    rw [List.map_map]
    refine List.map_congr_left fun k hk => ?_
    have hk := List.mem_range.mp hk
    have hc : cl[k]? = some cl[k] := List.getElem?_eq_getElem hk
    rw [Int.toNat_natCast, getD_of (winL_get hk), getD_of (show (cl.map (winC wss))[k]? = some (winC wss cl[k]) by rw [List.getElem?_map, hc]; rfl), winC_eq h.ok hp h.nd hc (fun r hr => h.row _ (List.getElem_mem hk) r hr), heldOf_snoc]
    simp only [Function.comp_apply]
    rw [List.countP_append, List.countP_filter, Int.natCast_add]
    congr 1
    congr 2
    refine List.countP_congr fun pk _ => ?_
    unfold clk
    rw [Bool.and_comm]
  rw [fin]
  exact ⟨.un, rfl, rfl⟩)
  exact ⟨s', h2, h1⟩

/-! what each pick held is paid -/
def ownL (g : List Fd) (cl : List (List (List Int))) (d : List (List Int)) (ps : List Int) (hs : List (List (List Int))) : List Int := hs.filterMap fun pk => (clOf (hitsL g pk d) cl 0).map fun k => ps.getD k 0
theorem ownL_snoc (g : List Fd) (cl : List (List (List Int))) (d : List (List Int)) (ps : List Int) (hs : List (List (List Int))) (pk : List (List Int)) : ownL g cl d ps (hs ++ [pk]) = ownL g cl d ps hs ++ (match clOf (hitsL g pk d) cl 0 with | some k => [ps.getD k 0] | none => []) := by
  unfold ownL
  rw [List.filterMap_append]
  congr 1
  cases h : clOf (hitsL g pk d) cl 0 <;> simp [h]
theorem clOf_lt {own : List Int} {cl : List (List (List Int))} {k : Nat} (h : clOf own cl 0 = some k) : k < cl.length := by
  obtain ⟨_, c, h2, _⟩ := clOf_ge h
  rw [Nat.sub_zero] at h2
  exact (List.getElem?_eq_some_iff.mp h2).1
theorem isnot_some (k : Int) : Op2 fIsNot (.int k) .none (.val (.bool true)) := rfl
theorem isnot_none : Op2 fIsNot .none .none (.val (.bool false)) := rfl
theorem own_loop {g : List Fd} {cl : List (List (List Int))} {t : Tb} {sys : List (List SPt)} (h : Gm g cl t sys) {d : List (List Int)} (hd : d ∈ foldF g) {ps : List Int} (hps : ps.length = cl.length) {s0 s1 s3 s5 s6 s7 s8 s9 s11 s12 s14 s15 s16 s18 s19 s20 s23 s24 s25 : Sl} :
    forD (.nm 10) lb_law_3 ((heldOf g sys).map encP) [s0, s1, .val (encG g), s3, .val (.tuple (encC cl)), s5, s6, s7, s8, s9, .un, s11, s12, .val (encP d), s14, s15, s16, .val (.tuple (iL ps)), s18, s19, s20, .own (.ls (iL (ownL g cl d ps []))), .un, s23, s24, s25] =
    .nx [s0, s1, .val (encG g), s3, .val (.tuple (encC cl)), s5, s6, s7, s8, s9, .un, s11, s12, .val (encP d), s14, s15, s16, .val (.tuple (iL ps)), s18, s19, s20, .own (.ls (iL (ownL g cl d ps (heldOf g sys)))), .un, s23, s24, s25] := by
  refine for_pre (c := .nm 10) (b := lb_law_3) encP (fun pre => [s0, s1, .val (encG g), s3, .val (.tuple (encC cl)), s5, s6, s7, s8, s9, .un, s11, s12, .val (encP d), s14, s15, s16, .val (.tuple (iL ps)), s18, s19, s20, .own (.ls (iL (ownL g cl d ps pre))), .un, s23, s24, s25]) (heldOf g sys) fun pre pk suf e => ?_
  have hpk : pk ∈ foldF g := heldOf_mem (by rw [e]; simp)
  have hce := class_eq h.ok h.len.2 (foldF_rel hpk) (foldF_rel hd) cl
  have hhl := heldOf_len h.many sys
  have hs3 := h.slen
  have hpl : pre.length < (heldOf g sys).length := by rw [e]; simp
  have hol : (ownL g cl d ps pre).length ≤ pre.length := List.length_filterMap_le _ _
  have hsn := ownL_snoc g cl d ps pre pk
  refine ⟨_, .nm (by ((with_reducible ((iterate 10 apply FPut.s); exact FPut.u)))), ?_⟩
  unfold lb_law_3
  cases hc : clOf (hitsL g pk d) cl 0 with
  | none =>
    rw [hc] at hce hsn
    have hce : FE f_class_of [.d (encG g), .d (.tuple (encC cl)), .d (encP pk), .d (encP d)] (.val .none) none := hce
    ((with_reducible (apply s_fg; apply s_seq; apply s_setV; apply g_def; apply g_caV; apply g_escN; apply g_name; (iterate 2 apply NmAt.s); exact NmAt.v; apply datk_v; apply g_caV; apply g_escN; apply g_name; (iterate 4 apply NmAt.s); exact NmAt.v; apply datk_v; apply g_caV; apply g_escN; apply g_name; (iterate 10 apply NmAt.s); exact NmAt.v; apply datk_v; apply g_caV; apply g_escN; apply g_name; (iterate 13 apply NmAt.s); exact NmAt.v; apply datk_v; apply g_caN; apply defk_d; (iterate 4 apply RA.d); exact RA.nil)); ((with_reducible apply DfO.d); exact ⟨rfl, rfl, rfl⟩); (with_reducible (assumption; apply datk_v; apply stk; (iterate 22 apply FPut.s); exact FPut.u; apply ks_nx; apply s_ite; apply g_TB; apply g_bin; apply g_nm; (iterate 22 apply DAt.s); exact DAt.v; apply g_ex; apply g_C; apply datk_v; apply bink; apply Res.nm; (iterate 22 apply DAt.s); exact DAt.v; exact Res.dat)))
    · exact isnot_none
    ((with_reducible (apply boolk; apply ifk_f; apply s_sk; apply kf_nx; apply Fgs.cons; (iterate 10 apply Fg1.s); exact Fg1.v; apply Fgs.cons; (iterate 22 apply Fg1.s); exact Fg1.v; exact Fgs.nil; apply qn_nx)))
    rw [hsn]
    simp
  | some k =>
    rw [hc] at hce hsn
    have hce : FE f_class_of [.d (encG g), .d (.tuple (encC cl)), .d (encP pk), .d (encP d)] (.val (.int (k : Nat))) none := hce
    have hk := clOf_lt hc
    have xp : IxAt (iL ps) (k : Nat) (.int (ps.getD k 0)) := by
      have := ixAt_rng (enc := PyData.int) (xs := ps) (d := 0) (j := (k : Nat)) ⟨by omega, by omega⟩
      rw [Int.toNat_natCast] at this
      exact this
    ((with_reducible (apply s_fg; apply s_seq; apply s_setV; apply g_def; apply g_caV; apply g_escN; apply g_name; (iterate 2 apply NmAt.s); exact NmAt.v; apply datk_v; apply g_caV; apply g_escN; apply g_name; (iterate 4 apply NmAt.s); exact NmAt.v; apply datk_v; apply g_caV; apply g_escN; apply g_name; (iterate 10 apply NmAt.s); exact NmAt.v; apply datk_v; apply g_caV; apply g_escN; apply g_name; (iterate 13 apply NmAt.s); exact NmAt.v; apply datk_v; apply g_caN; apply defk_d; (iterate 4 apply RA.d); exact RA.nil)); ((with_reducible apply DfO.d); exact ⟨rfl, rfl, rfl⟩); (with_reducible (assumption; apply datk_v; apply stk; (iterate 22 apply FPut.s); exact FPut.u; apply ks_nx; apply s_ite; apply g_TB; apply g_bin; apply g_nm; (iterate 22 apply DAt.s); exact DAt.v; apply g_ex; apply g_C; apply datk_v; apply bink; apply Res.nm; (iterate 22 apply DAt.s); exact DAt.v; exact Res.dat)))
    · exact isnot_some _
    ((with_reducible (apply boolk; apply ifk_t; apply s_drop; apply g_app; (iterate 21 apply LAt.s); exact LAt.o; apply g_bin; apply g_nm; (iterate 17 apply DAt.s); exact DAt.v; apply g_nm; (iterate 22 apply DAt.s); exact DAt.v; apply bink; apply Res.nm; (iterate 17 apply DAt.s); exact DAt.v; apply Res.nm; (iterate 22 apply DAt.s); exact DAt.v; apply oo_ixT; assumption; apply datk_v; apply appk; (iterate 21 apply LAt.s); exact LAt.o)); ((with_reducible apply fits1_of); ((try simp only [List.length_append, List.length_cons, List.length_nil, List.length_map, List.length_replicate, List.length_reverse, List.length_dropLast]); (first | assumption | omega | decide))); (with_reducible (apply kf_nx; apply Fgs.cons; (iterate 10 apply Fg1.s); exact Fg1.v; apply Fgs.cons; (iterate 22 apply Fg1.s); exact Fg1.v; exact Fgs.nil; apply qn_nx)))
    rw [hsn]
    simp
theorem dot_sum : ∀ (ws ps : List Int), ws.length = ps.length → ((List.range ws.length).map fun k => ws.getD k 0 * ps.getD k 0).sum = dot ws ps
  | [], [], _ => rfl
  | w :: ws, p :: ps, h => by
    have ih := dot_sum ws ps (by simpa using h)
    rw [List.length_cons, List.range_succ_eq_map, List.map_cons, List.sum_cons, List.map_map]
    show w * p + _ = w * p + _
    rw [← ih]
    rfl
theorem ownL_sum {g : List Fd} {cl : List (List (List Int))} {d : List (List Int)} {ps : List Int} (hps : ps.length = cl.length) : ∀ (hs : List (List (List Int))), (ownL g cl d ps hs).sum = dot (winL g cl d hs) ps ∧ ((ownL g cl d ps hs).length : Int) = (winL g cl d hs).sum := by
  have step : ∀ (m : Nat) (q : Nat) (F : Nat → Int), q < m → ((List.range m).map fun k => if k = q then F k else 0).sum = F q := by
    intro m
    induction m with
    | zero => intro q F h; omega
    | succ m ih =>
      intro q F h
      rw [List.range_succ, List.map_append, List.sum_append, List.map_singleton, List.sum_singleton]
      by_cases e : q = m
      · subst e
        have z : ((List.range q).map fun k => if k = q then F k else 0).sum = 0 := by
          have : ((List.range q).map fun k => if k = q then F k else 0) = (List.range q).map fun _ => (0 : Int) := List.map_congr_left fun k hk => by
            have := List.mem_range.mp hk
            rw [if_neg (by omega)]
          rw [this]
          clear this h ih
          induction q with
          | zero => rfl
          | succ q ih => rw [List.range_succ, List.map_append, List.sum_append, ih]; rfl
        rw [z, if_pos rfl, Int.zero_add]
      · rw [ih q F (by omega), if_neg (fun z => e z.symm), Int.add_zero]
  have addm : ∀ (m : Nat) (F G : Nat → Int), ((List.range m).map fun k => F k + G k).sum = ((List.range m).map F).sum + ((List.range m).map G).sum := by
    intro m F G
    induction m with
    | zero => rfl
    | succ m ih =>
      rw [List.range_succ, List.map_append, List.sum_append, List.map_append, List.sum_append, List.map_append, List.sum_append, ih]
      simp only [List.map_singleton, List.sum_singleton]
      omega
  have hdot : ∀ hs, dot (winL g cl d hs) ps = ((List.range cl.length).map fun k => ((hs.countP (clk g cl d k) : Nat) : Int) * ps.getD k 0).sum := by
    intro hs
    rw [← dot_sum _ _ (by rw [winL_len, hps]), winL_len]
    congr 1
    exact List.map_congr_left fun k hk => by rw [getD_of (winL_get (List.mem_range.mp hk))]
  intro hs
  rw [hdot]
  show _ ∧ _ = ((List.range cl.length).map fun k => ((hs.countP (clk g cl d k) : Nat) : Int)).sum
  induction hs with
  | nil =>
    have z : ∀ m : Nat, ((List.range m).map fun _ => (0 : Int)).sum = 0 := by
      intro m
      induction m with
      | zero => rfl
      | succ m ih => rw [List.range_succ, List.map_append, List.sum_append, ih]; rfl
    simp [ownL, z]
  | cons pk hs ih =>
    have cnt : ∀ k, (((pk :: hs).countP (clk g cl d k) : Nat) : Int) = ((hs.countP (clk g cl d k) : Nat) : Int) + (if clOf (hitsL g pk d) cl 0 = some k then 1 else 0) := by
      intro k
      rw [List.countP_cons]
      unfold clk
      by_cases e : clOf (hitsL g pk d) cl 0 = some k <;> simp [e]
    have e1 : ((List.range cl.length).map fun k => (((pk :: hs).countP (clk g cl d k) : Nat) : Int) * ps.getD k 0).sum = ((List.range cl.length).map fun k => ((hs.countP (clk g cl d k) : Nat) : Int) * ps.getD k 0).sum + ((List.range cl.length).map fun k => if clOf (hitsL g pk d) cl 0 = some k then ps.getD k 0 else 0).sum := by
      rw [← addm]
      congr 1
      refine List.map_congr_left fun k _ => ?_
      rw [cnt, Int.add_mul]
      split <;> simp
    have e2 : ((List.range cl.length).map fun k => (((pk :: hs).countP (clk g cl d k) : Nat) : Int)).sum = ((List.range cl.length).map fun k => ((hs.countP (clk g cl d k) : Nat) : Int)).sum + ((List.range cl.length).map fun k => if clOf (hitsL g pk d) cl 0 = some k then (1 : Int) else 0).sum := by
      rw [← addm]
      congr 1
      exact List.map_congr_left fun k _ => cnt k
    rw [e1, e2, ← ih.1, ← ih.2]
    have z : ∀ m : Nat, ((List.range m).map fun _ => (0 : Int)).sum = 0 := by
      intro m
      induction m with
      | zero => rfl
      | succ m ih => rw [List.range_succ, List.map_append, List.sum_append, ih]; rfl
    cases hc : clOf (hitsL g pk d) cl 0 with
    | none =>
      have : ownL g cl d ps (pk :: hs) = ownL g cl d ps hs := by unfold ownL; rw [List.filterMap_cons, hc]; rfl
      rw [this]
      simp [z]
    | some q =>
      have : ownL g cl d ps (pk :: hs) = ps.getD q 0 :: ownL g cl d ps hs := by unfold ownL; rw [List.filterMap_cons, hc]; rfl
      rw [this]
      have hq := clOf_lt hc
      have s1 := step cl.length q (fun k => ps.getD k 0) hq
      have s2 := step cl.length q (fun _ => 1) hq
      have r1 : ((List.range cl.length).map fun k => if some q = some k then ps.getD k 0 else 0) = (List.range cl.length).map fun k => if k = q then ps.getD k 0 else 0 := List.map_congr_left fun k _ => by
        by_cases e : k = q
        · subst e; simp
        · rw [if_neg e, if_neg (fun z => e (Option.some.inj z).symm)]
      have r2 : ((List.range cl.length).map fun k => if some q = some k then (1 : Int) else 0) = (List.range cl.length).map fun k => if k = q then 1 else 0 := List.map_congr_left fun k _ => by
        by_cases e : k = q
        · subst e; simp
        · rw [if_neg e, if_neg (fun z => e (Option.some.inj z).symm)]
      rw [r1, r2, s1, s2, List.sum_cons, List.length_cons]
      constructor <;> omega

end LW
set_option Elab.async false
set_option linter.all false
set_option maxRecDepth 100000
set_option maxHeartbeats 4000000
namespace LW
open PySem PySem.Spec PyProof.Rows L2 RT DL
def FixS (rows : List Row) (cs ss : List Int) : Prop := ∀ k m, rows[k]? = some (.fix m) → ss.getD k 0 = cs.getD k 0 * m
def cntS (g : List Fd) (cl : List (List (List Int))) (hs : List (List (List Int))) (ds : List (List (List Int))) (k : Nat) : Nat := (ds.map fun d => hs.countP (clk g cl d k)).sum
theorem paid_lc {W ps : List Int} {m : Nat} (hW : W.length = m) (hps : ps.length = m) (hw : ∀ w ∈ W, 0 ≤ w ∧ w ≤ 100000) {s0 s1 s2 s3 s4 s5 s6 s7 s8 s9 s10 s11 s12 s13 s15 s18 s19 s20 s21 s22 s23 s24 s25 : Sl} :
    lcD [16] (.nm 16) mYes (mBin fMul (.ex (mBin fIx (.nm 14) (.nm 16))) (.ex (mBin fIx (.nm 17) (.nm 16)))) ((rng 0 m).map PyData.int) [s0, s1, s2, s3, s4, s5, s6, s7, s8, s9, s10, s11, s12, s13, .val (.list (iL W)), s15, .un, .val (.tuple (iL ps)), s18, s19, s20, s21, s22, s23, s24, s25] =
    .ok (iL ((rng 0 m).map fun k => W.getD k.toNat 0 * ps.getD k.toNat 0)) [s0, s1, s2, s3, s4, s5, s6, s7, s8, s9, s10, s11, s12, s13, .val (.list (iL W)), s15, .un, .val (.tuple (iL ps)), s18, s19, s20, s21, s22, s23, s24, s25] := by
  have := lc_pre (vs := [16]) (c := .nm 16) (t := mYes) (m := mBin fMul (.ex (mBin fIx (.nm 14) (.nm 16))) (.ex (mBin fIx (.nm 17) (.nm 16)))) PyData.int (fun _ => [s0, s1, s2, s3, s4, s5, s6, s7, s8, s9, s10, s11, s12, s13, .val (.list (iL W)), s15, .un, .val (.tuple (iL ps)), s18, s19, s20, s21, s22, s23, s24, s25]) (fun _ => true) (fun k => PyData.int (W.getD k.toNat 0 * ps.getD k.toNat 0)) (rng 0 m) fun pre k suf e => by
    have hk := rng_split e
    have hwk : W[k.toNat]? = some (W.getD k.toNat 0) := by
      have : W[k.toNat]? = some W[k.toNat] := List.getElem?_eq_getElem (by omega)
      rw [getD_of this]; exact this
    have hb := hw _ (List.mem_of_getElem? hwk)
    refine ⟨_, .nm (by ((with_reducible ((iterate 16 apply FPut.s); exact FPut.u)))), ?_⟩
    ((with_reducible (apply g_yes)))
    refine ⟨rfl, ?_⟩
    ((with_reducible (apply ifk_t; apply g_bin; apply g_ex; apply g_bin; apply g_nm; (iterate 14 apply DAt.s); exact DAt.v; apply g_nm; (iterate 16 apply DAt.s); exact DAt.v; apply bink; apply Res.nm; (iterate 14 apply DAt.s); exact DAt.v; apply Res.nm; (iterate 16 apply DAt.s); exact DAt.v; apply oo_ixL)))
    · exact ixAt_rng (d := 0) ⟨by omega, by omega⟩
    ((with_reducible (apply datk_v; apply g_ex; apply g_bin; apply g_nm; (iterate 17 apply DAt.s); exact DAt.v; apply g_nm; (iterate 16 apply DAt.s); exact DAt.v; apply bink; apply Res.nm; (iterate 17 apply DAt.s); exact DAt.v; apply Res.nm; (iterate 16 apply DAt.s); exact DAt.v; apply oo_ixT)))
    · exact ixAt_rng (d := 0) ⟨by omega, by omega⟩
    ((with_reducible (apply datk_v; apply bink; (iterate 2 exact Res.dat); apply oo_mul)); ((with_reducible refine mulOk_l ?_ ?_) <;> (first | decide | omega)))
    exact ⟨rfl, by ((with_reducible (apply UnR.cons; exact UnR.nil; (iterate 16 apply FPut.s); exact FPut.v)))⟩
  rw [List.filter_eq_self.mpr (fun _ _ => rfl)] at this
  refine this.trans ?_
  congr 1
  unfold iL
  rw [List.map_map]
  rfl
theorem paid_sum {W ps : List Int} {m : Nat} (hW : W.length = m) (hps : ps.length = m) : ((rng 0 m).map fun k => W.getD k.toNat 0 * ps.getD k.toNat 0).sum = dot W ps := by
  rw [rng_map_get, ← dot_sum W ps (by omega), hW]
  congr 1
theorem set_getD {l : List Int} {i k : Nat} {x : Int} (h : i < l.length) : (l.set i x).getD k 0 = if k = i then x else l.getD k 0 := by
  rw [List.getD_eq_getElem?_getD, List.getD_eq_getElem?_getD, List.getElem?_set]
  by_cases e : i = k
  · subst e; rw [if_pos rfl, if_pos h, if_pos rfl]; rfl
  · rw [if_neg e, if_neg (fun z => e z.symm)]
theorem count_loop {W ps : List Int} {m : Nat} (hW : W.length = m) (hps : ps.length = m) (hw : ∀ w ∈ W, 0 ≤ w ∧ w ≤ 100000) {cs ss : List Int} (hcs : cs.length = m) (hss : ss.length = m) {s16 : Sl} (h16 : s16.free = true) {s0 s1 s2 s3 s4 s5 s6 s7 s8 s9 s10 s13 s15 s18 s19 s20 s21 s22 s23 s24 s25 : Sl} :
    ∃ (cs' ss' : List Int) (s' : Sl), s'.free = true ∧ cs'.length = m ∧ ss'.length = m ∧ (∀ k, k < m → cs'.getD k 0 = cs.getD k 0 + W.getD k 0 ∧ ss'.getD k 0 = ss.getD k 0 + W.getD k 0 * ps.getD k 0) ∧
      forD (.nm 16) lb_law_4 ((rng 0 m).map PyData.int) [s0, s1, s2, s3, s4, s5, s6, s7, s8, s9, s10, .own (.ls (iL cs)), .own (.ls (iL ss)), s13, .val (.list (iL W)), s15, s16, .val (.tuple (iL ps)), s18, s19, s20, s21, s22, s23, s24, s25] =
      .nx [s0, s1, s2, s3, s4, s5, s6, s7, s8, s9, s10, .own (.ls (iL cs')), .own (.ls (iL ss')), s13, .val (.list (iL W)), s15, s', .val (.tuple (iL ps)), s18, s19, s20, s21, s22, s23, s24, s25] := by
  obtain ⟨ρ', h1, cs', ss', s', q1, q2, q3, q4, rfl⟩ := for_inv (c := .nm 16) (b := lb_law_4) PyData.int (fun pre ρ => ∃ (cs' ss' : List Int) (s' : Sl), s'.free = true ∧ cs'.length = m ∧ ss'.length = m ∧ (∀ k, cs'.getD k 0 = cs.getD k 0 + (if k < pre.length then W.getD k 0 else 0) ∧ ss'.getD k 0 = ss.getD k 0 + (if k < pre.length then W.getD k 0 * ps.getD k 0 else 0)) ∧
      ρ = [s0, s1, s2, s3, s4, s5, s6, s7, s8, s9, s10, .own (.ls (iL cs')), .own (.ls (iL ss')), s13, .val (.list (iL W)), s15, s', .val (.tuple (iL ps)), s18, s19, s20, s21, s22, s23, s24, s25]) (xs := rng 0 m)
      (ρ := [s0, s1, s2, s3, s4, s5, s6, s7, s8, s9, s10, .own (.ls (iL cs)), .own (.ls (iL ss)), s13, .val (.list (iL W)), s15, s16, .val (.tuple (iL ps)), s18, s19, s20, s21, s22, s23, s24, s25]) ⟨cs, ss, s16, h16, hcs, hss, fun k => by simp, rfl⟩ (by
    rintro pre x suf ρ e ⟨cs', ss', s', q1, q2, q3, q4, rfl⟩
    have hk := rng_split e
    have hx : x = (pre.length : Int) := by omega
    subst hx
    have hkm : pre.length < m := by omega
    have gx : ∀ (l : List Int), l.length = m → IxAt (iL l) (pre.length : Nat) (.int (l.getD pre.length 0)) := fun l hl => by
      have := ixAt_rng (enc := PyData.int) (xs := l) (d := 0) (j := (pre.length : Nat)) ⟨by omega, by omega⟩
      rw [Int.toNat_natCast] at this
      exact this
    have x1 := gx cs' q2
    have x2 := gx ss' q3
    have x3 := gx W hW
    have x4 := gx ps hps
    have hwk : W[pre.length]? = some (W.getD pre.length 0) := by
      have : W[pre.length]? = some W[pre.length] := List.getElem?_eq_getElem (by omega)
      rw [getD_of this]; exact this
    have hb := hw _ (List.mem_of_getElem? hwk)
    have i1 : ixN (iL cs').length (pre.length : Nat) = some pre.length := ixN_nat (by rw [List.length_map]; omega)
    have i2 : ixN (iL ss').length (pre.length : Nat) = some pre.length := ixN_nat (by rw [List.length_map]; omega)
    refine ⟨_, .nm (by ((with_reducible ((iterate 16 apply FPut.s); exact FPut.g (by assumption))))), ?_⟩
    unfold lb_law_4
    ((with_reducible (apply s_seq; apply s_sub; apply g_bin; apply g_ex; apply g_bin; apply g_nm; (iterate 11 apply DAt.s); exact DAt.o; apply g_nm; (iterate 16 apply DAt.s); exact DAt.v; apply bink; apply Res.nm; (iterate 11 apply DAt.s); exact DAt.o; apply Res.nm; (iterate 16 apply DAt.s); exact DAt.v; apply oo_ixL; assumption; apply datk_v; apply g_ex; apply g_bin; apply g_nm; (iterate 14 apply DAt.s); exact DAt.v; apply g_nm; (iterate 16 apply DAt.s); exact DAt.v; apply bink; apply Res.nm; (iterate 14 apply DAt.s); exact DAt.v; apply Res.nm; (iterate 16 apply DAt.s); exact DAt.v; apply oo_ixL; assumption; apply datk_v; apply bink; (iterate 2 exact Res.dat); exact oo_add _ _; apply datk_v; apply subk0; (iterate 11 apply LAt.s); exact LAt.o; apply g_nm; (iterate 16 apply DAt.s); exact DAt.v; apply subk; (iterate 11 apply LAt.s); exact LAt.o; apply Res.nm; (iterate 16 apply DAt.s); exact DAt.v; assumption; apply ks_nx; apply s_sub; apply g_bin; apply g_ex; apply g_bin; apply g_nm; (iterate 12 apply DAt.s); exact DAt.o; apply g_nm; (iterate 16 apply DAt.s); exact DAt.v; apply bink; apply Res.nm; (iterate 12 apply DAt.s); exact DAt.o; apply Res.nm; (iterate 16 apply DAt.s); exact DAt.v; apply oo_ixL; assumption; apply datk_v; apply g_ex; apply g_bin; apply g_ex; apply g_bin; apply g_nm; (iterate 14 apply DAt.s); exact DAt.v; apply g_nm; (iterate 16 apply DAt.s); exact DAt.v; apply bink; apply Res.nm; (iterate 14 apply DAt.s); exact DAt.v; apply Res.nm; (iterate 16 apply DAt.s); exact DAt.v; apply oo_ixL; assumption; apply datk_v; apply g_ex; apply g_bin; apply g_nm; (iterate 17 apply DAt.s); exact DAt.v; apply g_nm; (iterate 16 apply DAt.s); exact DAt.v; apply bink; apply Res.nm; (iterate 17 apply DAt.s); exact DAt.v; apply Res.nm; (iterate 16 apply DAt.s); exact DAt.v; apply oo_ixT; assumption; apply datk_v; apply bink; (iterate 2 exact Res.dat); apply oo_mul)); ((with_reducible refine mulOk_l ?_ ?_) <;> (first | decide | omega)); (with_reducible (apply datk_v; apply bink; (iterate 2 exact Res.dat); exact oo_add _ _; apply datk_v; apply subk0; (iterate 12 apply LAt.s); exact LAt.o; apply g_nm; (iterate 16 apply DAt.s); exact DAt.v; apply subk; (iterate 12 apply LAt.s); exact LAt.o; apply Res.nm; (iterate 16 apply DAt.s); exact DAt.v; assumption; apply qn_nx)))
    refine ⟨cs'.set pre.length (cs'.getD pre.length 0 + W.getD pre.length 0), ss'.set pre.length (ss'.getD pre.length 0 + W.getD pre.length 0 * ps.getD pre.length 0), .val (.int (pre.length : Nat)), rfl, by rw [List.length_set, q2], by rw [List.length_set, q3], fun k => ?_, by simp only [iL, List.map_set]⟩
    have := q4 k
    have z := q4 pre.length
    rw [if_neg (Nat.lt_irrefl _), if_neg (Nat.lt_irrefl _)] at z
    rw [set_getD (by omega), set_getD (by omega), List.length_append, List.length_singleton]
    by_cases e2 : k = pre.length
    · subst e2
      rw [if_pos rfl, if_pos rfl, if_pos (by omega), if_pos (by omega), z.1, z.2]
      constructor <;> omega
    · rw [if_neg e2, if_neg e2, this.1, this.2]
      by_cases e3 : k < pre.length
      · rw [if_pos e3, if_pos e3, if_pos (by omega), if_pos (by omega)]; exact ⟨rfl, rfl⟩
      · rw [if_neg e3, if_neg e3, if_neg (by omega), if_neg (by omega)]; exact ⟨rfl, rfl⟩)
  refine ⟨cs', ss', s', q1, q2, q3, fun k hk => ?_, h1⟩
  have := q4 k
  rw [rng_len, if_pos (by omega), if_pos (by omega)] at this
  exact this
theorem main_loop {ns : List Int} {g : List Fd} {cl : List (List (List Int))} {t : Tb} {sys : List (List SPt)} (h : Gm g cl t sys) {s1 : Sl} {cs0 ss0 : List Int} (hc0 : cs0 = List.replicate cl.length 0) (hs0 : ss0 = List.replicate cl.length 0) :
    ∃ (cs ss : List Int) (s16 : Sl), s16.free = true ∧ cs.length = cl.length ∧ ss.length = cl.length ∧ (∀ k, k < cl.length → cs.getD k 0 = ((cntS g cl (heldOf g sys) (foldF g) k : Nat) : Int)) ∧ FixS t.rows cs ss ∧
      forD (.nm 13) lb_law_5 ((foldF g).map encP) [.fz ns, s1, .val (encG g), .val (.list ((foldF g).map encP)), .val (.tuple (encC cl)), .val (encT t), .val (.list (sys.map encS)), .un, .val (.list ((heldOf g sys).map encP)), .un, .un, .own (.ls (iL cs0)), .own (.ls (iL ss0)), .un, .un, .un, .un, .un, .un, .un, .un, .un, .un, .un, .un, .un] = .nx [.fz ns, s1, .val (encG g), .val (.list ((foldF g).map encP)), .val (.tuple (encC cl)), .val (encT t), .val (.list (sys.map encS)), .un, .val (.list ((heldOf g sys).map encP)), .un, .un, .own (.ls (iL cs)), .own (.ls (iL ss)), .un, .un, .un, s16, .un, .un, .un, .un, .un, .un, .un, .un, .un] := by
  have hcl := h.clen
  have htl := h.tb.len
  have hHl := heldOf_len h.many sys
  have hs3 := h.slen
  obtain ⟨ρ', h1, cs, ss, s16, q1, q2, q3, q4, q5, rfl⟩ := for_inv (c := .nm 13) (b := lb_law_5) encP (fun pre ρ => ∃ (cs ss : List Int) (s16 : Sl), s16.free = true ∧ cs.length = cl.length ∧ ss.length = cl.length ∧ (∀ k, k < cl.length → cs.getD k 0 = ((cntS g cl (heldOf g sys) pre k : Nat) : Int)) ∧ FixS t.rows cs ss ∧ ρ = [.fz ns, s1, .val (encG g), .val (.list ((foldF g).map encP)), .val (.tuple (encC cl)), .val (encT t), .val (.list (sys.map encS)), .un, .val (.list ((heldOf g sys).map encP)), .un, .un, .own (.ls (iL cs)), .own (.ls (iL ss)), .un, .un, .un, s16, .un, .un, .un, .un, .un, .un, .un, .un, .un]) (xs := foldF g)
    (ρ := [.fz ns, s1, .val (encG g), .val (.list ((foldF g).map encP)), .val (.tuple (encC cl)), .val (encT t), .val (.list (sys.map encS)), .un, .val (.list ((heldOf g sys).map encP)), .un, .un, .own (.ls (iL cs0)), .own (.ls (iL ss0)), .un, .un, .un, .un, .un, .un, .un, .un, .un, .un, .un, .un, .un]) ⟨cs0, ss0, .un, rfl, by rw [hc0, List.length_replicate], by rw [hs0, List.length_replicate], fun k hk => by
      rw [hc0]; simp [cntS, List.getD_eq_getElem?_getD, List.getElem?_replicate, hk], fun k m hk => by
      rw [hc0, hs0]
      simp [List.getD_eq_getElem?_getD, List.getElem?_replicate]
      split <;> simp, rfl⟩ (by
    rintro pre d suf ρ e ⟨cs, ss, s16, q1, q2, q3, q4, q5, rfl⟩
    have hd : d ∈ foldF g := by rw [e]; simp
    have hWl := winL_len g cl d (heldOf g sys)
    have hWb : ∀ w ∈ winL g cl d (heldOf g sys), 0 ≤ w ∧ w ≤ 100000 := by
      intro w hw
      unfold winL at hw
      obtain ⟨k, _, rfl⟩ := List.mem_map.mp hw
      have := List.countP_le_length (p := clk g cl d k) (l := heldOf g sys)
      omega
    obtain ⟨ps, cr, due, ch, hse, hps, hcr, hinv, hfix⟩ := settle_eq h.tb hcl (sold := (heldOf g sys).length) (by omega) hWl hWb
    obtain ⟨s16', f16, hwin⟩ := win_loop (t := t) h hd q1 (s0 := .fz ns) (s1 := s1) (s3 := .val (.list ((foldF g).map encP))) (s5 := .val (encT t)) (s6 := .val (.list (sys.map encS))) (s7 := .un) (s8 := .val (.list ((heldOf g sys).map encP))) (s10 := .un) (s11 := .own (.ls (iL cs))) (s12 := .own (.ls (iL ss))) (s17 := .un) (s18 := .un) (s19 := .un) (s20 := .un) (s21 := .un) (s22 := .un) (s23 := .un) (s24 := .un) (s25 := .un)
    obtain ⟨cs', ss', s', r1, r2, r3, r4, hcnt⟩ := count_loop hWl hps hWb q2 q3 (s16 := .un) rfl (s0 := .fz ns) (s1 := s1) (s2 := .val (encG g)) (s3 := .val (.list ((foldF g).map encP))) (s4 := .val (.tuple (encC cl))) (s5 := .val (encT t)) (s6 := .val (.list (sys.map encS))) (s7 := .un) (s8 := .val (.list ((heldOf g sys).map encP))) (s9 := .un) (s10 := .un) (s13 := .val (encP d)) (s15 := .un) (s18 := .val (.int due)) (s19 := .val (.tuple (iL cr))) (s20 := .val (.int ch)) (s21 := .own (.ls (iL (ownL g cl d ps (heldOf g sys))))) (s22 := .un) (s23 := .val (.int (dot (winL g cl d (heldOf g sys)) ps))) (s24 := .un) (s25 := .un)
    obtain ⟨os1', os2'⟩ := ownL_sum (g := g) (d := d) hps (heldOf g sys)
    have hcl2 : (encC cl).length = cl.length := List.length_map ..
    have hrl : (rng 0 (cl.length : Nat)).length ≤ 4 := by rw [rng_len]; omega
    have hHm : ((heldOf g sys).map encP).length = (heldOf g sys).length := List.length_map ..
    have hW0 : List.replicate cl.length (PyData.int 0) = iL (winL g cl d []) := by
      unfold winL iL
      rw [List.map_map]
      refine List.ext_getElem? fun i => ?_
      rw [List.getElem?_replicate, List.getElem?_map]
      by_cases hi : i < cl.length
      · rw [if_pos hi, List.getElem?_range hi]; rfl
      · rw [if_neg hi, List.getElem?_eq_none (by simp; omega)]; rfl
    have hst := start_eq h.tb hcl
    have hpr := h.tb.pr
    refine ⟨_, .nm (by ((with_reducible ((iterate 13 apply FPut.s); exact FPut.u)))), ?_⟩
    unfold lb_law_5
    ((with_reducible (apply s_fg; apply s_seq; apply s_setV; apply g_bin; apply g_ex; apply g_lst; apply g_elO; apply g_escE; apply g_C; apply datk_v; apply g_elN; apply And.intro (a := Fits _))); ((with_reducible apply fits_of); ((try simp only [List.length_append, List.length_cons, List.length_nil, List.length_map, List.length_replicate, List.length_reverse, List.length_dropLast]); (first | assumption | omega | decide))); (with_reducible (apply datk_o; apply g_ex; apply g_call; apply g_evC; apply g_nm; (iterate 4 apply DAt.s); exact DAt.v; apply g_evN; apply callk; apply ResAll.cons; apply Res.nm; (iterate 4 apply DAt.s); exact DAt.v; exact ResAll.nil; apply opn_1; exact oo_lenT _; apply datk_v; apply bink; (iterate 2 exact Res.dat))))
    · exact oo_rep1 (n := cl.length) (by rw [hcl2]) (by omega)
    ((with_reducible (apply datk_o; apply stk; (iterate 14 apply FPut.s); exact FPut.u; apply ks_nx; apply s_seq; apply s_for; apply g_it; apply g_escN; apply g_name; (iterate 6 apply NmAt.s); exact NmAt.v; apply datk_v; apply itk; exact It.l)))
    rw [hW0]
    refine forK hwin ?_
    ((with_reducible (apply ks_nx; apply s_seq; apply s_asg; apply g_def; apply g_caV; apply g_escN; apply g_name; (iterate 5 apply NmAt.s); exact NmAt.v; apply datk_v; apply g_caV; apply g_escE; apply g_def; apply g_caV; apply g_escN; apply g_name; (iterate 5 apply NmAt.s); exact NmAt.v; apply datk_v; apply g_caN; apply defk_d; apply RA.d; exact RA.nil)); ((with_reducible apply DfO.d); exact ⟨rfl, rfl, rfl⟩); (with_reducible (assumption; apply datk_v; apply g_caV; apply g_escE; apply g_tup; apply g_elO; apply g_escE; apply g_call; apply g_evC; apply g_nm; (iterate 8 apply DAt.s); exact DAt.v; apply g_evN; apply callk; apply ResAll.cons; apply Res.nm; (iterate 8 apply DAt.s); exact DAt.v; exact ResAll.nil; apply opn_1; exact oo_lenL _; apply datk_v; apply g_elO; apply g_escE; apply g_call; apply g_evC; apply g_nm; (iterate 14 apply DAt.s); exact DAt.v; apply g_evN; apply callk; apply ResAll.cons; apply Res.nm; (iterate 14 apply DAt.s); exact DAt.v; exact ResAll.nil; apply opn_1; exact oo_tupL _; apply datk_v; apply g_elN; apply And.intro (a := Fits _))); ((with_reducible apply fits_of); ((try simp only [List.length_append, List.length_cons, List.length_nil, List.length_map, List.length_replicate, List.length_reverse, List.length_dropLast]); (first | assumption | omega | decide))); (with_reducible (apply datk_v; apply g_caN; apply defk_d; (iterate 3 apply RA.d); exact RA.nil)); ((with_reducible apply DfO.d); exact ⟨rfl, rfl, rfl⟩))
    · rw [hHm]; exact hse
    ((with_reducible (apply datk_v; apply asgk; apply BCT.tu; apply BCTs.cons; apply BCT.nm; (iterate 17 apply FPut.s); exact FPut.u; apply BCTs.cons; apply BCT.nm; (iterate 18 apply FPut.s); exact FPut.u; apply BCTs.cons; apply BCT.nm; (iterate 19 apply FPut.s); exact FPut.u; apply BCTs.cons; apply BCT.nm; (iterate 20 apply FPut.s); exact FPut.u; exact BCTs.nil; apply ks_nx; apply s_seq; apply s_set; apply g_lst; apply g_elN; apply And.intro (a := Fits _))); ((with_reducible apply fits_of); ((try simp only [List.length_append, List.length_cons, List.length_nil, List.length_map, List.length_replicate, List.length_reverse, List.length_dropLast]); (first | assumption | omega | decide))); (with_reducible (apply slk_o; apply stk; (iterate 21 apply FPut.s); exact FPut.u; apply ks_nx; apply s_seq; apply s_for; apply g_it; apply g_escN; apply g_name; (iterate 8 apply NmAt.s); exact NmAt.v; apply datk_v; apply itk; exact It.l)))
    refine forK (own_loop (t := t) h hd hps) ?_
    ((with_reducible (apply ks_nx; apply s_seq; apply s_setV; apply g_call; apply g_evC; apply g_ex; apply g_lc; apply g_rng; apply g_evC; apply g_ex; apply g_call; apply g_evC; apply g_nm; (iterate 4 apply DAt.s); exact DAt.v; apply g_evN; apply callk; apply ResAll.cons; apply Res.nm; (iterate 4 apply DAt.s); exact DAt.v; exact ResAll.nil; apply opn_1; exact oo_lenT _; apply datk_v; apply g_evN; apply rngk; apply ResAll.cons; exact Res.dat; exact ResAll.nil; apply opl_r1)); (refine ⟨?_, ?_⟩ <;> (first | decide | omega)); (with_reducible (apply lck)); ((with_reducible apply fits_of); ((try simp only [List.length_append, List.length_cons, List.length_nil, List.length_map, List.length_replicate, List.length_reverse, List.length_dropLast]); (first | assumption | omega | decide))); (with_reducible (apply UnR.cons; exact UnR.nil; (iterate 16 apply FPut.s); exact FPut.g (by assumption))))
    rw [hcl2]
    refine lce (paid_lc hWl hps hWb) ?_
    ((with_reducible (apply datk_o; apply g_evN; apply callk; apply ResAll.cons; exact Res.dat; exact ResAll.nil; apply opn_1)))
    · exact oo_sumL (intsD_of _)
    ((with_reducible (apply datk_v; apply stk; (iterate 23 apply FPut.s); exact FPut.u; apply ks_nx; apply s_seq; apply s_ite; apply g_or; apply g_TB; apply g_bin; apply g_ex; apply g_call; apply g_evC; apply g_nm; (iterate 21 apply DAt.s); exact DAt.o; apply g_evN; apply callk; apply ResAll.cons; apply Res.nm; (iterate 21 apply DAt.s); exact DAt.o; exact ResAll.nil; apply opn_1)))
    · exact oo_sumL (intsD_of _)
    ((with_reducible (apply datk_v; apply g_nm; (iterate 23 apply DAt.s); exact DAt.v; apply bink; exact Res.dat; apply Res.nm; (iterate 23 apply DAt.s); exact DAt.v; exact oo_ne _ _; apply boolk; apply ifk_not)))
    refine ifk_y (os1'.trans (paid_sum hWl hps).symm) ?_
    ((with_reducible (apply g_or; apply g_TB; apply g_bin; apply g_ex; apply g_call; apply g_evC; apply g_nm; (iterate 21 apply DAt.s); exact DAt.o; apply g_evN; apply callk; apply ResAll.cons; apply Res.nm; (iterate 21 apply DAt.s); exact DAt.o; exact ResAll.nil; apply opn_1; exact oo_lenL _; apply datk_v; apply g_ex; apply g_call; apply g_evC; apply g_nm; (iterate 14 apply DAt.s); exact DAt.v; apply g_evN; apply callk; apply ResAll.cons; apply Res.nm; (iterate 14 apply DAt.s); exact DAt.v; exact ResAll.nil; apply opn_1)))
    · exact oo_sumL (intsD_of _)
    ((with_reducible (apply datk_v; apply bink; (iterate 2 exact Res.dat); exact oo_ne _ _; apply boolk; apply ifk_not)))
    refine ifk_y (by rw [List.length_map]; exact os2') ?_
    ((with_reducible (apply g_TB; apply g_bin; apply g_ex; apply g_bin; apply g_ex; apply g_bin; apply g_nm; (iterate 5 apply DAt.s); exact DAt.v; apply g_ex; apply g_C; apply datk_v; apply bink; apply Res.nm; (iterate 5 apply DAt.s); exact DAt.v; exact Res.dat; apply oo_ixT; exact ix0; apply datk_v; apply g_ex; apply g_call; apply g_evC; apply g_nm; (iterate 8 apply DAt.s); exact DAt.v; apply g_evN; apply callk; apply ResAll.cons; apply Res.nm; (iterate 8 apply DAt.s); exact DAt.v; exact ResAll.nil; apply opn_1; exact oo_lenL _; apply datk_v; apply bink; (iterate 2 exact Res.dat); apply oo_mul)); ((with_reducible refine mulOk_r ?_ ?_) <;> (first | decide | omega)); (with_reducible (apply datk_v; apply g_ex; apply g_bin; apply g_ex; apply g_bin; apply g_ex; apply g_bin; apply g_nm; (iterate 18 apply DAt.s); exact DAt.v; apply g_nm; (iterate 23 apply DAt.s); exact DAt.v; apply bink; apply Res.nm; (iterate 18 apply DAt.s); exact DAt.v; apply Res.nm; (iterate 23 apply DAt.s); exact DAt.v; exact oo_add _ _; apply datk_v; apply g_ex; apply g_call; apply g_evC; apply g_nm; (iterate 19 apply DAt.s); exact DAt.v; apply g_evN; apply callk; apply ResAll.cons; apply Res.nm; (iterate 19 apply DAt.s); exact DAt.v; exact ResAll.nil; apply opn_1)))
    · exact oo_sumT (intsD_of _)
    ((with_reducible (apply datk_v; apply bink; (iterate 2 exact Res.dat); exact oo_add _ _; apply datk_v; apply g_nm; (iterate 20 apply DAt.s); exact DAt.v; apply bink; exact Res.dat; apply Res.nm; (iterate 20 apply DAt.s); exact DAt.v; exact oo_add _ _; apply datk_v; apply bink; (iterate 2 exact Res.dat); exact oo_ne _ _; apply boolk; apply ifk_not)))
    refine ifk_y (by rw [hHm, paid_sum hWl hps]; omega) ?_
    ((with_reducible (apply s_sk; apply ks_nx; apply s_for; apply g_rng; apply g_evC; apply g_ex; apply g_call; apply g_evC; apply g_nm; (iterate 4 apply DAt.s); exact DAt.v; apply g_evN; apply callk; apply ResAll.cons; apply Res.nm; (iterate 4 apply DAt.s); exact DAt.v; exact ResAll.nil; apply opn_1; exact oo_lenT _; apply datk_v; apply g_evN; apply rngk; apply ResAll.cons; exact Res.dat; exact ResAll.nil; apply opl_r1)); (refine ⟨?_, ?_⟩ <;> (first | decide | omega)))
    rw [hcl2, paid_sum hWl hps]
    refine forK hcnt ?_
    ((with_reducible (apply kf_nx; apply Fgs.cons; (iterate 9 apply Fg1.s); exact Fg1.u; apply Fgs.cons; (iterate 10 apply Fg1.s); exact Fg1.u; apply Fgs.cons; (iterate 13 apply Fg1.s); exact Fg1.v; apply Fgs.cons; (iterate 14 apply Fg1.s); exact Fg1.v; apply Fgs.cons; (iterate 15 apply Fg1.s); exact Fg1.u; apply Fgs.cons; (iterate 17 apply Fg1.s); exact Fg1.v; apply Fgs.cons; (iterate 18 apply Fg1.s); exact Fg1.v; apply Fgs.cons; (iterate 19 apply Fg1.s); exact Fg1.v; apply Fgs.cons; (iterate 20 apply Fg1.s); exact Fg1.v; apply Fgs.cons; (iterate 21 apply Fg1.s); exact Fg1.o; apply Fgs.cons; (iterate 22 apply Fg1.s); exact Fg1.u; apply Fgs.cons; (iterate 23 apply Fg1.s); exact Fg1.v; exact Fgs.nil; apply qn_nx)))
    refine ⟨cs', ss', s', r1, r2, r3, fun k hk => ?_, fun k mo hk => ?_, rfl⟩
    · rw [(r4 k hk).1, q4 k hk, getD_of (winL_get hk)]
      unfold cntS
      rw [List.map_append, List.sum_append, Int.natCast_add]
      simp
    · have hkl : k < cl.length := by have := (List.getElem?_eq_some_iff.mp hk).1; omega
      rw [(r4 k hkl).1, (r4 k hkl).2, q5 k mo hk, hfix k mo (by omega) hk, Int.add_mul])
  exact ⟨cs, ss, s16, q1, q2, q3, q4, q5, h1⟩

end LW
set_option Elab.async false
set_option linter.all false
set_option maxRecDepth 100000
set_option maxHeartbeats 4000000
namespace LW
open PySem PySem.Spec PyProof.Rows L2 RT DL
theorem cntS_eq {g : List Fd} {cl : List (List (List Int))} {t : Tb} {sys : List (List SPt)} (h : Gm g cl t sys) {k : Nat} {c : List (List Int)} (hk : cl[k]? = some c) : cntS g cl (heldOf g sys) (foldF g) k = (heldOf g sys).length * clsW g c := by
  unfold cntS
  rw [count_swap (fun d pk => clk g cl d k pk)]
  have e : ((heldOf g sys).map fun pk => (foldF g).countP fun d => clk g cl d k pk) = (heldOf g sys).map fun _ => clsW g c := List.map_congr_left fun pk hpk =>
    drawsC_eq h.ok (heldOf_mem hpk) h.nd hk fun r hr => h.row c (List.mem_of_getElem? hk) r hr
  rw [e, List.map_const', List.sum_replicate_nat]
theorem frac_eq {H C M G : Int} (hG : 0 < G) (h1 : G ∣ C) (h2 : G ∣ M) : H * C * (M / G) = H * (C / G) * M := by
  obtain ⟨c, rfl⟩ := h1
  obtain ⟨m, rfl⟩ := h2
  rw [Int.mul_ediv_cancel_left _ (by omega), Int.mul_ediv_cancel_left _ (by omega)]
  ac_rfl
theorem gcI_dvd (a b : Int) : gcI a b ∣ a ∧ gcI a b ∣ b := by
  unfold gcI
  rw [Int.mul_one]
  exact ⟨Int.dvd_natAbs.mp (Int.natCast_dvd_natCast.mpr (Nat.gcd_dvd_left _ _)), Int.dvd_natAbs.mp (Int.natCast_dvd_natCast.mpr (Nat.gcd_dvd_right _ _))⟩
theorem end_loop {ns : List Int} {g : List Fd} {cl : List (List (List Int))} {t : Tb} {sys : List (List SPt)} (h : Gm g cl t sys) {s1 s16 : Sl} (h16 : s16.free = true) {cs ss : List Int} (q2 : cs.length = cl.length) (q3 : ss.length = cl.length)
    (q4 : ∀ k, k < cl.length → cs.getD k 0 = ((cntS g cl (heldOf g sys) (foldF g) k : Nat) : Int)) (q5 : FixS t.rows cs ss) :
    ∃ s16' : Sl, s16'.free = true ∧ forD (.nm 16) lb_law_6 ((rng 0 cl.length).map PyData.int) [.fz ns, s1, .val (encG g), .val (.list ((foldF g).map encP)), .val (.tuple (encC cl)), .val (encT t), .val (.list (sys.map encS)), .un, .val (.list ((heldOf g sys).map encP)), .un, .un, .own (.ls (iL cs)), .own (.ls (iL ss)), .un, .un, .un, s16, .un, .un, .un, .un, .un, .un, .un, .un, .un] = .nx [.fz ns, s1, .val (encG g), .val (.list ((foldF g).map encP)), .val (.tuple (encC cl)), .val (encT t), .val (.list (sys.map encS)), .un, .val (.list ((heldOf g sys).map encP)), .un, .un, .own (.ls (iL cs)), .own (.ls (iL ss)), .un, .un, .un, s16', .un, .un, .un, .un, .un, .un, .un, .un, .un] := by
  have hcl := h.clen
  have htl := h.tb.len
  have hHl := heldOf_len h.many sys
  have hs3 := h.slen
  have hmm := h.many
  have hfl := foldF_len g
  have hmp := manyG_pos g 1 h.ok
  have hmp : 1 ≤ manyG g := hmp
  obtain ⟨ρ', h1, s', q1, rfl⟩ := for_inv (c := .nm 16) (b := lb_law_6) PyData.int (fun pre ρ => ∃ s16 : Sl, s16.free = true ∧ ρ = [.fz ns, s1, .val (encG g), .val (.list ((foldF g).map encP)), .val (.tuple (encC cl)), .val (encT t), .val (.list (sys.map encS)), .un, .val (.list ((heldOf g sys).map encP)), .un, .un, .own (.ls (iL cs)), .own (.ls (iL ss)), .un, .un, .un, s16, .un, .un, .un, .un, .un, .un, .un, .un, .un]) (xs := rng 0 cl.length) (ρ := [.fz ns, s1, .val (encG g), .val (.list ((foldF g).map encP)), .val (.tuple (encC cl)), .val (encT t), .val (.list (sys.map encS)), .un, .val (.list ((heldOf g sys).map encP)), .un, .un, .own (.ls (iL cs)), .own (.ls (iL ss)), .un, .un, .un, s16, .un, .un, .un, .un, .un, .un, .un, .un, .un]) ⟨s16, h16, rfl⟩ (by
    rintro pre x suf ρ e ⟨s', q1, rfl⟩
    have hk := rng_split e
    have hx : x = (pre.length : Int) := by omega
    subst hx
    have hkl : pre.length < cl.length := by omega
    generalize pre.length = k at *
    have hc : cl[k]? = some cl[k] := List.getElem?_eq_getElem hkl
    have hch := chance_eq h.ok h.many hc fun r hr => h.row _ (List.getElem_mem hkl) r hr
    have hcnt := cntS_eq h hc
    have q4k := q4 k hkl
    rw [hcnt, Int.natCast_mul] at q4k
    generalize hC : ((clsW g cl[k] : Nat) : Int) = CC at *
    have hg1 := gcI_pos (a := CC) (b := (manyG g : Nat)) (by omega)
    obtain ⟨hd1, hd2⟩ := gcI_dvd CC (manyG g : Nat)
    have hfr := frac_eq (H := ((heldOf g sys).length : Nat)) hg1.1 hd1 hd2
    have hw0 : 0 ≤ ((manyG g : Nat) : Int) / gcI CC (manyG g : Nat) := Int.ediv_nonneg (by omega) (by omega)
    have hw1 : ((manyG g : Nat) : Int) / gcI CC (manyG g : Nat) ≤ (manyG g : Nat) := Int.ediv_le_self _ (by omega)
    generalize hwh : ((manyG g : Nat) : Int) / gcI CC (manyG g : Nat) = whole at *
    generalize hpa : CC / gcI CC (manyG g : Nat) = part at *
    have gx : ∀ (l : List Int), l.length = cl.length → IxAt (iL l) (k : Nat) (.int (l.getD k 0)) := fun l hl => by
      have := ixAt_rng (enc := PyData.int) (xs := l) (d := 0) (j := (k : Nat)) ⟨by omega, by omega⟩
      rw [Int.toNat_natCast] at this
      exact this
    have x1 := gx cs q2
    have x2 := gx ss q3
    obtain ⟨row, hrow⟩ : ∃ row, t.rows[k]? = some row := ⟨_, List.getElem?_eq_getElem (by omega)⟩
    have xr : IxAt (t.rows.map encRow) (k : Nat) (encRow row) := ixAt_map rfl hrow
    have hro := h.tb.rows row (List.mem_of_getElem? hrow)
    have hHm : ((heldOf g sys).map encP).length = (heldOf g sys).length := List.length_map ..
    have hPm : ((foldF g).map encP).length = manyG g := by rw [List.length_map]; exact hfl
    have e1 : cs.getD k 0 * whole = ((((heldOf g sys).map encP).length : Nat) : Int) * part * ((((foldF g).map encP).length : Nat) : Int) := by
      rw [hHm, hPm, q4k]; exact hfr
    refine ⟨_, .nm (by ((with_reducible ((iterate 16 apply FPut.s); exact FPut.g (by assumption))))), ?_⟩
    unfold lb_law_6
    cases row with
    | fix mo =>
      have hm0 : 0 ≤ mo ∧ mo < 90 := hro
      have e2 : ss.getD k 0 * whole = ((((heldOf g sys).map encP).length : Nat) : Int) * part * ((((foldF g).map encP).length : Nat) : Int) * mo := by
        rw [← e1, q5 k mo hrow]
        ac_rfl
      have xr : IxAt (t.rows.map encRow) (k : Nat) (.tuple [.str "fixed", .int mo, .tuple [.int 0, .int 1], .int 0, .str "keep"]) := xr
      ((with_reducible (apply s_fg; apply s_seq; apply s_asg; apply g_def; apply g_caV; apply g_escN; apply g_name; (iterate 2 apply NmAt.s); exact NmAt.v; apply datk_v; apply g_caV; apply g_escN; apply g_name; (iterate 4 apply NmAt.s); exact NmAt.v; apply datk_v; apply g_caV; apply g_escN; apply g_name; (iterate 16 apply NmAt.s); exact NmAt.v; apply datk_v; apply g_caN; apply defk_d; (iterate 3 apply RA.d); exact RA.nil)); ((with_reducible apply DfO.d); exact ⟨rfl, rfl, rfl⟩); (with_reducible (assumption; apply datk_v; apply asgk; apply BCT.tu; apply BCTs.cons; apply BCT.nm; (iterate 24 apply FPut.s); exact FPut.u; apply BCTs.cons; apply BCT.nm; (iterate 25 apply FPut.s); exact FPut.u; exact BCTs.nil; apply ks_nx; apply s_seq; apply s_ite; apply g_TB; apply g_bin; apply g_ex; apply g_bin; apply g_ex; apply g_bin; apply g_nm; (iterate 11 apply DAt.s); exact DAt.o; apply g_nm; (iterate 16 apply DAt.s); exact DAt.v; apply bink; apply Res.nm; (iterate 11 apply DAt.s); exact DAt.o; apply Res.nm; (iterate 16 apply DAt.s); exact DAt.v; apply oo_ixL; assumption; apply datk_v; apply g_nm; (iterate 25 apply DAt.s); exact DAt.v; apply bink; exact Res.dat; apply Res.nm; (iterate 25 apply DAt.s); exact DAt.v; apply oo_mul)); ((with_reducible refine mulOk_r ?_ ?_) <;> (first | decide | omega)); (with_reducible (apply datk_v; apply g_ex; apply g_bin; apply g_ex; apply g_bin; apply g_ex; apply g_call; apply g_evC; apply g_nm; (iterate 8 apply DAt.s); exact DAt.v; apply g_evN; apply callk; apply ResAll.cons; apply Res.nm; (iterate 8 apply DAt.s); exact DAt.v; exact ResAll.nil; apply opn_1; exact oo_lenL _; apply datk_v; apply g_nm; (iterate 24 apply DAt.s); exact DAt.v; apply bink; exact Res.dat; apply Res.nm; (iterate 24 apply DAt.s); exact DAt.v; apply oo_mul)); ((with_reducible refine mulOk_l ?_ ?_) <;> (first | decide | omega)); (with_reducible (apply datk_v; apply g_ex; apply g_call; apply g_evC; apply g_nm; (iterate 3 apply DAt.s); exact DAt.v; apply g_evN; apply callk; apply ResAll.cons; apply Res.nm; (iterate 3 apply DAt.s); exact DAt.v; exact ResAll.nil; apply opn_1; exact oo_lenL _; apply datk_v; apply bink; (iterate 2 exact Res.dat); apply oo_mul)); ((with_reducible refine mulOk_r ?_ ?_) <;> (first | decide | omega)); (with_reducible (apply datk_v; apply bink; (iterate 2 exact Res.dat); exact oo_ne _ _; apply boolk; apply ifk_not; refine ifk_y (by assumption) ?_; apply s_sk; apply ks_nx; apply s_ite; apply g_and; apply g_TB; apply g_bin; apply g_ex; apply g_bin; apply g_ex; apply g_bin; apply g_ex; apply g_bin; apply g_nm; (iterate 5 apply DAt.s); exact DAt.v; apply g_ex; apply g_C; apply datk_v; apply bink; apply Res.nm; (iterate 5 apply DAt.s); exact DAt.v; exact Res.dat; apply oo_ixT; exact ix3; apply datk_v; apply g_nm; (iterate 16 apply DAt.s); exact DAt.v; apply bink; exact Res.dat; apply Res.nm; (iterate 16 apply DAt.s); exact DAt.v; apply oo_ixT; assumption; apply datk_v; apply g_ex; apply g_C; apply datk_v; apply bink; (iterate 2 exact Res.dat); apply oo_ixT; exact ix0; apply datk_v; apply g_ex; apply g_C; apply datk_v; apply bink; (iterate 2 exact Res.dat); exact oo_eqS _ _; apply boolk)); (refine ifk_sy (by decide) ?_); (with_reducible (apply g_TB; apply g_bin; apply g_ex; apply g_bin; apply g_ex; apply g_bin; apply g_nm; (iterate 12 apply DAt.s); exact DAt.o; apply g_nm; (iterate 16 apply DAt.s); exact DAt.v; apply bink; apply Res.nm; (iterate 12 apply DAt.s); exact DAt.o; apply Res.nm; (iterate 16 apply DAt.s); exact DAt.v; apply oo_ixL; assumption; apply datk_v; apply g_nm; (iterate 25 apply DAt.s); exact DAt.v; apply bink; exact Res.dat; apply Res.nm; (iterate 25 apply DAt.s); exact DAt.v; apply oo_mul)); ((with_reducible refine mulOk_r ?_ ?_) <;> (first | decide | omega)); (with_reducible (apply datk_v; apply g_ex; apply g_bin; apply g_ex; apply g_bin; apply g_ex; apply g_bin; apply g_ex; apply g_call; apply g_evC; apply g_nm; (iterate 8 apply DAt.s); exact DAt.v; apply g_evN; apply callk; apply ResAll.cons; apply Res.nm; (iterate 8 apply DAt.s); exact DAt.v; exact ResAll.nil; apply opn_1; exact oo_lenL _; apply datk_v; apply g_nm; (iterate 24 apply DAt.s); exact DAt.v; apply bink; exact Res.dat; apply Res.nm; (iterate 24 apply DAt.s); exact DAt.v; apply oo_mul)); ((with_reducible refine mulOk_l ?_ ?_) <;> (first | decide | omega)); (with_reducible (apply datk_v; apply g_ex; apply g_call; apply g_evC; apply g_nm; (iterate 3 apply DAt.s); exact DAt.v; apply g_evN; apply callk; apply ResAll.cons; apply Res.nm; (iterate 3 apply DAt.s); exact DAt.v; exact ResAll.nil; apply opn_1; exact oo_lenL _; apply datk_v; apply bink; (iterate 2 exact Res.dat); apply oo_mul)); ((with_reducible refine mulOk_r ?_ ?_) <;> (first | decide | omega)); (with_reducible (apply datk_v; apply g_ex; apply g_bin; apply g_ex; apply g_bin; apply g_ex; apply g_bin; apply g_nm; (iterate 5 apply DAt.s); exact DAt.v; apply g_ex; apply g_C; apply datk_v; apply bink; apply Res.nm; (iterate 5 apply DAt.s); exact DAt.v; exact Res.dat; apply oo_ixT; exact ix3; apply datk_v; apply g_nm; (iterate 16 apply DAt.s); exact DAt.v; apply bink; exact Res.dat; apply Res.nm; (iterate 16 apply DAt.s); exact DAt.v; apply oo_ixT; assumption; apply datk_v; apply g_ex; apply g_C; apply datk_v; apply bink; (iterate 2 exact Res.dat); apply oo_ixT; exact ix1; apply datk_v; apply bink; (iterate 2 exact Res.dat); apply oo_mul)); ((with_reducible refine mulOk_r ?_ ?_) <;> (first | decide | omega)); (with_reducible (apply datk_v; apply bink; (iterate 2 exact Res.dat); exact oo_ne _ _; apply boolk; apply ifk_not; refine ifk_y (by assumption) ?_; apply s_sk; apply kf_nx; apply Fgs.cons; (iterate 16 apply Fg1.s); exact Fg1.v; apply Fgs.cons; (iterate 24 apply Fg1.s); exact Fg1.v; apply Fgs.cons; (iterate 25 apply Fg1.s); exact Fg1.v; exact Fgs.nil; apply qn_nx)))
      exact ⟨.un, rfl, rfl⟩
    | sh mo p q cap w =>
      have xr : IxAt (t.rows.map encRow) (k : Nat) (.tuple [.str "shared", .int mo, .tuple [.int p, .int q], .int cap, .str w]) := xr
      ((with_reducible (apply s_fg; apply s_seq; apply s_asg; apply g_def; apply g_caV; apply g_escN; apply g_name; (iterate 2 apply NmAt.s); exact NmAt.v; apply datk_v; apply g_caV; apply g_escN; apply g_name; (iterate 4 apply NmAt.s); exact NmAt.v; apply datk_v; apply g_caV; apply g_escN; apply g_name; (iterate 16 apply NmAt.s); exact NmAt.v; apply datk_v; apply g_caN; apply defk_d; (iterate 3 apply RA.d); exact RA.nil)); ((with_reducible apply DfO.d); exact ⟨rfl, rfl, rfl⟩); (with_reducible (assumption; apply datk_v; apply asgk; apply BCT.tu; apply BCTs.cons; apply BCT.nm; (iterate 24 apply FPut.s); exact FPut.u; apply BCTs.cons; apply BCT.nm; (iterate 25 apply FPut.s); exact FPut.u; exact BCTs.nil; apply ks_nx; apply s_seq; apply s_ite; apply g_TB; apply g_bin; apply g_ex; apply g_bin; apply g_ex; apply g_bin; apply g_nm; (iterate 11 apply DAt.s); exact DAt.o; apply g_nm; (iterate 16 apply DAt.s); exact DAt.v; apply bink; apply Res.nm; (iterate 11 apply DAt.s); exact DAt.o; apply Res.nm; (iterate 16 apply DAt.s); exact DAt.v; apply oo_ixL; assumption; apply datk_v; apply g_nm; (iterate 25 apply DAt.s); exact DAt.v; apply bink; exact Res.dat; apply Res.nm; (iterate 25 apply DAt.s); exact DAt.v; apply oo_mul)); ((with_reducible refine mulOk_r ?_ ?_) <;> (first | decide | omega)); (with_reducible (apply datk_v; apply g_ex; apply g_bin; apply g_ex; apply g_bin; apply g_ex; apply g_call; apply g_evC; apply g_nm; (iterate 8 apply DAt.s); exact DAt.v; apply g_evN; apply callk; apply ResAll.cons; apply Res.nm; (iterate 8 apply DAt.s); exact DAt.v; exact ResAll.nil; apply opn_1; exact oo_lenL _; apply datk_v; apply g_nm; (iterate 24 apply DAt.s); exact DAt.v; apply bink; exact Res.dat; apply Res.nm; (iterate 24 apply DAt.s); exact DAt.v; apply oo_mul)); ((with_reducible refine mulOk_l ?_ ?_) <;> (first | decide | omega)); (with_reducible (apply datk_v; apply g_ex; apply g_call; apply g_evC; apply g_nm; (iterate 3 apply DAt.s); exact DAt.v; apply g_evN; apply callk; apply ResAll.cons; apply Res.nm; (iterate 3 apply DAt.s); exact DAt.v; exact ResAll.nil; apply opn_1; exact oo_lenL _; apply datk_v; apply bink; (iterate 2 exact Res.dat); apply oo_mul)); ((with_reducible refine mulOk_r ?_ ?_) <;> (first | decide | omega)); (with_reducible (apply datk_v; apply bink; (iterate 2 exact Res.dat); exact oo_ne _ _; apply boolk; apply ifk_not; refine ifk_y (by assumption) ?_; apply s_sk; apply ks_nx; apply s_ite; apply g_and; apply g_TB; apply g_bin; apply g_ex; apply g_bin; apply g_ex; apply g_bin; apply g_ex; apply g_bin; apply g_nm; (iterate 5 apply DAt.s); exact DAt.v; apply g_ex; apply g_C; apply datk_v; apply bink; apply Res.nm; (iterate 5 apply DAt.s); exact DAt.v; exact Res.dat; apply oo_ixT; exact ix3; apply datk_v; apply g_nm; (iterate 16 apply DAt.s); exact DAt.v; apply bink; exact Res.dat; apply Res.nm; (iterate 16 apply DAt.s); exact DAt.v; apply oo_ixT; assumption; apply datk_v; apply g_ex; apply g_C; apply datk_v; apply bink; (iterate 2 exact Res.dat); apply oo_ixT; exact ix0; apply datk_v; apply g_ex; apply g_C; apply datk_v; apply bink; (iterate 2 exact Res.dat); exact oo_eqS _ _; apply boolk)); (refine ifk_sn (by decide) ?_); (with_reducible (apply ifk_f; apply s_sk; apply kf_nx; apply Fgs.cons; (iterate 16 apply Fg1.s); exact Fg1.v; apply Fgs.cons; (iterate 24 apply Fg1.s); exact Fg1.v; apply Fgs.cons; (iterate 25 apply Fg1.s); exact Fg1.v; exact Fgs.nil; apply qn_nx)))
      exact ⟨.un, rfl, rfl⟩)
  exact ⟨s', q1, h1⟩
theorem plain (ns : List Int) (hns : ns.length ≤ 63) : ∃ c, f_law [.fz ns] = .ok (.val (.bool true)) c := by
  have key : FR f_law [.fz ns] fun r c => r = .val (.bool true) := by
    obtain ⟨ds0, hdr⟩ := draws_eq ns (by omega)
    obtain ⟨g, ds1, hga, hgo, hgl, hgm⟩ := game_eq ds0
    have hpi := picks_eq g hgo hgl.2 hgm
    obtain ⟨cl, ds2, hcla, hcn, hcm, hcl⟩ := classes_eq hgo hgl ds1
    obtain ⟨t, ds3, hta, hto⟩ := table_eq cl.length hcl ds2
    have hcl2 : (encC cl).length = cl.length := List.length_map ..
    refine fr_of ?_
    unfold m_law
    show RS _ [.fz ns, .un, .un, .un, .un, .un, .un, .un, .un, .un, .un, .un, .un, .un, .un, .un, .un, .un, .un, .un, .un, .un, .un, .un, .un, .un] _
    ((with_reducible (apply s_seq; apply s_set; apply g_def; apply g_caZ; exact At.z; apply g_caN; apply defk_d; apply RA.fz; exact At.z; exact RA.nil)); ((with_reducible apply DfO.d); exact ⟨rfl, rfl, rfl⟩); (with_reducible (assumption; apply slk_o; apply stk; apply FPut.s; exact FPut.u; apply ks_nx; apply s_seq; apply s_setV; apply g_def; apply g_caI; apply LAt.s; exact LAt.o; apply g_caV; apply g_escE; apply g_C; apply datk_v; apply g_caN; apply defk_io; apply RA.io; apply LAt.s; exact LAt.o; apply RA.d; exact RA.nil)); ((with_reducible apply DfI.d); exact ⟨rfl, Nat.le_refl _⟩); (with_reducible (apply LAt.s; exact LAt.o; assumption; apply datk_v; apply stk; (iterate 2 apply FPut.s); exact FPut.u; apply ks_nx; apply s_seq; apply s_setV; apply g_def; apply g_caV; apply g_escN; apply g_name; (iterate 2 apply NmAt.s); exact NmAt.v; apply datk_v; apply g_caN; apply defk_d; apply RA.d; exact RA.nil)); ((with_reducible apply DfO.d); exact ⟨rfl, rfl, rfl⟩); (with_reducible (assumption; apply datk_v; apply stk; (iterate 3 apply FPut.s); exact FPut.u; apply ks_nx; apply s_seq; apply s_setV; apply g_def; apply g_caI; apply LAt.s; exact LAt.o; apply g_caV; apply g_escN; apply g_name; (iterate 2 apply NmAt.s); exact NmAt.v; apply datk_v; apply g_caN; apply defk_io; apply RA.io; apply LAt.s; exact LAt.o; apply RA.d; exact RA.nil)); ((with_reducible apply DfI.d); exact ⟨rfl, Nat.le_refl _⟩); (with_reducible (apply LAt.s; exact LAt.o; assumption; apply datk_v; apply stk; (iterate 4 apply FPut.s); exact FPut.u; apply ks_nx; apply s_seq; apply s_setV; apply g_def; apply g_caI; apply LAt.s; exact LAt.o; apply g_caV; apply g_escE; apply g_call; apply g_evC; apply g_nm; (iterate 4 apply DAt.s); exact DAt.v; apply g_evN; apply callk; apply ResAll.cons; apply Res.nm; (iterate 4 apply DAt.s); exact DAt.v; exact ResAll.nil; apply opn_1; exact oo_lenT _; apply datk_v; apply g_caN; apply defk_io; apply RA.io; apply LAt.s; exact LAt.o; apply RA.d; exact RA.nil)); ((with_reducible apply DfI.d); exact ⟨rfl, Nat.le_refl _⟩); (with_reducible (apply LAt.s; exact LAt.o)))
    · rw [hcl2]; exact hta
    ((with_reducible (apply datk_v; apply stk; (iterate 5 apply FPut.s); exact FPut.u; apply ks_nx; apply s_seq; apply s_setV; apply g_lc; apply g_rng; apply g_evC; apply g_ex; apply g_def; apply g_caI; apply LAt.s; exact LAt.o; apply g_caV; apply g_escE; apply g_C; apply datk_v; apply g_caN; apply defk_take; apply LAt.s; exact LAt.o)); (unfold DL.Pos; (first | assumption | decide | omega)); ((with_reducible change ∀ (x : Int) (ds' : List Int), 0 ≤ x → x < _ → _); intro _ _ _ _); (with_reducible (apply datk_v; apply g_evN; apply rngk; apply ResAll.cons; exact Res.dat; exact ResAll.nil; apply opl_r1)); (refine ⟨?_, ?_⟩ <;> (first | decide | omega)); (with_reducible (apply lck)))
    · rename_i j ds4 hj0 hj1
      refine fits_of ?_
      rw [List.length_map, rng_len]
      omega
    ((with_reducible (apply UnR.cons; exact UnR.nil; (iterate 7 apply FPut.s); exact FPut.u)))
    rename_i j ds4 hj0 hj1
    obtain ⟨sys, ds5, hsy, hsl, hlc⟩ := sys_lc (ns := ns) hgo hgl.2 (s3 := .val (.list ((foldF g).map encP))) (s4 := .val (.tuple (encC cl))) (s5 := .val (encT t)) j ds4
    rw [rng_len] at hsl
    have hG : Gm g cl t sys := ⟨hgo, hgl, hgm, hcn, hcm, hcl, hto, hsy, by omega⟩
    refine lce hlc ?_
    ((with_reducible (apply datk_o; apply stk; (iterate 6 apply FPut.s); exact FPut.u; apply ks_nx; apply s_seq; apply s_setV; apply g_lst; apply g_elN; apply And.intro (a := Fits _))); ((with_reducible apply fits_of); ((try simp only [List.length_append, List.length_cons, List.length_nil, List.length_map, List.length_replicate, List.length_reverse, List.length_dropLast]); (first | assumption | omega | decide))); (with_reducible (apply datk_o; apply stk; (iterate 8 apply FPut.s); exact FPut.u; apply ks_nx; apply s_seq; apply s_for; apply g_it; apply g_escN; apply g_name; (iterate 6 apply NmAt.s); exact NmAt.v; apply datk_v; apply itk; exact It.l)))
    refine forK (held_loop hG) ?_
    ((with_reducible (apply ks_nx; apply s_seq; apply s_set; apply g_bin; apply g_ex; apply g_lst; apply g_elO; apply g_escE; apply g_C; apply datk_v; apply g_elN; apply And.intro (a := Fits _))); ((with_reducible apply fits_of); ((try simp only [List.length_append, List.length_cons, List.length_nil, List.length_map, List.length_replicate, List.length_reverse, List.length_dropLast]); (first | assumption | omega | decide))); (with_reducible (apply datk_o; apply g_ex; apply g_call; apply g_evC; apply g_nm; (iterate 4 apply DAt.s); exact DAt.v; apply g_evN; apply callk; apply ResAll.cons; apply Res.nm; (iterate 4 apply DAt.s); exact DAt.v; exact ResAll.nil; apply opn_1; exact oo_lenT _; apply datk_v; apply bink; (iterate 2 exact Res.dat))))
    · exact oo_rep1 (n := cl.length) (by rw [hcl2]) (by omega)
    ((with_reducible (apply slk_o; apply stk; (iterate 11 apply FPut.s); exact FPut.u; apply ks_nx; apply s_seq; apply s_set; apply g_bin; apply g_ex; apply g_lst; apply g_elO; apply g_escE; apply g_C; apply datk_v; apply g_elN; apply And.intro (a := Fits _))); ((with_reducible apply fits_of); ((try simp only [List.length_append, List.length_cons, List.length_nil, List.length_map, List.length_replicate, List.length_reverse, List.length_dropLast]); (first | assumption | omega | decide))); (with_reducible (apply datk_o; apply g_ex; apply g_call; apply g_evC; apply g_nm; (iterate 4 apply DAt.s); exact DAt.v; apply g_evN; apply callk; apply ResAll.cons; apply Res.nm; (iterate 4 apply DAt.s); exact DAt.v; exact ResAll.nil; apply opn_1; exact oo_lenT _; apply datk_v; apply bink; (iterate 2 exact Res.dat))))
    · exact oo_rep1 (n := cl.length) (by rw [hcl2]) (by omega)
    ((with_reducible (apply slk_o; apply stk; (iterate 12 apply FPut.s); exact FPut.u; apply ks_nx; apply s_seq; apply s_for; apply g_it; apply g_escN; apply g_name; (iterate 3 apply NmAt.s); exact NmAt.v; apply datk_v; apply itk; exact It.l)))
    obtain ⟨cs, ss, s16, q1, q2, q3, q4, q5, hml⟩ := main_loop (ns := ns) hG (s1 := .own (.ls (iL ds5))) rfl rfl
    have hrep : List.replicate cl.length (PyData.int 0) = iL (List.replicate cl.length 0) := by simp [iL]
    rw [hrep]
    refine forK hml ?_
    ((with_reducible (apply ks_nx; apply s_seq; apply s_for; apply g_rng; apply g_evC; apply g_ex; apply g_call; apply g_evC; apply g_nm; (iterate 4 apply DAt.s); exact DAt.v; apply g_evN; apply callk; apply ResAll.cons; apply Res.nm; (iterate 4 apply DAt.s); exact DAt.v; exact ResAll.nil; apply opn_1; exact oo_lenT _; apply datk_v; apply g_evN; apply rngk; apply ResAll.cons; exact Res.dat; exact ResAll.nil; apply opl_r1)); (refine ⟨?_, ?_⟩ <;> (first | decide | omega)))
    rw [hcl2]
    obtain ⟨s16', q6, hel⟩ := end_loop (ns := ns) hG (s1 := .own (.ls (iL ds5))) q1 q2 q3 q4 q5
    refine forK hel ?_
    ((with_reducible (apply ks_nx; apply s_ret; apply g_C; apply qd_rt; apply IoR.fz; apply IoR.own; (iterate 5 apply IoR.val); apply IoR.un; apply IoR.val; (iterate 2 apply IoR.un); (iterate 2 apply IoR.own); (iterate 3 apply IoR.un))))
    · exact IoR.fr q6 (by ((with_reducible ((iterate 9 apply IoR.un); exact IoR.nil))))
    exact ⟨_, _, rfl, rfl⟩
  obtain ⟨r, c, h, rfl⟩ := key
  exact ⟨c, h⟩

end LW
set_option Elab.async false
set_option linter.all false
set_option maxRecDepth 100000
set_option maxHeartbeats 4000000
namespace LW
open PySem PySem.Spec PyProof.Rows L2 RT DL
def top (i : Nat) : Stmt := PySem.Challenge.pw_lotshown_k92_whole_prizes_over_all_draws.main.body.getD i (.Pass ⟨0, 0, 0, 0⟩)
theorem room_u {k : Nat} {A : Around} (hr : Room k A) : A.units + 64 < cLine := by have := hr.un; omega
theorem xg_pg {X : Cx} {e : Expr} {c : CT} (h : XG X e c) : PG X e (ctG X.K c) := h
structure Fds where
  _law_draws : FuncData
  _law_take : FuncData
  _law_parts : FuncData
  _law_game : FuncData
  _law_picks : FuncData
  _law_all_hits : FuncData
  _law_classes : FuncData
  _law_table : FuncData
  _law_system : FuncData
  rounded : FuncData
  made : FuncData
  times : FuncData
  share_of : FuncData
  raised : FuncData
  pay : FuncData
  settle : FuncData
  is_number : FuncData
  check_place : FuncData
  parts_many : FuncData
  many : FuncData
  ways_to_hit : FuncData
  chance : FuncData
  places_ways : FuncData
  end_ways : FuncData
  part_ways : FuncData
  wins : FuncData
  start_state : FuncData
  same_in_places : FuncData
  same_at_end : FuncData
  hits : FuncData
  class_of : FuncData
  _law_holds : FuncData
  law : FuncData
structure All (K : PySem.W.Frag) (mg : Str → Option Value) (D : Fds) : Prop where
  d__law_draws : Dn K mg "_law_draws" (top 35) D._law_draws
  d__law_take : Dn K mg "_law_take" (top 36) D._law_take
  d__law_parts : Dn K mg "_law_parts" (top 39) D._law_parts
  d__law_game : Dn K mg "_law_game" (top 38) D._law_game
  d__law_picks : Dn K mg "_law_picks" (top 40) D._law_picks
  d__law_all_hits : Dn K mg "_law_all_hits" (top 44) D._law_all_hits
  d__law_classes : Dn K mg "_law_classes" (top 45) D._law_classes
  d__law_table : Dn K mg "_law_table" (top 47) D._law_table
  d__law_system : Dn K mg "_law_system" (top 41) D._law_system
  d_rounded : Dn K mg "rounded" (top 24) D.rounded
  d_made : Dn K mg "made" (top 22) D.made
  d_times : Dn K mg "times" (top 23) D.times
  d_share_of : Dn K mg "share_of" (top 31) D.share_of
  d_raised : Dn K mg "raised" (top 17) D.raised
  d_pay : Dn K mg "pay" (top 32) D.pay
  d_settle : Dn K mg "settle" (top 33) D.settle
  d_is_number : Dn K mg "is_number" (top 2) D.is_number
  d_check_place : Dn K mg "check_place" (top 27) D.check_place
  d_parts_many : Dn K mg "parts_many" (top 19) D.parts_many
  d_many : Dn K mg "many" (top 20) D.many
  d_ways_to_hit : Dn K mg "ways_to_hit" (top 26) D.ways_to_hit
  d_chance : Dn K mg "chance" (top 28) D.chance
  d_places_ways : Dn K mg "places_ways" (top 8) D.places_ways
  d_end_ways : Dn K mg "end_ways" (top 9) D.end_ways
  d_part_ways : Dn K mg "part_ways" (top 10) D.part_ways
  d_wins : Dn K mg "wins" (top 11) D.wins
  d_start_state : Dn K mg "start_state" (top 30) D.start_state
  d_same_in_places : Dn K mg "same_in_places" (top 4) D.same_in_places
  d_same_at_end : Dn K mg "same_at_end" (top 5) D.same_at_end
  d_hits : Dn K mg "hits" (top 6) D.hits
  d_class_of : Dn K mg "class_of" (top 7) D.class_of
  d__law_holds : Dn K mg "_law_holds" (top 42) D._law_holds
  d_law : Dn K mg "law" (top 48) D.law
  n_abs : mg "abs" = none
  n_bool : mg "bool" = none
  v_comb : mg "comb" = some (.builtin "math.comb")
  n_divmod : mg "divmod" = none
  n_enumerate : mg "enumerate" = none
  v_gcd : mg "gcd" = some (.builtin "math.gcd")
  n_int : mg "int" = none
  n_isinstance : mg "isinstance" = none
  n_len : mg "len" = none
  n_list : mg "list" = none
  n_max : mg "max" = none
  n_min : mg "min" = none
  n_range : mg "range" = none
  n_reversed : mg "reversed" = none
  n_sorted : mg "sorted" = none
  n_sum : mg "sum" = none
  n_tuple : mg "tuple" = none
  n_zip : mg "zip" = none
theorem bt_abs : bootBuiltins "abs" = some (.builtin "abs") := by decide +kernel
theorem bt_bool : bootBuiltins "bool" = some (.type "bool") := by decide +kernel
theorem bt_divmod : bootBuiltins "divmod" = some (.builtin "divmod") := by decide +kernel
theorem bt_enumerate : bootBuiltins "enumerate" = some (.type "enumerate") := by decide +kernel
theorem bt_int : bootBuiltins "int" = some (.type "int") := by decide +kernel
theorem bt_isinstance : bootBuiltins "isinstance" = some (.builtin "isinstance") := by decide +kernel
theorem bt_len : bootBuiltins "len" = some (.builtin "len") := by decide +kernel
theorem bt_list : bootBuiltins "list" = some (.type "list") := by decide +kernel
theorem bt_max : bootBuiltins "max" = some (.builtin "max") := by decide +kernel
theorem bt_min : bootBuiltins "min" = some (.builtin "min") := by decide +kernel
theorem bt_range : bootBuiltins "range" = some (.type "range") := by decide +kernel
theorem bt_reversed : bootBuiltins "reversed" = some (.type "reversed") := by decide +kernel
theorem bt_sorted : bootBuiltins "sorted" = some (.builtin "sorted") := by decide +kernel
theorem bt_sum : bootBuiltins "sum" = some (.builtin "sum") := by decide +kernel
theorem bt_tuple : bootBuiltins "tuple" = some (.type "tuple") := by decide +kernel
theorem bt_zip : bootBuiltins "zip" = some (.type "zip") := by decide +kernel
theorem sc__law_draws : FnScope ["script", "draws", "cell", "number", "first", "k", "seed"] ["script"] (defScope (top 35)) := ⟨rfl, rfl, rfl, by decide +kernel, rfl, by decide +kernel, by decide +kernel⟩
theorem sc__law_take : FnScope ["draws", "bound"] ["draws", "bound"] (defScope (top 36)) := ⟨rfl, rfl, rfl, by decide +kernel, rfl, by decide +kernel, by decide +kernel⟩
theorem sc__law_parts : FnScope ["field", "kind", "n", "k", "found", "turn", "more", "part", "first", "number"] ["field"] (defScope (top 39)) := ⟨rfl, rfl, rfl, by decide +kernel, rfl, by decide +kernel, by decide +kernel⟩
theorem sc__law_game : FnScope ["draws", "most", "turn", "game", "many_v", "k", "kind", "n", "taken"] ["draws", "most"] (defScope (top 38)) := ⟨rfl, rfl, rfl, by decide +kernel, rfl, by decide +kernel, by decide +kernel⟩
theorem sc__law_picks : FnScope ["game", "found", "field", "more", "pick", "part"] ["game"] (defScope (top 40)) := ⟨rfl, rfl, rfl, by decide +kernel, rfl, by decide +kernel, by decide +kernel⟩
theorem sc__law_all_hits : FnScope ["game", "found", "kind", "n", "k", "more", "one", "number"] ["game"] (defScope (top 44)) := ⟨rfl, rfl, rfl, by decide +kernel, rfl, by decide +kernel, by decide +kernel⟩
theorem sc__law_classes : FnScope ["draws", "game", "rows", "found", "k", "own", "one"] ["draws", "game"] (defScope (top 45)) := ⟨rfl, rfl, rfl, by decide +kernel, rfl, by decide +kernel, by decide +kernel⟩
theorem sc__law_table : FnScope ["draws", "many_v", "rows", "k", "word"] ["draws", "many_v"] (defScope (top 47)) := ⟨rfl, rfl, rfl, by decide +kernel, rfl, by decide +kernel, by decide +kernel⟩
theorem sc__law_system : FnScope ["draws", "game", "found", "kind", "n", "k", "rows", "number", "left", "places", "turn", "figure"] ["draws", "game"] (defScope (top 41)) := ⟨rfl, rfl, rfl, by decide +kernel, rfl, by decide +kernel, by decide +kernel⟩
theorem sc_rounded : FnScope ["fraction", "way", "part", "whole", "low", "rest"] ["fraction", "way"] (defScope (top 24)) := ⟨rfl, rfl, rfl, by decide +kernel, rfl, by decide +kernel, by decide +kernel⟩
theorem sc_made : FnScope ["part", "whole", "turned", "common"] ["part", "whole"] (defScope (top 22)) := ⟨rfl, rfl, rfl, by decide +kernel, rfl, by decide +kernel, by decide +kernel⟩
theorem sc_times : FnScope ["one", "other"] ["one", "other"] (defScope (top 23)) := ⟨rfl, rfl, rfl, by decide +kernel, rfl, by decide +kernel, by decide +kernel⟩
theorem sc_share_of : FnScope ["rate", "stakes"] ["rate", "stakes"] (defScope (top 31)) := ⟨rfl, rfl, rfl, by decide +kernel, rfl, by decide +kernel, by decide +kernel⟩
theorem sc_raised : FnScope ["base", "exponent", "product", "_"] ["base", "exponent"] (defScope (top 17)) := ⟨rfl, rfl, rfl, by decide +kernel, rfl, by decide +kernel, by decide +kernel⟩
theorem sc_pay : FnScope ["one", "pot", "winners", "raised", "each"] ["one", "pot", "winners"] (defScope (top 32)) := ⟨rfl, rfl, rfl, by decide +kernel, rfl, by decide +kernel, by decide +kernel⟩
theorem sc_settle : FnScope ["table", "state", "outcome", "price", "due_rate", "most", "classes", "sold", "winners", "stakes", "due", "change", "fallen", "prizes", "carried", "k", "one", "kept", "rolled", "share", "pot", "each", "raised", "left"] ["table", "state", "outcome"] (defScope (top 33)) := ⟨rfl, rfl, rfl, by decide +kernel, rfl, by decide +kernel, by decide +kernel⟩
theorem sc_is_number : FnScope ["value", "least", "most"] ["value", "least", "most"] (defScope (top 2)) := ⟨rfl, rfl, rfl, by decide +kernel, rfl, by decide +kernel, by decide +kernel⟩
theorem sc_check_place : FnScope ["classes", "place"] ["classes", "place"] (defScope (top 27)) := ⟨rfl, rfl, rfl, by decide +kernel, rfl, by decide +kernel, by decide +kernel⟩
theorem sc_parts_many : FnScope ["field", "kind", "size", "taken"] ["field"] (defScope (top 19)) := ⟨rfl, rfl, rfl, by decide +kernel, rfl, by decide +kernel, by decide +kernel⟩
theorem sc_many : FnScope ["game", "found", "field"] ["game"] (defScope (top 20)) := ⟨rfl, rfl, rfl, by decide +kernel, rfl, by decide +kernel, by decide +kernel⟩
theorem sc_ways_to_hit : FnScope ["field", "h", "kind", "size", "taken"] ["field", "h"] (defScope (top 26)) := ⟨rfl, rfl, rfl, by decide +kernel, rfl, by decide +kernel, by decide +kernel⟩
theorem sc_chance : FnScope ["game", "classes", "place", "count", "row", "product", "field", "hit"] ["game", "classes", "place"] (defScope (top 28)) := ⟨rfl, rfl, rfl, by decide +kernel, rfl, by decide +kernel, by decide +kernel⟩
theorem sc_places_ways : FnScope ["part", "drawn", "ways", "figures", "figure", "same", "other", "one", "before"] ["part", "drawn"] (defScope (top 8)) := ⟨rfl, rfl, rfl, by decide +kernel, rfl, by decide +kernel, by decide +kernel⟩
theorem sc_end_ways : FnScope ["part", "drawn", "ways", "ahead", "figures", "place", "same"] ["part", "drawn"] (defScope (top 9)) := ⟨rfl, rfl, rfl, by decide +kernel, rfl, by decide +kernel, by decide +kernel⟩
theorem sc_part_ways : FnScope ["field", "part", "drawn", "kind", "_", "taken", "inside", "number", "outside", "count"] ["field", "part", "drawn"] (defScope (top 10)) := ⟨rfl, rfl, rfl, by decide +kernel, rfl, by decide +kernel, by decide +kernel⟩
theorem sc_wins : FnScope ["game", "classes", "system", "drawn", "ways", "field", "part", "other", "found", "row", "count", "one", "product", "own", "hit"] ["game", "classes", "system", "drawn"] (defScope (top 11)) := ⟨rfl, rfl, rfl, by decide +kernel, rfl, by decide +kernel, by decide +kernel⟩
theorem sc_start_state : FnScope ["table", "one"] ["table"] (defScope (top 30)) := ⟨rfl, rfl, rfl, by decide +kernel, rfl, by decide +kernel, by decide +kernel⟩
theorem sc_same_in_places : FnScope ["part", "drawn", "one", "other"] ["part", "drawn"] (defScope (top 4)) := ⟨rfl, rfl, rfl, by decide +kernel, rfl, by decide +kernel, by decide +kernel⟩
theorem sc_same_at_end : FnScope ["part", "drawn", "count"] ["part", "drawn"] (defScope (top 5)) := ⟨rfl, rfl, rfl, by decide +kernel, rfl, by decide +kernel, by decide +kernel⟩
theorem sc_hits : FnScope ["game", "pick", "drawn", "found", "field", "part", "other", "number"] ["game", "pick", "drawn"] (defScope (top 6)) := ⟨rfl, rfl, rfl, by decide +kernel, rfl, by decide +kernel, by decide +kernel⟩
theorem sc_class_of : FnScope ["game", "classes", "pick", "drawn", "own", "place", "row"] ["game", "classes", "pick", "drawn"] (defScope (top 7)) := ⟨rfl, rfl, rfl, by decide +kernel, rfl, by decide +kernel, by decide +kernel⟩
theorem sc__law_holds : FnScope ["game", "system", "pick", "k", "number", "j"] ["game", "system", "pick"] (defScope (top 42)) := ⟨rfl, rfl, rfl, by decide +kernel, rfl, by decide +kernel, by decide +kernel⟩
theorem sc_law : FnScope ["script", "draws", "game", "picks", "classes", "table", "systems", "unused", "held", "system", "pick", "counts", "sums", "drawn", "winners", "told", "k", "prizes", "due", "state", "change", "own", "place", "paid", "part", "whole"] ["script"] (defScope (top 48)) := ⟨rfl, rfl, rfl, by decide +kernel, rfl, by decide +kernel, by decide +kernel⟩
section
variable {P : Program} {w : World} {K : PySem.W.Frag} {mg : Str → Option Value} {base : Heap} {D : Fds}
theorem bi__law_draws (G : All K mg D) : Binds K D._law_draws ["script"] [] := G.d__law_draws.F.bindsN fun _ _ _ _ _ _ us hl => match us, hl with | [_], _ => rfl
theorem ok__law_draws (G : All K mg D) : FnOk P w K mg base CX0 1 (He.ga K "_law_draws") D._law_draws ["script"] (spD K 1 f__law_draws) :=
  fn_dl G.d__law_draws.F sc__law_draws fun cdv A outer s H E hr B =>
  (xss_cons (xs_set sc__law_draws.nd rfl (.inl rfl) (xe_lst .nil))
  (xss_cons (xs_for (mb := lb__law_draws_2) (passes_of rfl) rfl (xi_fz (pv 0)) (xg_name sc__law_draws.nd rfl (.inl rfl)) (xss_fg [2, 3, 4, 5] (xss_cons (xs_setV sc__law_draws.nd rfl (.inl rfl) (xe_callB call_abs cs_abs rfl G.n_abs bt_abs (.cons (xo_nm (pv 2)) .nil rfl)))
  (xss_cons (xs_if (xt_cmp op_lt sp_cmp (xo_nm (pv 3)) (xo_ex (xe_op op_pow sp_pow (xo_ex xe_int) (xo_ex xe_int))) (nomark _)) (xss_cons (xs_setV sc__law_draws.nd rfl (.inl rfl) (xe_op o_mod sp_mod (xo_ex (xe_callT call_int1 cs_int rfl G.n_int bt_int (.cons (xo_ex (xe_op o_add sp_add (xo_ex (xe_op o_mul sp_mul (xo_nm (pv 3)) (xo_ex xe_int))) (xo_ex xe_int))) .nil rfl))) (xo_ex xe_int)))
  (xss_cons (xs_expr (xe_app (pv 1) (xe_op o_mod sp_mod (xo_ex (xe_callT call_int1 cs_int rfl G.n_int bt_int (.cons (xo_ex (xe_op o_add sp_add (xo_ex (xe_op o_mul sp_mul (xo_nm (pv 4)) (xo_ex xe_int))) (xo_nm (pv 3)))) .nil rfl))) (xo_ex xe_int))))
  (xss_cons (xs_expr (xe_app (pv 1) (xe_op o_mod sp_mod (xo_ex (xe_callT call_int1 cs_int rfl G.n_int bt_int (.cons (xo_ex (xe_op o_add sp_add (xo_nm (pv 4)) (xo_ex (xe_op o_div sp_div (xo_nm (pv 3)) (xo_ex xe_int))))) .nil rfl))) (xo_ex xe_int))))
  (xss_one (xs_setV sc__law_draws.nd rfl (.inl rfl) xe_int))))) xss_nil)
  (xss_one (xs_for (mb := lb__law_draws_1) (passes_of rfl) rfl (xi_r1 rfl G.n_range (xo_ex xe_int)) (xg_name sc__law_draws.nd rfl (.inl rfl)) (xss_fg [5] (xss_one (xs_if (xt_cmp op_gt sp_cmp (xo_nm (pv 3)) (xo_ex xe_int) (nomark _)) (xss_cons (xs_expr (xe_app (pv 1) (xe_op o_mod sp_mod (xo_ex (xe_callT call_int1 cs_int rfl G.n_int bt_int (.cons (xo_nm (pv 3)) .nil rfl))) (xo_ex xe_int))))
  (xss_one (xs_setV sc__law_draws.nd rfl (.inl rfl) (xe_op o_div sp_div (xo_nm (pv 3)) (xo_ex xe_int))))) xss_nil)))))))))
  (xss_cons (xs_setV sc__law_draws.nd rfl (.inl rfl) xe_int)
  (xss_cons (xs_if (xt_cmp op_gt sp_cmp (xo_ex (xe_lenZ (pv 0) rfl G.n_len bt_len)) (xo_ex xe_int) (nomark _)) (xss_one (xs_setV sc__law_draws.nd rfl (.inl rfl) (xe_op o_add sp_add (xo_ex xe_int) (xo_ex (xe_callB call_abs cs_abs rfl G.n_abs bt_abs (.cons (xo_ex (xe_ixZ (pv 0) (xo_ex xe_int) fun _ _ => rfl)) .nil rfl)))))) xss_nil)
  (xss_cons (xs_for (mb := lb__law_draws_3) (passes_of rfl) rfl (xi_r1 rfl G.n_range (xo_ex xe_int)) (xg_name sc__law_draws.nd rfl (.inl rfl)) (xss_fg [5] (xss_cons (xs_setV sc__law_draws.nd rfl (.inl rfl) (xe_op o_mod sp_mod (xo_ex (xe_callT call_int1 cs_int rfl G.n_int bt_int (.cons (xo_ex (xe_op o_add sp_add (xo_ex (xe_op o_mul sp_mul (xo_nm (pv 6)) (xo_ex xe_int))) (xo_ex xe_int))) .nil rfl))) (xo_ex xe_int)))
  (xss_one (xs_expr (xe_app (pv 1) (xe_op o_div sp_div (xo_nm (pv 6)) (xo_ex xe_int))))))))
  (xss_one (xs_ret (xe_listRev rfl rfl G.n_list rfl G.n_reversed (xo_nm (pv 1))))))))))
theorem bi__law_take (G : All K mg D) : Binds K D._law_take ["draws", "bound"] [] := G.d__law_take.F.bindsN fun _ _ _ _ _ _ us hl => match us, hl with | [_, _], _ => rfl
theorem ok__law_take (G : All K mg D) : FnOk P w K mg base CX0 1 (He.ga K "_law_take") D._law_take ["draws", "bound"] (spD K 2 f__law_take) :=
  fn_dl G.d__law_take.F sc__law_take fun cdv A outer s H E hr B =>
  (xss_cons (xs_if (xt_cmp (o_eq hr) sp_eq (xo_ex (xe_callB b_len cs_len rfl G.n_len bt_len (.cons (xo_nm (pv 0)) .nil rfl))) (xo_ex xe_int) (nomark _)) (xss_one (xs_ret xe_int)) xss_nil)
  (xss_one (xs_ret (xe_op o_mod sp_mod (xo_ex (xe_callT call_int1 cs_int rfl G.n_int bt_int (.cons (xo_ex (xe_pop (pv 0))) .nil rfl))) (xo_nm (pv 1))))))
theorem bi__law_parts (G : All K mg D) : Binds K D._law_parts ["field"] [] := G.d__law_parts.F.bindsN fun _ _ _ _ _ _ us hl => match us, hl with | [_], _ => rfl
theorem ok__law_parts (G : All K mg D) : FnOk P w K mg base CX0 1 (He.ga K "_law_parts") D._law_parts ["field"] (spD K 1 f__law_parts) :=
  fn_dl G.d__law_parts.F sc__law_parts fun cdv A outer s H E hr B =>
  (xss_cons (xs_asg (xg_tup rfl (xgs_cons (xg_name sc__law_parts.nd rfl (.inl rfl)) (xgs_cons (xg_name sc__law_parts.nd rfl (.inl rfl)) (xgs_cons (xg_name sc__law_parts.nd rfl (.inl rfl)) xgs_nil)))) (xe_nm (pv 0)))
  (xss_cons (xs_setV sc__law_parts.nd rfl (.inl rfl) (xe_lst (.one (xo_ex (xe_tup .nil)) .nil rfl)))
  (xss_cons (xs_for (mb := lb__law_parts_3) (passes_of rfl) rfl (xi_r1 rfl G.n_range (xo_nm (pv 3))) (xg_name sc__law_parts.nd rfl (.inl rfl)) (xss_fg [5, 6, 7, 8, 9] (xss_cons (xs_set sc__law_parts.nd rfl (.inl rfl) (xe_lst .nil))
  (xss_cons (xs_for (mb := lb__law_parts_2) (passes_of rfl) rfl (xi_seq (xo_nm (pv 4))) (xg_name sc__law_parts.nd rfl (.inl rfl)) (xss_fg [7, 8, 9] (xss_cons (xs_setV sc__law_parts.nd rfl (.inl rfl) xe_int)
  (xss_cons (xs_if (xt_cmp (o_eq hr) sp_eq (xo_nm (pv 1)) (xo_ex xe_str) (nomark _)) (xss_one (xs_setV sc__law_parts.nd rfl (.inl rfl) (xe_op o_add sp_add (xo_ex xe_int) (xo_ex (xe_callB (cr_max rfl) cs_max1 rfl G.n_max bt_max (.cons (xo_ex (xe_op o_add sp_add (xo_ex (xe_lst (.one (xo_ex xe_int) .nil rfl))) (xo_ex (xe_callT call_list_of cs_list rfl G.n_list bt_list (.cons (xo_nm (pv 7)) .nil rfl))))) .nil rfl)))))) xss_nil)
  (xss_one (xs_for (mb := lb__law_parts_1) (passes_of rfl) rfl (xi_r2 rfl G.n_range (xo_nm (pv 8)) (xo_ex (xe_op o_add sp_add (xo_nm (pv 2)) (xo_ex (xe_callT call_int1 cs_int rfl G.n_int bt_int (.cons (xo_ex (xe_cmp (o_eq hr) sp_eq (xo_nm (pv 1)) (xo_ex xe_str) (nomark _))) .nil rfl)))))) (xg_name sc__law_parts.nd rfl (.inl rfl)) (xss_fg [9] (xss_one (xs_expr (xe_app (pv 6) (xe_op o_add sp_add (xo_nm (pv 7)) (xo_ex (xe_tup (.one (xo_nm (pv 9)) .nil rfl))))))))))))))
  (xss_one (xs_setV sc__law_parts.nd rfl (.inl rfl) (xe_nm (pv 6))))))))
  (xss_one (xs_retN (pv 4))))))
theorem bi__law_game (G : All K mg D) : Binds K D._law_game ["draws", "most"] [] := G.d__law_game.F.bindsN fun _ _ _ _ _ _ us hl => match us, hl with | [_, _], _ => rfl
theorem ok__law_game (G : All K mg D) : FnOk P w K mg base CX0 2 (He.ga K "_law_game") D._law_game ["draws", "most"] (spD K 2 f__law_game) :=
  fn_dl G.d__law_game.F sc__law_game fun cdv A outer s H E hr B =>
  (xss_cons (xs_for (mb := lb__law_game_2) (passes_of rfl) rfl (xi_r1 rfl G.n_range (xo_ex xe_int)) (xg_name sc__law_game.nd rfl (.inl rfl)) (xss_fg [2, 3, 4, 5, 6, 7, 8] (xss_cons (xs_setV sc__law_game.nd rfl (.inl rfl) (xe_tup .nil))
  (xss_cons (xs_setV sc__law_game.nd rfl (.inl rfl) xe_int)
  (xss_cons (xs_for (mb := lb__law_game_1) (passes_of rfl) rfl (xi_r1 rfl G.n_range (xo_ex (xe_op o_add sp_add (xo_ex xe_int) (xo_ex (xe_def (ok__law_take G) (hr.mono (by decide)) rfl G.d__law_take.g G.d__law_take.F.kp (bi__law_take G) (.io (pv 0) (.v (xo_ex xe_int) .nil rfl) rfl)))))) (xg_name sc__law_game.nd rfl (.inl rfl)) (xss_fg [5, 6, 7, 8] (xss_cons (xs_setV sc__law_game.nd rfl (.inl rfl) (xe_ix ix_seq sp_ix (xo_ex (xe_lst (.one (xo_ex xe_str) (.one (xo_ex xe_str) (.one (xo_ex xe_str) .nil rfl) rfl) rfl))) (xo_ex (xe_def (ok__law_take G) (hr.mono (by decide)) rfl G.d__law_take.g G.d__law_take.F.kp (bi__law_take G) (.io (pv 0) (.v (xo_ex xe_int) .nil rfl) rfl))) fun _ _ => rfl))
  (xss_cons (xs_setV sc__law_game.nd rfl (.inl rfl) (xe_op o_add sp_add (xo_ex xe_int) (xo_ex (xe_def (ok__law_take G) (hr.mono (by decide)) rfl G.d__law_take.g G.d__law_take.F.kp (bi__law_take G) (.io (pv 0) (.v (xo_ex (xe_ix ix_seq sp_ix (xo_ex (xe_lst (.one (xo_ex xe_int) (.one (xo_ex xe_int) .nil rfl) rfl))) (xo_ex (xe_def (ok__law_take G) (hr.mono (by decide)) rfl G.d__law_take.g G.d__law_take.F.kp (bi__law_take G) (.io (pv 0) (.v (xo_ex xe_int) .nil rfl) rfl))) fun _ _ => rfl)) .nil rfl) rfl)))))
  (xss_cons (xs_setV sc__law_game.nd rfl (.inl rfl) (xe_op o_add sp_add (xo_ex xe_int) (xo_ex (xe_def (ok__law_take G) (hr.mono (by decide)) rfl G.d__law_take.g G.d__law_take.F.kp (bi__law_take G) (.io (pv 0) (.v (xo_ex (xe_ix ix_seq sp_ix (xo_ex (xe_lst (.one (xo_ex xe_int) (.one (xo_nm (pv 7)) .nil rfl) rfl))) (xo_ex (xe_callT call_int1 cs_int rfl G.n_int bt_int (.cons (xo_ex (xe_cmp (o_eq hr) sp_eq (xo_nm (pv 6)) (xo_ex xe_str) (nomark _))) .nil rfl))) fun _ _ => rfl)) .nil rfl) rfl)))))
  (xss_cons (xs_setV sc__law_game.nd rfl (.inl rfl) (xe_callB (call_min2 rfl) cs_min2 rfl G.n_min bt_min (.cons (xo_nm (pv 8)) (.cons (xo_ex xe_int) .nil rfl) rfl)))
  (xss_cons (xs_setV sc__law_game.nd rfl (.inl rfl) (xe_op o_add sp_add (xo_nm (pv 3)) (xo_ex (xe_tup (.one (xo_ex (xe_tup (.one (xo_nm (pv 6)) (.one (xo_nm (pv 7)) (.one (xo_ex (xe_callB (call_min2 rfl) cs_min2 rfl G.n_min bt_min (.cons (xo_nm (pv 8)) (.cons (xo_nm (pv 7)) .nil rfl) rfl))) .nil rfl) rfl) rfl))) .nil rfl)))))
  (xss_one (xs_setV sc__law_game.nd rfl (.inl rfl) (xe_op o_mul sp_mul (xo_nm (pv 4)) (xo_ex (xe_callB b_len cs_len rfl G.n_len bt_len (.cons (xo_ex (xe_def (ok__law_parts G) (hr.mono (by decide)) rfl G.d__law_parts.g G.d__law_parts.F.kp (bi__law_parts G) (.v (xo_ex (xe_ix ix_seq sp_ix (xo_nm (pv 3)) (xo_ex (xe_un un_neg sp_neg (xo_ex xe_int))) fun _ _ => rfl)) .nil rfl))) .nil rfl)))))))))))))
  (xss_one (xs_if (xt_cmp op_le sp_cmp (xo_nm (pv 4)) (xo_nm (pv 1)) (nomark _)) (xss_one (xs_retN (pv 3))) xss_nil)))))))
  (xss_one (xs_ret (xe_tup (.one (xo_ex (xe_tup (.one (xo_ex xe_str) (.one (xo_ex xe_int) (.one (xo_ex xe_int) .nil rfl) rfl) rfl))) .nil rfl)))))
theorem bi__law_picks (G : All K mg D) : Binds K D._law_picks ["game"] [] := G.d__law_picks.F.bindsN fun _ _ _ _ _ _ us hl => match us, hl with | [_], _ => rfl
theorem ok__law_picks (G : All K mg D) : FnOk P w K mg base CX0 2 (He.ga K "_law_picks") D._law_picks ["game"] (spD K 1 f__law_picks) :=
  fn_dl G.d__law_picks.F sc__law_picks fun cdv A outer s H E hr B =>
  (xss_cons (xs_setV sc__law_picks.nd rfl (.inl rfl) (xe_lst (.one (xo_ex (xe_tup .nil)) .nil rfl)))
  (xss_cons (xs_for (mb := lb__law_picks_3) (passes_of rfl) rfl (xi_seq (xo_nm (pv 0))) (xg_name sc__law_picks.nd rfl (.inl rfl)) (xss_fg [2, 3, 4, 5] (xss_cons (xs_set sc__law_picks.nd rfl (.inl rfl) (xe_lst .nil))
  (xss_cons (xs_for (mb := lb__law_picks_2) (passes_of rfl) rfl (xi_seq (xo_nm (pv 1))) (xg_name sc__law_picks.nd rfl (.inl rfl)) (xss_fg [4, 5] (xss_one (xs_for (mb := lb__law_picks_1) (passes_of rfl) rfl (xi_seq (xo_ex (xe_def (ok__law_parts G) (hr.mono (by decide)) rfl G.d__law_parts.g G.d__law_parts.F.kp (bi__law_parts G) (.v (xo_nm (pv 2)) .nil rfl)))) (xg_name sc__law_picks.nd rfl (.inl rfl)) (xss_fg [5] (xss_one (xs_expr (xe_app (pv 3) (xe_op o_add sp_add (xo_nm (pv 4)) (xo_ex (xe_tup (.one (xo_nm (pv 5)) .nil rfl))))))))))))
  (xss_one (xs_setV sc__law_picks.nd rfl (.inl rfl) (xe_nm (pv 3))))))))
  (xss_one (xs_retN (pv 1)))))
theorem bi__law_all_hits (G : All K mg D) : Binds K D._law_all_hits ["game"] [] := G.d__law_all_hits.F.bindsN fun _ _ _ _ _ _ us hl => match us, hl with | [_], _ => rfl
theorem ok__law_all_hits (G : All K mg D) : FnOk P w K mg base CX0 1 (He.ga K "_law_all_hits") D._law_all_hits ["game"] (spD K 1 f__law_all_hits) :=
  fn_dl G.d__law_all_hits.F sc__law_all_hits fun cdv A outer s H E hr B =>
  (xss_cons (xs_setV sc__law_all_hits.nd rfl (.inl rfl) (xe_lst (.one (xo_ex (xe_tup .nil)) .nil rfl)))
  (xss_cons (xs_for (mb := lb__law_all_hits_3) (passes_of rfl) rfl (xi_seq (xo_nm (pv 0))) (xg_tup rfl (xgs_cons (xg_name sc__law_all_hits.nd rfl (.inl rfl)) (xgs_cons (xg_name sc__law_all_hits.nd rfl (.inl rfl)) (xgs_cons (xg_name sc__law_all_hits.nd rfl (.inl rfl)) xgs_nil)))) (xss_fg [2, 3, 4, 5, 6, 7] (xss_cons (xs_set sc__law_all_hits.nd rfl (.inl rfl) (xe_lst .nil))
  (xss_cons (xs_for (mb := lb__law_all_hits_2) (passes_of rfl) rfl (xi_seq (xo_nm (pv 1))) (xg_name sc__law_all_hits.nd rfl (.inl rfl)) (xss_fg [6, 7] (xss_one (xs_for (mb := lb__law_all_hits_1) (passes_of rfl) rfl (xi_r1 rfl G.n_range (xo_ex (xe_op o_add sp_add (xo_nm (pv 4)) (xo_ex xe_int)))) (xg_name sc__law_all_hits.nd rfl (.inl rfl)) (xss_fg [7] (xss_one (xs_expr (xe_app (pv 5) (xe_op o_add sp_add (xo_nm (pv 6)) (xo_ex (xe_tup (.one (xo_nm (pv 7)) .nil rfl))))))))))))
  (xss_one (xs_setV sc__law_all_hits.nd rfl (.inl rfl) (xe_nm (pv 5))))))))
  (xss_one (xs_retN (pv 1)))))
theorem bi__law_classes (G : All K mg D) : Binds K D._law_classes ["draws", "game"] [] := G.d__law_classes.F.bindsN fun _ _ _ _ _ _ us hl => match us, hl with | [_, _], _ => rfl
theorem ok__law_classes (G : All K mg D) : FnOk P w K mg base CX0 2 (He.ga K "_law_classes") D._law_classes ["draws", "game"] (spD K 2 f__law_classes) :=
  fn_dl G.d__law_classes.F sc__law_classes fun cdv A outer s H E hr B =>
  (xss_cons (xs_setV sc__law_classes.nd rfl (.inl rfl) (xe_def (ok__law_all_hits G) (hr.mono (by decide)) rfl G.d__law_all_hits.g G.d__law_all_hits.F.kp (bi__law_all_hits G) (.v (xo_nm (pv 1)) .nil rfl)))
  (xss_cons (xs_set sc__law_classes.nd rfl (.inl rfl) (xe_lst .nil))
  (xss_cons (xs_for (mb := lb__law_classes_1) (passes_of rfl) rfl (xi_r1 rfl G.n_range (xo_ex (xe_op o_add sp_add (xo_ex xe_int) (xo_ex (xe_def (ok__law_take G) (hr.mono (by decide)) rfl G.d__law_take.g G.d__law_take.F.kp (bi__law_take G) (.io (pv 0) (.v (xo_ex xe_int) .nil rfl) rfl)))))) (xg_name sc__law_classes.nd rfl (.inl rfl)) (xss_fg [4, 5] (xss_cons (xs_setV sc__law_classes.nd rfl (.inr rfl) (xe_callB (cr_sortD (room_u hr)) cs_sorted rfl G.n_sorted bt_sorted (.cons (xo_ex (xe_lc rfl sc__law_classes.nd (own := [("one", 6)]) (xi_seq (xo_nm (pv 2))) (blkOk_by (N := ["draws", "game", "rows", "found", "k", "own", "one"]) (sc := defScope (top 45)) (own := [("one", 6)]) (by decide +kernel)) (by decide) (fun _ _ _ _ _ => xg_pg (xg_name sc__law_classes.nd rfl (by first | exact .inl rfl | exact .inr rfl))) (fun _ _ _ _ _ => XPs.pts (B := B) (W := noW) (xps_one (xt_cmp (o_eq hr) sp_eq (xo_ex (xe_def (ok__law_take G) (hr.mono (by decide)) rfl G.d__law_take.g G.d__law_take.F.kp (bi__law_take G) (.io (pv 0) (.v (xo_ex xe_int) .nil rfl) rfl))) (xo_ex xe_int) (nomark _)))) (fun _ _ _ _ _ => XE.pe (B := B) (W := noW) (xe_nm (pv 6))))) .nil rfl)))
  (xss_cons (xs_if (XW.xt (xw_and (xt_cmp (o_eq hr) sp_eq (xo_nm (pv 5)) (xo_ex (xe_lst .nil)) (nomark _)) (xw_and1 (xt_cmp (o_ne hr) sp_ne (xo_nm (pv 2)) (xo_ex (xe_lst .nil)) (nomark _))))) (xss_one (xs_setV sc__law_classes.nd rfl (.inr rfl) (xe_lst (.one (xo_ex (xe_ix ix_seq sp_ix (xo_nm (pv 2)) (xo_ex (xe_def (ok__law_take G) (hr.mono (by decide)) rfl G.d__law_take.g G.d__law_take.F.kp (bi__law_take G) (.io (pv 0) (.v (xo_ex (xe_callB b_len cs_len rfl G.n_len bt_len (.cons (xo_nm (pv 2)) .nil rfl))) .nil rfl) rfl))) fun _ _ => rfl)) .nil rfl)))) xss_nil)
  (xss_cons (xs_setLcV rfl sc__law_classes.nd rfl rfl (sw_true rfl rfl rfl (by decide +kernel)) (own := [("one", 6)]) (xi_seq (xo_nm (pv 2))) (blkOk_by (N := ["draws", "game", "rows", "found", "k", "own", "one"]) (sc := defScope (top 45)) (own := [("one", 6)]) (by decide +kernel)) (by decide) (fun _ _ _ _ _ => xg_pg (xg_name sc__law_classes.nd rfl (by first | exact .inl rfl | exact .inr rfl))) (fun _ _ _ _ _ => XPs.pts (B := B) (W := noW) (xps_one (xt_cmp (o_nin hr) sp_nin (xo_nm (pv 6)) (xo_nm (pv 5)) rfl))) (fun _ _ _ _ _ => XE.pe (B := B) (W := noW) (xe_nm (pv 6))))
  (xss_one (xs_if (xt_cmp (o_ne hr) sp_ne (xo_nm (pv 5)) (xo_ex (xe_lst .nil)) (nomark _)) (xss_one (xs_expr (xe_app (pv 3) (xe_callT call_tuple_of cs_tup rfl G.n_tuple bt_tuple (.cons (xo_nm (pv 5)) .nil rfl))))) xss_nil)))))))
  (xss_one (xs_ret (xe_callT call_tuple_of cs_tup rfl G.n_tuple bt_tuple (.cons (xo_nm (pv 3)) .nil rfl)))))))
theorem bi__law_table (G : All K mg D) : Binds K D._law_table ["draws", "many_v"] [] := G.d__law_table.F.bindsN fun _ _ _ _ _ _ us hl => match us, hl with | [_, _], _ => rfl
theorem ok__law_table (G : All K mg D) : FnOk P w K mg base CX0 2 (He.ga K "_law_table") D._law_table ["draws", "many_v"] (spD K 2 f__law_table) :=
  fn_dl G.d__law_table.F sc__law_table fun cdv A outer s H E hr B =>
  (xss_cons (xs_setV sc__law_table.nd rfl (.inl rfl) (xe_tup .nil))
  (xss_cons (xs_for (mb := lb__law_table_1) (passes_of rfl) rfl (xi_r1 rfl G.n_range (xo_nm (pv 1))) (xg_name sc__law_table.nd rfl (.inl rfl)) (xss_fg [3, 4] (xss_cons (xs_setV sc__law_table.nd rfl (.inl rfl) (xe_ix ix_seq sp_ix (xo_ex (xe_lst (.one (xo_ex xe_str) (.one (xo_ex xe_str) .nil rfl) rfl))) (xo_ex (xe_def (ok__law_take G) (hr.mono (by decide)) rfl G.d__law_take.g G.d__law_take.F.kp (bi__law_take G) (.io (pv 0) (.v (xo_ex xe_int) .nil rfl) rfl))) fun _ _ => rfl))
  (xss_one (xs_if (xt_cmp (o_eq hr) sp_eq (xo_nm (pv 4)) (xo_ex xe_str) (nomark _)) (xss_one (xs_setV sc__law_table.nd rfl (.inl rfl) (xe_op o_add sp_add (xo_nm (pv 2)) (xo_ex (xe_tup (.one (xo_ex (xe_tup (.one (xo_ex xe_str) (.one (xo_ex (xe_def (ok__law_take G) (hr.mono (by decide)) rfl G.d__law_take.g G.d__law_take.F.kp (bi__law_take G) (.io (pv 0) (.v (xo_ex xe_int) .nil rfl) rfl))) (.one (xo_ex (xe_tup (.one (xo_ex xe_int) (.one (xo_ex xe_int) .nil rfl) rfl))) (.one (xo_ex xe_int) (.one (xo_ex xe_str) .nil rfl) rfl) rfl) rfl) rfl))) .nil rfl)))))) (xss_one (xs_setV sc__law_table.nd rfl (.inl rfl) (xe_op o_add sp_add (xo_nm (pv 2)) (xo_ex (xe_tup (.one (xo_ex (xe_tup (.one (xo_ex xe_str) (.one (xo_ex (xe_def (ok__law_take G) (hr.mono (by decide)) rfl G.d__law_take.g G.d__law_take.F.kp (bi__law_take G) (.io (pv 0) (.v (xo_ex xe_int) .nil rfl) rfl))) (.one (xo_ex (xe_ix ix_seq sp_ix (xo_ex (xe_lst (.one (xo_ex (xe_tup (.one (xo_ex xe_int) (.one (xo_ex xe_int) .nil rfl) rfl))) (.one (xo_ex (xe_tup (.one (xo_ex xe_int) (.one (xo_ex xe_int) .nil rfl) rfl))) (.one (xo_ex (xe_tup (.one (xo_ex xe_int) (.one (xo_ex xe_int) .nil rfl) rfl))) .nil rfl) rfl) rfl))) (xo_ex (xe_def (ok__law_take G) (hr.mono (by decide)) rfl G.d__law_take.g G.d__law_take.F.kp (bi__law_take G) (.io (pv 0) (.v (xo_ex xe_int) .nil rfl) rfl))) fun _ _ => rfl)) (.one (xo_ex (xe_ix ix_seq sp_ix (xo_ex (xe_lst (.one (xo_ex xe_int) (.one (xo_ex xe_int) .nil rfl) rfl))) (xo_ex (xe_def (ok__law_take G) (hr.mono (by decide)) rfl G.d__law_take.g G.d__law_take.F.kp (bi__law_take G) (.io (pv 0) (.v (xo_ex xe_int) .nil rfl) rfl))) fun _ _ => rfl)) (.one (xo_ex (xe_ix ix_seq sp_ix (xo_ex (xe_lst (.one (xo_ex xe_str) (.one (xo_ex xe_str) (.one (xo_ex xe_str) .nil rfl) rfl) rfl))) (xo_ex (xe_def (ok__law_take G) (hr.mono (by decide)) rfl G.d__law_take.g G.d__law_take.F.kp (bi__law_take G) (.io (pv 0) (.v (xo_ex xe_int) .nil rfl) rfl))) fun _ _ => rfl)) .nil rfl) rfl) rfl) rfl) rfl))) .nil rfl)))))))))))
  (xss_one (xs_ret (xe_tup (.one (xo_ex (xe_op o_add sp_add (xo_ex xe_int) (xo_ex (xe_def (ok__law_take G) (hr.mono (by decide)) rfl G.d__law_take.g G.d__law_take.F.kp (bi__law_take G) (.io (pv 0) (.v (xo_ex xe_int) .nil rfl) rfl))))) (.one (xo_ex (xe_ix ix_seq sp_ix (xo_ex (xe_lst (.one (xo_ex (xe_tup (.one (xo_ex xe_int) (.one (xo_ex xe_int) .nil rfl) rfl))) (.one (xo_ex (xe_tup (.one (xo_ex xe_int) (.one (xo_ex xe_int) .nil rfl) rfl))) .nil rfl) rfl))) (xo_ex (xe_def (ok__law_take G) (hr.mono (by decide)) rfl G.d__law_take.g G.d__law_take.F.kp (bi__law_take G) (.io (pv 0) (.v (xo_ex xe_int) .nil rfl) rfl))) fun _ _ => rfl)) (.one (xo_ex (xe_def (ok__law_take G) (hr.mono (by decide)) rfl G.d__law_take.g G.d__law_take.F.kp (bi__law_take G) (.io (pv 0) (.v (xo_ex xe_int) .nil rfl) rfl))) (.one (xo_nm (pv 2)) .nil rfl) rfl) rfl) rfl))))))
theorem bi__law_system (G : All K mg D) : Binds K D._law_system ["draws", "game"] [] := G.d__law_system.F.bindsN fun _ _ _ _ _ _ us hl => match us, hl with | [_, _], _ => rfl
theorem ok__law_system (G : All K mg D) : FnOk P w K mg base CX0 2 (He.ga K "_law_system") D._law_system ["draws", "game"] (spD K 2 f__law_system) :=
  fn_dl G.d__law_system.F sc__law_system fun cdv A outer s H E hr B =>
  (xss_cons (xs_setV sc__law_system.nd rfl (.inl rfl) (xe_tup .nil))
  (xss_cons (xs_for (mb := lb__law_system_2) (passes_of rfl) rfl (xi_seq (xo_nm (pv 1))) (xg_tup rfl (xgs_cons (xg_name sc__law_system.nd rfl (.inl rfl)) (xgs_cons (xg_name sc__law_system.nd rfl (.inl rfl)) (xgs_cons (xg_name sc__law_system.nd rfl (.inl rfl)) xgs_nil)))) (xss_fg [3, 4, 5, 6, 8, 9, 10] (xss_one (xs_if (xt_cmp (o_eq hr) sp_eq (xo_nm (pv 3)) (xo_ex xe_str) (nomark _)) (xss_cons (xs_setV sc__law_system.nd rfl (.inr rfl) (xe_callB (cr_sortD (room_u hr)) cs_sorted rfl G.n_sorted bt_sorted (.cons (xo_ex (xe_lc rfl sc__law_system.nd (own := [("number", 7)]) (xi_r2 rfl G.n_range (xo_ex xe_int) (xo_ex (xe_op o_add sp_add (xo_nm (pv 4)) (xo_ex xe_int)))) (blkOk_by (N := ["draws", "game", "found", "kind", "n", "k", "rows", "number", "left", "places", "turn", "figure"]) (sc := defScope (top 41)) (own := [("number", 7)]) (by decide +kernel)) (by decide) (fun _ _ _ _ _ => xg_pg (xg_name sc__law_system.nd rfl (by first | exact .inl rfl | exact .inr rfl))) (fun _ _ _ _ _ => XPs.pts (B := B) (W := noW) (xps_one (xt_cmp (o_eq hr) sp_eq (xo_ex (xe_def (ok__law_take G) (hr.mono (by decide)) rfl G.d__law_take.g G.d__law_take.F.kp (bi__law_take G) (.io (pv 0) (.v (xo_ex xe_int) .nil rfl) rfl))) (xo_ex xe_int) (nomark _)))) (fun _ _ _ _ _ => XE.pe (B := B) (W := noW) (xe_nm (pv 7))))) .nil rfl)))
  (xss_cons (xs_setLcV rfl sc__law_system.nd rfl rfl (sw_true rfl rfl rfl (by decide +kernel)) (own := [("number", 7)]) (xi_r2 rfl G.n_range (xo_ex xe_int) (xo_ex (xe_op o_add sp_add (xo_nm (pv 4)) (xo_ex xe_int)))) (blkOk_by (N := ["draws", "game", "found", "kind", "n", "k", "rows", "number", "left", "places", "turn", "figure"]) (sc := defScope (top 41)) (own := [("number", 7)]) (by decide +kernel)) (by decide) (fun _ _ _ _ _ => xg_pg (xg_name sc__law_system.nd rfl (by first | exact .inl rfl | exact .inr rfl))) (fun _ _ _ _ _ => XPs.pts (B := B) (W := noW) (xps_one (xt_cmp (o_nin hr) sp_nin (xo_nm (pv 7)) (xo_nm (pv 6)) rfl))) (fun _ _ _ _ _ => XE.pe (B := B) (W := noW) (xe_nm (pv 7))))
  (xss_one (xs_setV sc__law_system.nd rfl (.inl rfl) (xe_op o_add sp_add (xo_nm (pv 2)) (xo_ex (xe_tup (.one (xo_ex (xe_callT call_tuple_of cs_tup rfl G.n_tuple bt_tuple (.cons (xo_ex (xe_callB (cr_sortD (room_u hr)) cs_sorted rfl G.n_sorted bt_sorted (.cons (xo_ex (xe_op o_add sp_add (xo_nm (pv 6)) (xo_ex (xe_cut (xo_nm (pv 8)) .none (.some (xo_ex (xe_callB (call_max2 rfl) cs_max2 rfl G.n_max bt_max (.cons (xo_ex xe_int) (.cons (xo_ex (xe_op op_sub sp_sub (xo_nm (pv 5)) (xo_ex (xe_callB b_len cs_len rfl G.n_len bt_len (.cons (xo_nm (pv 6)) .nil rfl))))) .nil rfl) rfl)))))))) .nil rfl))) .nil rfl))) .nil rfl)))))))) (xss_cons (xs_setV sc__law_system.nd rfl (.inl rfl) (xe_tup .nil))
  (xss_cons (xs_for (mb := lb__law_system_1) (passes_of rfl) rfl (xi_r1 rfl G.n_range (xo_nm (pv 5))) (xg_name sc__law_system.nd rfl (.inl rfl)) (xss_fg [6, 10] (xss_cons (xs_setV sc__law_system.nd rfl (.inr rfl) (xe_lc rfl sc__law_system.nd (own := [("figure", 11)]) (xi_r1 rfl G.n_range (xo_nm (pv 4))) (blkOk_by (N := ["draws", "game", "found", "kind", "n", "k", "rows", "number", "left", "places", "turn", "figure"]) (sc := defScope (top 41)) (own := [("figure", 11)]) (by decide +kernel)) (by decide) (fun _ _ _ _ _ => xg_pg (xg_name sc__law_system.nd rfl (by first | exact .inl rfl | exact .inr rfl))) (fun _ _ _ _ _ => XPs.pts (B := B) (W := noW) (xps_one (xt_cmp (o_eq hr) sp_eq (xo_ex (xe_def (ok__law_take G) (hr.mono (by decide)) rfl G.d__law_take.g G.d__law_take.F.kp (bi__law_take G) (.io (pv 0) (.v (xo_ex xe_int) .nil rfl) rfl))) (xo_ex xe_int) (nomark _)))) (fun _ _ _ _ _ => XE.pe (B := B) (W := noW) (xe_nm (pv 11)))))
  (xss_one (xs_setV sc__law_system.nd rfl (.inl rfl) (xe_op o_add sp_add (xo_nm (pv 9)) (xo_ex (xe_tup (.one (xo_ex (xe_callT call_tuple_of cs_tup rfl G.n_tuple bt_tuple (.cons (xo_ex (xe_orT (xo_nm (pv 6)) (xe_one (xe_lst (.one (xo_ex (xe_def (ok__law_take G) (hr.mono (by decide)) rfl G.d__law_take.g G.d__law_take.F.kp (bi__law_take G) (.io (pv 0) (.v (xo_nm (pv 4)) .nil rfl) rfl))) .nil rfl))))) .nil rfl))) .nil rfl)))))))))
  (xss_one (xs_setV sc__law_system.nd rfl (.inl rfl) (xe_op o_add sp_add (xo_nm (pv 2)) (xo_ex (xe_tup (.one (xo_nm (pv 9)) .nil rfl))))))))))))
  (xss_one (xs_retN (pv 2)))))
theorem bi_rounded (G : All K mg D) : Binds K D.rounded ["fraction", "way"] [] := G.d_rounded.F.bindsN fun _ _ _ _ _ _ us hl => match us, hl with | [_, _], _ => rfl
theorem ok_rounded (G : All K mg D) : FnOk P w K mg base CX0 1 (He.ga K "rounded") D.rounded ["fraction", "way"] (spD K 2 f_rounded) :=
  fn_dl G.d_rounded.F sc_rounded fun cdv A outer s H E hr B =>
  (xss_cons (xs_if (xt_cmp (o_nin hr) sp_nin (xo_nm (pv 1)) (xo_ex (xe_tup (.one (xo_ex xe_str) (.one (xo_ex xe_str) (.one (xo_ex xe_str) .nil rfl) rfl) rfl))) rfl) (xss_one xs_never) xss_nil)
  (xss_cons (xs_asg (xg_tup rfl (xgs_cons (xg_name sc_rounded.nd rfl (.inl rfl)) (xgs_cons (xg_name sc_rounded.nd rfl (.inl rfl)) xgs_nil))) (xe_nm (pv 0)))
  (xss_cons (xs_asg (xg_tup rfl (xgs_cons (xg_name sc_rounded.nd rfl (.inl rfl)) (xgs_cons (xg_name sc_rounded.nd rfl (.inl rfl)) xgs_nil))) (xe_callB call_divmod cs_divmod rfl G.n_divmod bt_divmod (.cons (xo_nm (pv 2)) (.cons (xo_nm (pv 3)) .nil rfl) rfl)))
  (xss_cons (xs_if (XW.xt (xw_or (xt_cmp (o_eq hr) sp_eq (xo_nm (pv 1)) (xo_ex xe_str) (nomark _)) (xw_or1 (xt_cmp (o_eq hr) sp_eq (xo_nm (pv 5)) (xo_ex xe_int) (nomark _))))) (xss_one (xs_retN (pv 4))) xss_nil)
  (xss_cons (xs_if (XW.xt (xw_or (xt_cmp (o_eq hr) sp_eq (xo_nm (pv 1)) (xo_ex xe_str) (nomark _)) (xw_or1 (xt_cmp op_gt sp_cmp (xo_ex (xe_op o_mul sp_mul (xo_ex xe_int) (xo_nm (pv 5)))) (xo_nm (pv 3)) (nomark _))))) (xss_one (xs_ret (xe_op o_add sp_add (xo_nm (pv 4)) (xo_ex xe_int)))) xss_nil)
  (xss_one (xs_ret (xe_ifExp (xt_cmp (o_eq hr) sp_eq (xo_ex (xe_op o_mul sp_mul (xo_ex xe_int) (xo_nm (pv 5)))) (xo_nm (pv 3)) (nomark _)) (xe_op o_add sp_add (xo_nm (pv 4)) (xo_ex (xe_op o_mod sp_mod (xo_nm (pv 4)) (xo_ex xe_int)))) (xe_nm (pv 4))))))))))
theorem bi_made (G : All K mg D) : Binds K D.made ["part", "whole"] [] := G.d_made.F.bindsN fun _ _ _ _ _ _ us hl => match us, hl with | [_, _], _ => rfl
theorem ok_made (G : All K mg D) : FnOk P w K mg base CX0 1 (He.ga K "made") D.made ["part", "whole"] (spD K 2 f_made) :=
  fn_dl G.d_made.F sc_made fun cdv A outer s H E hr B =>
  (xss_cons (xs_if (xt_cmp (o_eq hr) sp_eq (xo_nm (pv 1)) (xo_ex xe_int) (nomark _)) (xss_one xs_never) xss_nil)
  (xss_cons (xs_setV sc_made.nd rfl (.inl rfl) (xe_ifExp (xt_cmp op_lt sp_cmp (xo_nm (pv 1)) (xo_ex xe_int) (nomark _)) (xe_un un_neg sp_neg (xo_ex xe_int)) xe_int))
  (xss_cons (xs_setV sc_made.nd rfl (.inl rfl) (xe_op o_mul sp_mul (xo_ex (xe_callF cr_gcd cs_gcd rfl G.v_gcd (.cons (xo_nm (pv 0)) (.cons (xo_nm (pv 1)) .nil rfl) rfl))) (xo_nm (pv 2))))
  (xss_one (xs_ret (xe_tup (.one (xo_ex (xe_op o_div sp_div (xo_nm (pv 0)) (xo_nm (pv 3)))) (.one (xo_ex (xe_op o_div sp_div (xo_nm (pv 1)) (xo_nm (pv 3)))) .nil rfl) rfl)))))))
theorem bi_times (G : All K mg D) : Binds K D.times ["one", "other"] [] := G.d_times.F.bindsN fun _ _ _ _ _ _ us hl => match us, hl with | [_, _], _ => rfl
theorem ok_times (G : All K mg D) : FnOk P w K mg base CX0 2 (He.ga K "times") D.times ["one", "other"] (spD K 2 f_times) :=
  fn_dl G.d_times.F sc_times fun cdv A outer s H E hr B =>
  (xss_one (xs_ret (xe_def (ok_made G) (hr.mono (by decide)) rfl G.d_made.g G.d_made.F.kp (bi_made G) (.v (xo_ex (xe_op o_mul sp_mul (xo_ex (xe_ix ix_seq sp_ix (xo_nm (pv 0)) (xo_ex xe_int) fun _ _ => rfl)) (xo_ex (xe_ix ix_seq sp_ix (xo_nm (pv 1)) (xo_ex xe_int) fun _ _ => rfl)))) (.v (xo_ex (xe_op o_mul sp_mul (xo_ex (xe_ix ix_seq sp_ix (xo_nm (pv 0)) (xo_ex xe_int) fun _ _ => rfl)) (xo_ex (xe_ix ix_seq sp_ix (xo_nm (pv 1)) (xo_ex xe_int) fun _ _ => rfl)))) .nil rfl) rfl))))
theorem bi_share_of (G : All K mg D) : Binds K D.share_of ["rate", "stakes"] [] := G.d_share_of.F.bindsN fun _ _ _ _ _ _ us hl => match us, hl with | [_, _], _ => rfl
theorem ok_share_of (G : All K mg D) : FnOk P w K mg base CX0 3 (He.ga K "share_of") D.share_of ["rate", "stakes"] (spD K 2 f_share_of) :=
  fn_dl G.d_share_of.F sc_share_of fun cdv A outer s H E hr B =>
  (xss_one (xs_ret (xe_def (ok_rounded G) (hr.mono (by decide)) rfl G.d_rounded.g G.d_rounded.F.kp (bi_rounded G) (.v (xo_ex (xe_def (ok_times G) (hr.mono (by decide)) rfl G.d_times.g G.d_times.F.kp (bi_times G) (.v (xo_nm (pv 0)) (.v (xo_ex (xe_tup (.one (xo_nm (pv 1)) (.one (xo_ex xe_int) .nil rfl) rfl))) .nil rfl) rfl))) (.v (xo_ex xe_str) .nil rfl) rfl))))
theorem bi_raised (G : All K mg D) : Binds K D.raised ["base", "exponent"] [] := G.d_raised.F.bindsN fun _ _ _ _ _ _ us hl => match us, hl with | [_, _], _ => rfl
theorem ok_raised (G : All K mg D) : FnOk P w K mg base CX0 1 (He.ga K "raised") D.raised ["base", "exponent"] (spD K 2 f_raised) :=
  fn_dl G.d_raised.F sc_raised fun cdv A outer s H E hr B =>
  (xss_cons (xs_setV sc_raised.nd rfl (.inl rfl) xe_int)
  (xss_cons (xs_for (mb := lb_raised_1) (passes_of rfl) rfl (xi_r1 rfl G.n_range (xo_nm (pv 1))) (xg_name sc_raised.nd rfl (.inl rfl)) (xss_fg [3] (xss_one (xs_aug sc_raised.nd rfl (.inl rfl) (xo_nm (pv 0)) iop_mul sp_mulI))))
  (xss_one (xs_retN (pv 2)))))
theorem bi_pay (G : All K mg D) : Binds K D.pay ["one", "pot", "winners"] [] := G.d_pay.F.bindsN fun _ _ _ _ _ _ us hl => match us, hl with | [_, _, _], _ => rfl
theorem ok_pay (G : All K mg D) : FnOk P w K mg base CX0 2 (He.ga K "pay") D.pay ["one", "pot", "winners"] (spD K 3 f_pay) :=
  fn_dl G.d_pay.F sc_pay fun cdv A outer s H E hr B =>
  (xss_cons (xs_if (xt_cmp (o_eq hr) sp_eq (xo_nm (pv 2)) (xo_ex xe_int) (nomark _)) (xss_one (xs_ret (xe_tup (.one (xo_ex xe_int) (.one (xo_ex xe_int) .nil rfl) rfl)))) xss_nil)
  (xss_cons (xs_setV sc_pay.nd rfl (.inl rfl) (xe_callB (call_max2 rfl) cs_max2 rfl G.n_max bt_max (.cons (xo_ex (xe_op op_sub sp_sub (xo_ex (xe_ix ix_seq sp_ix (xo_nm (pv 0)) (xo_ex xe_int) fun _ _ => rfl)) (xo_nm (pv 1)))) (.cons (xo_ex xe_int) .nil rfl) rfl)))
  (xss_cons (xs_setV sc_pay.nd rfl (.inl rfl) (xe_op o_div sp_div (xo_ex (xe_op o_add sp_add (xo_nm (pv 1)) (xo_nm (pv 3)))) (xo_nm (pv 2))))
  (xss_cons (xs_if (xt_cmp op_gt sp_cmp (xo_ex (xe_ix ix_seq sp_ix (xo_nm (pv 0)) (xo_ex xe_int) fun _ _ => rfl)) (xo_ex xe_int) (nomark _)) (xss_one (xs_setV sc_pay.nd rfl (.inl rfl) (xe_callB (call_min2 rfl) cs_min2 rfl G.n_min bt_min (.cons (xo_nm (pv 4)) (.cons (xo_ex (xe_ix ix_seq sp_ix (xo_nm (pv 0)) (xo_ex xe_int) fun _ _ => rfl)) .nil rfl) rfl)))) xss_nil)
  (xss_one (xs_ret (xe_tup (.one (xo_nm (pv 4)) (.one (xo_nm (pv 3)) .nil rfl) rfl))))))))
theorem bi_settle (G : All K mg D) : Binds K D.settle ["table", "state", "outcome"] [] := G.d_settle.F.bindsN fun _ _ _ _ _ _ us hl => match us, hl with | [_, _, _], _ => rfl
theorem ok_settle (G : All K mg D) : FnOk P w K mg base CX0 4 (He.ga K "settle") D.settle ["table", "state", "outcome"] (spD K 3 f_settle) :=
  fn_dl G.d_settle.F sc_settle fun cdv A outer s H E hr B =>
  (xss_cons (xs_asg (xg_tup rfl (xgs_cons (xg_name sc_settle.nd rfl (.inl rfl)) (xgs_cons (xg_name sc_settle.nd rfl (.inl rfl)) (xgs_cons (xg_name sc_settle.nd rfl (.inl rfl)) (xgs_cons (xg_name sc_settle.nd rfl (.inl rfl)) xgs_nil))))) (xe_nm (pv 0)))
  (xss_cons (xs_asg (xg_tup rfl (xgs_cons (xg_name sc_settle.nd rfl (.inl rfl)) (xgs_cons (xg_name sc_settle.nd rfl (.inl rfl)) xgs_nil))) (xe_nm (pv 2)))
  (xss_cons (xs_setV sc_settle.nd rfl (.inl rfl) (xe_op o_mul sp_mul (xo_nm (pv 3)) (xo_nm (pv 7))))
  (xss_cons (xs_setV sc_settle.nd rfl (.inl rfl) (xe_def (ok_share_of G) (hr.mono (by decide)) rfl G.d_share_of.g G.d_share_of.F.kp (bi_share_of G) (.v (xo_nm (pv 4)) (.v (xo_nm (pv 9)) .nil rfl) rfl)))
  (xss_cons (xs_setV sc_settle.nd rfl (.inl rfl) (xe_op op_sub sp_sub (xo_nm (pv 9)) (xo_nm (pv 10))))
  (xss_cons (xs_setV sc_settle.nd rfl (.inl rfl) xe_int)
  (xss_cons (xs_par rfl sc_settle.nd rfl rfl (by decide) rfl rfl (xe_lst .nil) (xe_lst .nil) rfl)
  (xss_cons (xs_for (mb := lb_settle_1) (passes_of rfl) rfl (xi_enum rfl G.n_enumerate (.one (xo_nm (pv 6)) .nil rfl)) (xg_tup rfl (xgs_cons (xg_name sc_settle.nd rfl (.inl rfl)) (xgs_cons (xg_name sc_settle.nd rfl (.inl rfl)) xgs_nil))) (xss_fg [15, 16, 17, 18, 19, 20, 21, 22, 23] (xss_cons (xs_setV sc_settle.nd rfl (.inl rfl) xe_int)
  (xss_cons (xs_setV sc_settle.nd rfl (.inl rfl) xe_int)
  (xss_cons (xs_if (xt_cmp (o_eq hr) sp_eq (xo_ex (xe_ix ix_seq sp_ix (xo_nm (pv 16)) (xo_ex xe_int) fun _ _ => rfl)) (xo_ex xe_str) (nomark _)) (xss_cons (xs_expr (xe_app (pv 13) (xe_ifExp (xt_cmp op_gt sp_cmp (xo_ex (xe_ix ix_seq sp_ix (xo_nm (pv 8)) (xo_nm (pv 15)) fun _ _ => rfl)) (xo_ex xe_int) (nomark _)) (xe_ix ix_seq sp_ix (xo_nm (pv 16)) (xo_ex xe_int) fun _ _ => rfl) xe_int)))
  (xss_cons (xs_aug sc_settle.nd rfl (.inl rfl) (xo_ex (xe_op o_mul sp_mul (xo_ex (xe_ix ix_seq sp_ix (xo_nm (pv 16)) (xo_ex xe_int) fun _ _ => rfl)) (xo_ex (xe_ix ix_seq sp_ix (xo_nm (pv 8)) (xo_nm (pv 15)) fun _ _ => rfl)))) iop_sub sp_sub)
  (xss_one (xs_par rfl sc_settle.nd rfl rfl (by decide) rfl rfl (xe_nm (pv 12)) xe_int rfl)))) (xss_cons (xs_setV sc_settle.nd rfl (.inl rfl) (xe_def (ok_share_of G) (hr.mono (by decide)) rfl G.d_share_of.g G.d_share_of.F.kp (bi_share_of G) (.v (xo_ex (xe_ix ix_seq sp_ix (xo_nm (pv 16)) (xo_ex xe_int) fun _ _ => rfl)) (.v (xo_nm (pv 9)) .nil rfl) rfl)))
  (xss_cons (xs_setV sc_settle.nd rfl (.inl rfl) (xe_op o_add sp_add (xo_ex (xe_op o_add sp_add (xo_ex (xe_ix ix_seq sp_ix (xo_nm (pv 1)) (xo_nm (pv 15)) fun _ _ => rfl)) (xo_nm (pv 19)))) (xo_nm (pv 12))))
  (xss_cons (xs_asg (xg_tup rfl (xgs_cons (xg_name sc_settle.nd rfl (.inl rfl)) (xgs_cons (xg_name sc_settle.nd rfl (.inl rfl)) xgs_nil))) (xe_def (ok_pay G) (hr.mono (by decide)) rfl G.d_pay.g G.d_pay.F.kp (bi_pay G) (.v (xo_nm (pv 16)) (.v (xo_nm (pv 20)) (.v (xo_ex (xe_ix ix_seq sp_ix (xo_nm (pv 8)) (xo_nm (pv 15)) fun _ _ => rfl)) .nil rfl) rfl) rfl)))
  (xss_cons (xs_setV sc_settle.nd rfl (.inl rfl) (xe_op op_sub sp_sub (xo_ex (xe_op o_add sp_add (xo_nm (pv 20)) (xo_nm (pv 22)))) (xo_ex (xe_op o_mul sp_mul (xo_nm (pv 21)) (xo_ex (xe_ix ix_seq sp_ix (xo_nm (pv 8)) (xo_nm (pv 15)) fun _ _ => rfl))))))
  (xss_cons (xs_expr (xe_app (pv 13) (xe_nm (pv 21))))
  (xss_cons (xs_aug sc_settle.nd rfl (.inl rfl) (xo_ex (xe_op o_add sp_add (xo_nm (pv 19)) (xo_nm (pv 22)))) iop_sub sp_sub)
  (xss_cons (xs_setV sc_settle.nd rfl (.inl rfl) xe_int)
  (xss_one (xs_if (xt_cmp (o_eq hr) sp_eq (xo_ex (xe_ix ix_seq sp_ix (xo_nm (pv 16)) (xo_ex xe_int) fun _ _ => rfl)) (xo_ex xe_str) (nomark _)) (xss_cons (xs_setV sc_settle.nd rfl (.inl rfl) (xe_callB (call_min2 rfl) cs_min2 rfl G.n_min bt_min (.cons (xo_nm (pv 23)) (.cons (xo_nm (pv 5)) .nil rfl) rfl)))
  (xss_one (xs_setV sc_settle.nd rfl (.inl rfl) (xe_op op_sub sp_sub (xo_nm (pv 23)) (xo_nm (pv 18)))))) (xss_one (xs_if (xt_cmp (o_eq hr) sp_eq (xo_ex (xe_ix ix_seq sp_ix (xo_nm (pv 16)) (xo_ex xe_int) fun _ _ => rfl)) (xo_ex xe_str) (nomark _)) (xss_one (xs_setV sc_settle.nd rfl (.inl rfl) (xe_nm (pv 23)))) (xss_one (xs_setV sc_settle.nd rfl (.inl rfl) (xe_nm (pv 23))))))))))))))))
  (xss_cons (xs_expr (xe_app (pv 14) (xe_nm (pv 18))))
  (xss_one (xs_aug sc_settle.nd rfl (.inl rfl) (xo_nm (pv 17)) i_add j_add))))))))
  (xss_one (xs_ret (xe_tup (.one (xo_ex (xe_callT call_tuple_of cs_tup rfl G.n_tuple bt_tuple (.cons (xo_nm (pv 13)) .nil rfl))) (.one (xo_nm (pv 10)) (.one (xo_ex (xe_callT call_tuple_of cs_tup rfl G.n_tuple bt_tuple (.cons (xo_nm (pv 14)) .nil rfl))) (.one (xo_ex (xe_op o_add sp_add (xo_nm (pv 11)) (xo_nm (pv 12)))) .nil rfl) rfl) rfl) rfl))))))))))))
theorem bi_is_number (G : All K mg D) : Binds K D.is_number ["value", "least", "most"] [] := G.d_is_number.F.bindsN fun _ _ _ _ _ _ us hl => match us, hl with | [_, _, _], _ => rfl
theorem ok_is_number (G : All K mg D) : FnOk P w K mg base CX0 1 (He.ga K "is_number") D.is_number ["value", "least", "most"] (spD K 3 f_is_number) :=
  fn_dl G.d_is_number.F sc_is_number fun cdv A outer s H E hr B =>
  (xss_cons (xs_if (XW.xt (xw_or (xt_truth (xo_ex (xe_isT rfl G.n_isinstance (xo_nm (pv 0)) rfl G.n_bool bt_bool bt_isinstance))) (xw_or1 (xt_not (xt_truth (xo_ex (xe_isT rfl G.n_isinstance (xo_nm (pv 0)) rfl G.n_int bt_int bt_isinstance))))))) (xss_one (xs_ret xe_bl)) xss_nil)
  (xss_one (xs_ret (xe_chain op_le sp_cmp op_le sp_cmp (xo_nm (pv 1)) (xo_nm (pv 0)) (xo_nm (pv 2))))))
theorem bi_check_place (G : All K mg D) : Binds K D.check_place ["classes", "place"] [] := G.d_check_place.F.bindsN fun _ _ _ _ _ _ us hl => match us, hl with | [_, _], _ => rfl
theorem ok_check_place (G : All K mg D) : FnOk P w K mg base CX0 2 (He.ga K "check_place") D.check_place ["classes", "place"] (spD K 2 f_check_place) :=
  fn_dl G.d_check_place.F sc_check_place fun cdv A outer s H E hr B =>
  (xss_one (xs_if (xt_not (xt_truth (xo_ex (xe_def (ok_is_number G) (hr.mono (by decide)) rfl G.d_is_number.g G.d_is_number.F.kp (bi_is_number G) (.v (xo_nm (pv 1)) (.v (xo_ex xe_int) (.v (xo_ex (xe_op op_sub sp_sub (xo_ex (xe_callB b_len cs_len rfl G.n_len bt_len (.cons (xo_nm (pv 0)) .nil rfl))) (xo_ex xe_int))) .nil rfl) rfl) rfl))))) (xss_one xs_never) xss_nil))
theorem bi_parts_many (G : All K mg D) : Binds K D.parts_many ["field"] [] := G.d_parts_many.F.bindsN fun _ _ _ _ _ _ us hl => match us, hl with | [_], _ => rfl
theorem ok_parts_many (G : All K mg D) : FnOk P w K mg base CX0 2 (He.ga K "parts_many") D.parts_many ["field"] (spD K 1 f_parts_many) :=
  fn_dl G.d_parts_many.F sc_parts_many fun cdv A outer s H E hr B =>
  (xss_cons (xs_asg (xg_tup rfl (xgs_cons (xg_name sc_parts_many.nd rfl (.inl rfl)) (xgs_cons (xg_name sc_parts_many.nd rfl (.inl rfl)) (xgs_cons (xg_name sc_parts_many.nd rfl (.inl rfl)) xgs_nil)))) (xe_nm (pv 0)))
  (xss_one (xs_ret (xe_ifExp (xt_cmp (o_eq hr) sp_eq (xo_nm (pv 1)) (xo_ex xe_str) (nomark _)) (xe_callF cr_comb cs_comb rfl G.v_comb (.cons (xo_nm (pv 2)) (.cons (xo_nm (pv 3)) .nil rfl) rfl)) (xe_def (ok_raised G) (hr.mono (by decide)) rfl G.d_raised.g G.d_raised.F.kp (bi_raised G) (.v (xo_nm (pv 2)) (.v (xo_nm (pv 3)) .nil rfl) rfl))))))
theorem bi_many (G : All K mg D) : Binds K D.many ["game"] [] := G.d_many.F.bindsN fun _ _ _ _ _ _ us hl => match us, hl with | [_], _ => rfl
theorem ok_many (G : All K mg D) : FnOk P w K mg base CX0 3 (He.ga K "many") D.many ["game"] (spD K 1 f_many) :=
  fn_dl G.d_many.F sc_many fun cdv A outer s H E hr B =>
  (xss_cons (xs_setV sc_many.nd rfl (.inl rfl) xe_int)
  (xss_cons (xs_for (mb := lb_many_1) (passes_of rfl) rfl (xi_seq (xo_nm (pv 0))) (xg_name sc_many.nd rfl (.inl rfl)) (xss_fg [2] (xss_one (xs_aug sc_many.nd rfl (.inl rfl) (xo_ex (xe_def (ok_parts_many G) (hr.mono (by decide)) rfl G.d_parts_many.g G.d_parts_many.F.kp (bi_parts_many G) (.v (xo_nm (pv 2)) .nil rfl))) iop_mul sp_mulI))))
  (xss_one (xs_retN (pv 1)))))
theorem bi_ways_to_hit (G : All K mg D) : Binds K D.ways_to_hit ["field", "h"] [] := G.d_ways_to_hit.F.bindsN fun _ _ _ _ _ _ us hl => match us, hl with | [_, _], _ => rfl
theorem ok_ways_to_hit (G : All K mg D) : FnOk P w K mg base CX0 2 (He.ga K "ways_to_hit") D.ways_to_hit ["field", "h"] (spD K 2 f_ways_to_hit) :=
  fn_dl G.d_ways_to_hit.F sc_ways_to_hit fun cdv A outer s H E hr B =>
  (xss_cons (xs_asg (xg_tup rfl (xgs_cons (xg_name sc_ways_to_hit.nd rfl (.inl rfl)) (xgs_cons (xg_name sc_ways_to_hit.nd rfl (.inl rfl)) (xgs_cons (xg_name sc_ways_to_hit.nd rfl (.inl rfl)) xgs_nil)))) (xe_nm (pv 0)))
  (xss_cons (xs_if (xt_not (xt_truth (xo_ex (xe_def (ok_is_number G) (hr.mono (by decide)) rfl G.d_is_number.g G.d_is_number.F.kp (bi_is_number G) (.v (xo_nm (pv 1)) (.v (xo_ex xe_int) (.v (xo_nm (pv 4)) .nil rfl) rfl) rfl))))) (xss_one (xs_ret xe_int)) xss_nil)
  (xss_cons (xs_if (xt_cmp (o_eq hr) sp_eq (xo_nm (pv 2)) (xo_ex xe_str) (nomark _)) (xss_one (xs_ret (xe_op o_mul sp_mul (xo_ex (xe_callF cr_comb cs_comb rfl G.v_comb (.cons (xo_nm (pv 4)) (.cons (xo_nm (pv 1)) .nil rfl) rfl))) (xo_ex (xe_callF cr_comb cs_comb rfl G.v_comb (.cons (xo_ex (xe_op op_sub sp_sub (xo_nm (pv 3)) (xo_nm (pv 4)))) (.cons (xo_ex (xe_op op_sub sp_sub (xo_nm (pv 4)) (xo_nm (pv 1)))) .nil rfl) rfl)))))) xss_nil)
  (xss_cons (xs_if (xt_cmp (o_eq hr) sp_eq (xo_nm (pv 2)) (xo_ex xe_str) (nomark _)) (xss_one (xs_ret (xe_op o_mul sp_mul (xo_ex (xe_callF cr_comb cs_comb rfl G.v_comb (.cons (xo_nm (pv 4)) (.cons (xo_nm (pv 1)) .nil rfl) rfl))) (xo_ex (xe_def (ok_raised G) (hr.mono (by decide)) rfl G.d_raised.g G.d_raised.F.kp (bi_raised G) (.v (xo_ex (xe_op op_sub sp_sub (xo_nm (pv 3)) (xo_ex xe_int))) (.v (xo_ex (xe_op op_sub sp_sub (xo_nm (pv 4)) (xo_nm (pv 1)))) .nil rfl) rfl)))))) xss_nil)
  (xss_one (xs_ret (xe_ifExp (xt_cmp (o_eq hr) sp_eq (xo_nm (pv 1)) (xo_nm (pv 4)) (nomark _)) xe_int (xe_op o_mul sp_mul (xo_ex (xe_op op_sub sp_sub (xo_nm (pv 3)) (xo_ex xe_int))) (xo_ex (xe_def (ok_raised G) (hr.mono (by decide)) rfl G.d_raised.g G.d_raised.F.kp (bi_raised G) (.v (xo_nm (pv 3)) (.v (xo_ex (xe_op op_sub sp_sub (xo_ex (xe_op op_sub sp_sub (xo_nm (pv 4)) (xo_nm (pv 1)))) (xo_ex xe_int))) .nil rfl) rfl)))))))))))
theorem bi_chance (G : All K mg D) : Binds K D.chance ["game", "classes", "place"] [] := G.d_chance.F.bindsN fun _ _ _ _ _ _ us hl => match us, hl with | [_, _, _], _ => rfl
theorem ok_chance (G : All K mg D) : FnOk P w K mg base CX0 4 (He.ga K "chance") D.chance ["game", "classes", "place"] (spD K 3 f_chance) :=
  fn_dl G.d_chance.F sc_chance fun cdv A outer s H E hr B =>
  (xss_cons (xs_expr (xe_def (ok_check_place G) (hr.mono (by decide)) rfl G.d_check_place.g G.d_check_place.F.kp (bi_check_place G) (.v (xo_nm (pv 1)) (.v (xo_nm (pv 2)) .nil rfl) rfl)))
  (xss_cons (xs_setV sc_chance.nd rfl (.inl rfl) xe_int)
  (xss_cons (xs_for (mb := lb_chance_2) (passes_of rfl) rfl (xi_seq (xo_ex (xe_ix ix_seq sp_ix (xo_nm (pv 1)) (xo_nm (pv 2)) fun _ _ => rfl))) (xg_name sc_chance.nd rfl (.inl rfl)) (xss_fg [4, 5, 6, 7] (xss_cons (xs_setV sc_chance.nd rfl (.inl rfl) xe_int)
  (xss_cons (xs_for (mb := lb_chance_1) (passes_of rfl) rfl (xi_zip2 rfl G.n_zip (.one (xo_nm (pv 0)) (.one (xo_nm (pv 4)) .nil rfl) rfl)) (xg_tup rfl (xgs_cons (xg_name sc_chance.nd rfl (.inl rfl)) (xgs_cons (xg_name sc_chance.nd rfl (.inl rfl)) xgs_nil))) (xss_fg [6, 7] (xss_one (xs_aug sc_chance.nd rfl (.inl rfl) (xo_ex (xe_def (ok_ways_to_hit G) (hr.mono (by decide)) rfl G.d_ways_to_hit.g G.d_ways_to_hit.F.kp (bi_ways_to_hit G) (.v (xo_nm (pv 6)) (.v (xo_nm (pv 7)) .nil rfl) rfl))) iop_mul sp_mulI))))
  (xss_one (xs_aug sc_chance.nd rfl (.inl rfl) (xo_nm (pv 5)) i_add j_add))))))
  (xss_one (xs_ret (xe_def (ok_made G) (hr.mono (by decide)) rfl G.d_made.g G.d_made.F.kp (bi_made G) (.v (xo_nm (pv 3)) (.v (xo_ex (xe_def (ok_many G) (hr.mono (by decide)) rfl G.d_many.g G.d_many.F.kp (bi_many G) (.v (xo_nm (pv 0)) .nil rfl))) .nil rfl) rfl)))))))
theorem bi_places_ways (G : All K mg D) : Binds K D.places_ways ["part", "drawn"] [] := G.d_places_ways.F.bindsN fun _ _ _ _ _ _ us hl => match us, hl with | [_, _], _ => rfl
theorem ok_places_ways (G : All K mg D) : FnOk P w K mg base CX0 1 (He.ga K "places_ways") D.places_ways ["part", "drawn"] (spD K 2 f_places_ways) :=
  fn_dl G.d_places_ways.F sc_places_ways fun cdv A outer s H E hr B =>
  (xss_cons (xs_setV sc_places_ways.nd rfl (.inl rfl) (xe_lst (.one (xo_ex xe_int) .nil rfl)))
  (xss_cons (xs_for (mb := lb_places_ways_1) (passes_of rfl) rfl (xi_zip2 rfl G.n_zip (.one (xo_nm (pv 0)) (.one (xo_nm (pv 1)) .nil rfl) rfl)) (xg_tup rfl (xgs_cons (xg_name sc_places_ways.nd rfl (.inl rfl)) (xgs_cons (xg_name sc_places_ways.nd rfl (.inl rfl)) xgs_nil))) (xss_fg [3, 4, 5, 6] (xss_cons (xs_setV sc_places_ways.nd rfl (.inr rfl) (xe_ifExp (xt_cmp (o_in hr) sp_in (xo_nm (pv 4)) (xo_nm (pv 3)) rfl) xe_int xe_int))
  (xss_cons (xs_setV sc_places_ways.nd rfl (.inr rfl) (xe_op op_sub sp_sub (xo_ex (xe_callB b_len cs_len rfl G.n_len bt_len (.cons (xo_nm (pv 3)) .nil rfl))) (xo_nm (pv 5))))
  (xss_one (xs_setLcV rfl sc_places_ways.nd rfl rfl (sw_true rfl rfl rfl (by decide +kernel)) (own := [("one", 7), ("before", 8)]) (xi_zip2 rfl G.n_zip (.one (xo_ex (xe_lst (.star (xo_nm (pv 2)) (.one (xo_ex xe_int) .nil rfl) rfl))) (.one (xo_ex (xe_lst (.one (xo_ex xe_int) (.star (xo_nm (pv 2)) .nil rfl) rfl))) .nil rfl) rfl)) (blkOk_by (N := ["part", "drawn", "ways", "figures", "figure", "same", "other", "one", "before"]) (sc := defScope (top 8)) (own := [("one", 7), ("before", 8)]) (by decide +kernel)) (by decide) (fun _ _ _ _ _ => xg_pg (xg_tup rfl (xgs_cons (xg_name sc_places_ways.nd rfl (by first | exact .inl rfl | exact .inr rfl)) (xgs_cons (xg_name sc_places_ways.nd rfl (by first | exact .inl rfl | exact .inr rfl)) xgs_nil)))) (fun _ _ _ _ _ => XPs.pts (B := B) (W := noW) xps_nil) (fun _ _ _ _ _ => XE.pe (B := B) (W := noW) (xe_op o_add sp_add (xo_ex (xe_op o_mul sp_mul (xo_nm (pv 7)) (xo_nm (pv 6)))) (xo_ex (xe_op o_mul sp_mul (xo_nm (pv 8)) (xo_nm (pv 5))))))))))))
  (xss_one (xs_retN (pv 2)))))
theorem bi_end_ways (G : All K mg D) : Binds K D.end_ways ["part", "drawn"] [] := G.d_end_ways.F.bindsN fun _ _ _ _ _ _ us hl => match us, hl with | [_, _], _ => rfl
theorem ok_end_ways (G : All K mg D) : FnOk P w K mg base CX0 1 (He.ga K "end_ways") D.end_ways ["part", "drawn"] (spD K 2 f_end_ways) :=
  fn_dl G.d_end_ways.F sc_end_ways fun cdv A outer s H E hr B =>
  (xss_cons (xs_set sc_end_ways.nd rfl (.inl rfl) (xe_lst .nil))
  (xss_cons (xs_setV sc_end_ways.nd rfl (.inl rfl) xe_int)
  (xss_cons (xs_for (mb := lb_end_ways_1) (passes_of rfl) rfl (xi_seq (xo_nm (pv 0))) (xg_name sc_end_ways.nd rfl (.inl rfl)) (xss_fg [4] (xss_one (xs_aug sc_end_ways.nd rfl (.inl rfl) (xo_ex (xe_callB b_len cs_len rfl G.n_len bt_len (.cons (xo_nm (pv 4)) .nil rfl))) iop_mul sp_mulI))))
  (xss_cons (xs_for (mb := lb_end_ways_2) (passes_of rfl) rfl (xi_r3 rfl G.n_range (xo_ex (xe_op op_sub sp_sub (xo_ex (xe_callB b_len cs_len rfl G.n_len bt_len (.cons (xo_nm (pv 0)) .nil rfl))) (xo_ex xe_int))) (xo_ex (xe_un un_neg sp_neg (xo_ex xe_int))) (xo_ex (xe_un un_neg sp_neg (xo_ex xe_int))) (h := fun ha => pi_range3 rfl G.n_range ha)) (xg_name sc_end_ways.nd rfl (.inl rfl)) (xss_fg [4, 5, 6] (xss_cons (xs_setV sc_end_ways.nd rfl (.inl rfl) (xe_ix ix_seq sp_ix (xo_nm (pv 0)) (xo_nm (pv 5)) fun _ _ => rfl))
  (xss_cons (xs_aug sc_end_ways.nd rfl (.inl rfl) (xo_ex (xe_callB b_len cs_len rfl G.n_len bt_len (.cons (xo_nm (pv 4)) .nil rfl))) iop_fdiv j_div)
  (xss_cons (xs_setV sc_end_ways.nd rfl (.inl rfl) (xe_ifExp (xt_cmp (o_in hr) sp_in (xo_ex (xe_ix ix_seq sp_ix (xo_nm (pv 1)) (xo_nm (pv 5)) fun _ _ => rfl)) (xo_nm (pv 4)) rfl) xe_int xe_int))
  (xss_cons (xs_expr (xe_app (pv 2) (xe_op o_mul sp_mul (xo_nm (pv 3)) (xo_ex (xe_op op_sub sp_sub (xo_ex (xe_callB b_len cs_len rfl G.n_len bt_len (.cons (xo_nm (pv 4)) .nil rfl))) (xo_nm (pv 6)))))))
  (xss_one (xs_if (xt_cmp (o_eq hr) sp_eq (xo_nm (pv 6)) (xo_ex xe_int) (nomark _)) (xss_one (xs_ret (xe_lst (.star (xo_nm (pv 2)) (.star (xo_ex (xe_op o_mul sp_mul (xo_ex (xe_lst (.one (xo_ex xe_int) .nil rfl))) (xo_ex (xe_op o_add sp_add (xo_nm (pv 5)) (xo_ex xe_int))))) .nil rfl) rfl)))) xss_nil))))))))
  (xss_one (xs_ret (xe_lst (.star (xo_nm (pv 2)) (.one (xo_ex xe_int) .nil rfl) rfl))))))))
theorem bi_part_ways (G : All K mg D) : Binds K D.part_ways ["field", "part", "drawn"] [] := G.d_part_ways.F.bindsN fun _ _ _ _ _ _ us hl => match us, hl with | [_, _, _], _ => rfl
theorem ok_part_ways (G : All K mg D) : FnOk P w K mg base CX0 2 (He.ga K "part_ways") D.part_ways ["field", "part", "drawn"] (spD K 3 f_part_ways) :=
  fn_dl G.d_part_ways.F sc_part_ways fun cdv A outer s H E hr B =>
  (xss_cons (xs_asg (xg_tup rfl (xgs_cons (xg_name sc_part_ways.nd rfl (.inl rfl)) (xgs_cons (xg_name sc_part_ways.nd rfl (.inl rfl)) (xgs_cons (xg_name sc_part_ways.nd rfl (.inr rfl)) xgs_nil)))) (xe_nm (pv 0)))
  (xss_cons (xs_if (xt_cmp (o_eq hr) sp_eq (xo_nm (pv 3)) (xo_ex xe_str) (nomark _)) (xss_one (xs_ret (xe_def (ok_places_ways G) (hr.mono (by decide)) rfl G.d_places_ways.g G.d_places_ways.F.kp (bi_places_ways G) (.v (xo_nm (pv 1)) (.v (xo_nm (pv 2)) .nil rfl) rfl)))) xss_nil)
  (xss_cons (xs_if (xt_cmp (o_eq hr) sp_eq (xo_nm (pv 3)) (xo_ex xe_str) (nomark _)) (xss_one (xs_ret (xe_def (ok_end_ways G) (hr.mono (by decide)) rfl G.d_end_ways.g G.d_end_ways.F.kp (bi_end_ways G) (.v (xo_nm (pv 1)) (.v (xo_nm (pv 2)) .nil rfl) rfl)))) xss_nil)
  (xss_cons (xs_setV sc_part_ways.nd rfl (.inr rfl) (xe_callB b_len cs_len rfl G.n_len bt_len (.cons (xo_ex (xe_lc rfl sc_part_ways.nd (own := [("number", 7)]) (xi_seq (xo_nm (pv 1))) (blkOk_by (N := ["field", "part", "drawn", "kind", "_", "taken", "inside", "number", "outside", "count"]) (sc := defScope (top 10)) (own := [("number", 7)]) (by decide +kernel)) (by decide) (fun _ _ _ _ _ => xg_pg (xg_name sc_part_ways.nd rfl (by first | exact .inl rfl | exact .inr rfl))) (fun _ _ _ _ _ => XPs.pts (B := B) (W := noW) (xps_one (xt_cmp (o_in hr) sp_in (xo_nm (pv 7)) (xo_nm (pv 2)) rfl))) (fun _ _ _ _ _ => XE.pe (B := B) (W := noW) xe_int))) .nil rfl)))
  (xss_cons (xs_setV sc_part_ways.nd rfl (.inr rfl) (xe_op op_sub sp_sub (xo_ex (xe_callB b_len cs_len rfl G.n_len bt_len (.cons (xo_nm (pv 1)) .nil rfl))) (xo_nm (pv 6))))
  (xss_one (xs_ret (xe_lc rfl sc_part_ways.nd (own := [("count", 9)]) (xi_r1 rfl G.n_range (xo_ex (xe_op o_add sp_add (xo_nm (pv 5)) (xo_ex xe_int)))) (blkOk_by (N := ["field", "part", "drawn", "kind", "_", "taken", "inside", "number", "outside", "count"]) (sc := defScope (top 10)) (own := [("count", 9)]) (by decide +kernel)) (by decide) (fun _ _ _ _ _ => xg_pg (xg_name sc_part_ways.nd rfl (by first | exact .inl rfl | exact .inr rfl))) (fun _ _ _ _ _ => XPs.pts (B := B) (W := noW) xps_nil) (fun _ _ _ _ _ => XE.pe (B := B) (W := noW) (xe_op o_mul sp_mul (xo_ex (xe_callF cr_comb cs_comb rfl G.v_comb (.cons (xo_nm (pv 6)) (.cons (xo_nm (pv 9)) .nil rfl) rfl))) (xo_ex (xe_callF cr_comb cs_comb rfl G.v_comb (.cons (xo_nm (pv 8)) (.cons (xo_ex (xe_op op_sub sp_sub (xo_nm (pv 5)) (xo_nm (pv 9)))) .nil rfl) rfl)))))))))))))
theorem bi_wins (G : All K mg D) : Binds K D.wins ["game", "classes", "system", "drawn"] [] := G.d_wins.F.bindsN fun _ _ _ _ _ _ us hl => match us, hl with | [_, _, _, _], _ => rfl
theorem ok_wins (G : All K mg D) : FnOk P w K mg base CX0 3 (He.ga K "wins") D.wins ["game", "classes", "system", "drawn"] (spD K 4 f_wins) :=
  fn_dl G.d_wins.F sc_wins fun cdv A outer s H E hr B =>
  (xss_cons (xs_setLcV rfl sc_wins.nd rfl rfl (sw_true rfl rfl rfl (by decide +kernel)) (own := [("field", 5), ("part", 6), ("other", 7)]) (xi_zip3 rfl G.n_zip (.one (xo_nm (pv 0)) (.one (xo_nm (pv 2)) (.one (xo_nm (pv 3)) .nil rfl) rfl) rfl)) (blkOk_by (N := ["game", "classes", "system", "drawn", "ways", "field", "part", "other", "found", "row", "count", "one", "product", "own", "hit"]) (sc := defScope (top 11)) (own := [("field", 5), ("part", 6), ("other", 7)]) (by decide +kernel)) (by decide) (fun _ _ _ _ _ => xg_pg (xg_tup rfl (xgs_cons (xg_name sc_wins.nd rfl (by first | exact .inl rfl | exact .inr rfl)) (xgs_cons (xg_name sc_wins.nd rfl (by first | exact .inl rfl | exact .inr rfl)) (xgs_cons (xg_name sc_wins.nd rfl (by first | exact .inl rfl | exact .inr rfl)) xgs_nil))))) (fun _ _ _ _ _ => XPs.pts (B := B) (W := noW) xps_nil) (fun _ _ _ _ _ => XE.pe (B := B) (W := noW) (xe_def (ok_part_ways G) (hr.mono (by decide)) rfl G.d_part_ways.g G.d_part_ways.F.kp (bi_part_ways G) (.v (xo_nm (pv 5)) (.v (xo_nm (pv 6)) (.v (xo_nm (pv 7)) .nil rfl) rfl) rfl))))
  (xss_cons (xs_set sc_wins.nd rfl (.inl rfl) (xe_lst .nil))
  (xss_cons (xs_for (mb := lb_wins_3) (passes_of rfl) rfl (xi_seq (xo_nm (pv 1))) (xg_name sc_wins.nd rfl (.inl rfl)) (xss_fg [9, 10, 11, 12, 13, 14] (xss_cons (xs_setV sc_wins.nd rfl (.inl rfl) xe_int)
  (xss_cons (xs_for (mb := lb_wins_2) (passes_of rfl) rfl (xi_seq (xo_nm (pv 9))) (xg_name sc_wins.nd rfl (.inl rfl)) (xss_fg [11, 12, 13, 14] (xss_cons (xs_setV sc_wins.nd rfl (.inl rfl) xe_int)
  (xss_cons (xs_for (mb := lb_wins_1) (passes_of rfl) rfl (xi_zip2 rfl G.n_zip (.one (xo_nm (pv 4)) (.one (xo_nm (pv 11)) .nil rfl) rfl)) (xg_tup rfl (xgs_cons (xg_name sc_wins.nd rfl (.inl rfl)) (xgs_cons (xg_name sc_wins.nd rfl (.inl rfl)) xgs_nil))) (xss_fg [13, 14] (xss_one (xs_aug sc_wins.nd rfl (.inl rfl) (xo_ex (xe_ix ix_seq sp_ix (xo_nm (pv 13)) (xo_nm (pv 14)) fun _ _ => rfl)) iop_mul sp_mulI))))
  (xss_one (xs_aug sc_wins.nd rfl (.inl rfl) (xo_nm (pv 12)) i_add j_add))))))
  (xss_one (xs_expr (xe_app (pv 8) (xe_nm (pv 10)))))))))
  (xss_one (xs_ret (xe_callT call_tuple_of cs_tup rfl G.n_tuple bt_tuple (.cons (xo_nm (pv 8)) .nil rfl)))))))
theorem bi_start_state (G : All K mg D) : Binds K D.start_state ["table"] [] := G.d_start_state.F.bindsN fun _ _ _ _ _ _ us hl => match us, hl with | [_], _ => rfl
theorem ok_start_state (G : All K mg D) : FnOk P w K mg base CX0 1 (He.ga K "start_state") D.start_state ["table"] (spD K 1 f_start_state) :=
  fn_dl G.d_start_state.F sc_start_state fun cdv A outer s H E hr B =>
  (xss_one (xs_ret (xe_callT call_tuple_of cs_tup rfl G.n_tuple bt_tuple (.cons (xo_ex (xe_lc rfl sc_start_state.nd (own := [("one", 1)]) (xi_seq (xo_ex (xe_ix ix_seq sp_ix (xo_nm (pv 0)) (xo_ex xe_int) fun _ _ => rfl))) (blkOk_by (N := ["table", "one"]) (sc := defScope (top 30)) (own := [("one", 1)]) (by decide +kernel)) (by decide) (fun _ _ _ _ _ => xg_pg (xg_name sc_start_state.nd rfl (by first | exact .inl rfl | exact .inr rfl))) (fun _ _ _ _ _ => XPs.pts (B := B) (W := noW) xps_nil) (fun _ _ _ _ _ => XE.pe (B := B) (W := noW) xe_int))) .nil rfl))))
theorem bi_same_in_places (G : All K mg D) : Binds K D.same_in_places ["part", "drawn"] [] := G.d_same_in_places.F.bindsN fun _ _ _ _ _ _ us hl => match us, hl with | [_, _], _ => rfl
theorem ok_same_in_places (G : All K mg D) : FnOk P w K mg base CX0 1 (He.ga K "same_in_places") D.same_in_places ["part", "drawn"] (spD K 2 f_same_in_places) :=
  fn_dl G.d_same_in_places.F sc_same_in_places fun cdv A outer s H E hr B =>
  (xss_one (xs_ret (xe_callB b_len cs_len rfl G.n_len bt_len (.cons (xo_ex (xe_lc rfl sc_same_in_places.nd (own := [("one", 2), ("other", 3)]) (xi_zip2 rfl G.n_zip (.one (xo_nm (pv 0)) (.one (xo_nm (pv 1)) .nil rfl) rfl)) (blkOk_by (N := ["part", "drawn", "one", "other"]) (sc := defScope (top 4)) (own := [("one", 2), ("other", 3)]) (by decide +kernel)) (by decide) (fun _ _ _ _ _ => xg_pg (xg_tup rfl (xgs_cons (xg_name sc_same_in_places.nd rfl (by first | exact .inl rfl | exact .inr rfl)) (xgs_cons (xg_name sc_same_in_places.nd rfl (by first | exact .inl rfl | exact .inr rfl)) xgs_nil)))) (fun _ _ _ _ _ => XPs.pts (B := B) (W := noW) (xps_one (xt_cmp (o_eq hr) sp_eq (xo_nm (pv 2)) (xo_nm (pv 3)) (nomark _)))) (fun _ _ _ _ _ => XE.pe (B := B) (W := noW) xe_int))) .nil rfl))))
theorem bi_same_at_end (G : All K mg D) : Binds K D.same_at_end ["part", "drawn"] [] := G.d_same_at_end.F.bindsN fun _ _ _ _ _ _ us hl => match us, hl with | [_, _], _ => rfl
theorem ok_same_at_end (G : All K mg D) : FnOk P w K mg base CX0 1 (He.ga K "same_at_end") D.same_at_end ["part", "drawn"] (spD K 2 f_same_at_end) :=
  fn_dl G.d_same_at_end.F sc_same_at_end fun cdv A outer s H E hr B =>
  (xss_cons (xs_setV sc_same_at_end.nd rfl (.inl rfl) xe_int)
  (xss_cons (xs_while (mb := lb_same_at_end_1) fuel (passes_of rfl) (XW.xt (xw_and (xt_cmp op_lt sp_cmp (xo_nm (pv 2)) (xo_ex (xe_callB b_len cs_len rfl G.n_len bt_len (.cons (xo_nm (pv 0)) .nil rfl))) (nomark _)) (xw_and1 (xt_cmp (o_eq hr) sp_eq (xo_ex (xe_ix ix_seq sp_ix (xo_nm (pv 0)) (xo_ex (xe_op op_sub sp_sub (xo_ex (xe_un un_neg sp_neg (xo_ex xe_int))) (xo_nm (pv 2)))) fun _ _ => rfl)) (xo_ex (xe_ix ix_seq sp_ix (xo_nm (pv 1)) (xo_ex (xe_op op_sub sp_sub (xo_ex (xe_un un_neg sp_neg (xo_ex xe_int))) (xo_nm (pv 2)))) fun _ _ => rfl)) (nomark _))))) (xss_one (xs_aug sc_same_at_end.nd rfl (.inl rfl) (xo_ex xe_int) i_add j_add)))
  (xss_one (xs_retN (pv 2)))))
theorem bi_hits (G : All K mg D) : Binds K D.hits ["game", "pick", "drawn"] [] := G.d_hits.F.bindsN fun _ _ _ _ _ _ us hl => match us, hl with | [_, _, _], _ => rfl
theorem ok_hits (G : All K mg D) : FnOk P w K mg base CX0 2 (He.ga K "hits") D.hits ["game", "pick", "drawn"] (spD K 3 f_hits) :=
  fn_dl G.d_hits.F sc_hits fun cdv A outer s H E hr B =>
  (xss_cons (xs_set sc_hits.nd rfl (.inl rfl) (xe_lst .nil))
  (xss_cons (xs_for (mb := lb_hits_1) (passes_of rfl) rfl (xi_zip3 rfl G.n_zip (.one (xo_nm (pv 0)) (.one (xo_nm (pv 1)) (.one (xo_nm (pv 2)) .nil rfl) rfl) rfl)) (xg_tup rfl (xgs_cons (xg_name sc_hits.nd rfl (.inl rfl)) (xgs_cons (xg_name sc_hits.nd rfl (.inl rfl)) (xgs_cons (xg_name sc_hits.nd rfl (.inr rfl)) xgs_nil)))) (xss_fg [4, 5, 6] (xss_one (xs_if (xt_cmp (o_eq hr) sp_eq (xo_ex (xe_ix ix_seq sp_ix (xo_nm (pv 4)) (xo_ex xe_int) fun _ _ => rfl)) (xo_ex xe_str) (nomark _)) (xss_one (xs_expr (xe_app (pv 3) (xe_callB b_len cs_len rfl G.n_len bt_len (.cons (xo_ex (xe_lc rfl sc_hits.nd (own := [("number", 7)]) (xi_seq (xo_nm (pv 5))) (blkOk_by (N := ["game", "pick", "drawn", "found", "field", "part", "other", "number"]) (sc := defScope (top 6)) (own := [("number", 7)]) (by decide +kernel)) (by decide) (fun _ _ _ _ _ => xg_pg (xg_name sc_hits.nd rfl (by first | exact .inl rfl | exact .inr rfl))) (fun _ _ _ _ _ => XPs.pts (B := B) (W := noW) (xps_one (xt_cmp (o_in hr) sp_in (xo_nm (pv 7)) (xo_nm (pv 6)) rfl))) (fun _ _ _ _ _ => XE.pe (B := B) (W := noW) xe_int))) .nil rfl))))) (xss_one (xs_if (xt_cmp (o_eq hr) sp_eq (xo_ex (xe_ix ix_seq sp_ix (xo_nm (pv 4)) (xo_ex xe_int) fun _ _ => rfl)) (xo_ex xe_str) (nomark _)) (xss_one (xs_expr (xe_app (pv 3) (xe_def (ok_same_in_places G) (hr.mono (by decide)) rfl G.d_same_in_places.g G.d_same_in_places.F.kp (bi_same_in_places G) (.v (xo_nm (pv 5)) (.v (xo_nm (pv 6)) .nil rfl) rfl))))) (xss_one (xs_expr (xe_app (pv 3) (xe_def (ok_same_at_end G) (hr.mono (by decide)) rfl G.d_same_at_end.g G.d_same_at_end.F.kp (bi_same_at_end G) (.v (xo_nm (pv 5)) (.v (xo_nm (pv 6)) .nil rfl) rfl)))))))))))
  (xss_one (xs_ret (xe_callT call_tuple_of cs_tup rfl G.n_tuple bt_tuple (.cons (xo_nm (pv 3)) .nil rfl))))))
theorem bi_class_of (G : All K mg D) : Binds K D.class_of ["game", "classes", "pick", "drawn"] [] := G.d_class_of.F.bindsN fun _ _ _ _ _ _ us hl => match us, hl with | [_, _, _, _], _ => rfl
theorem ok_class_of (G : All K mg D) : FnOk P w K mg base CX0 3 (He.ga K "class_of") D.class_of ["game", "classes", "pick", "drawn"] (spD K 4 f_class_of) :=
  fn_dl G.d_class_of.F sc_class_of fun cdv A outer s H E hr B =>
  (xss_cons (xs_setV sc_class_of.nd rfl (.inl rfl) (xe_def (ok_hits G) (hr.mono (by decide)) rfl G.d_hits.g G.d_hits.F.kp (bi_hits G) (.v (xo_nm (pv 0)) (.v (xo_nm (pv 2)) (.v (xo_nm (pv 3)) .nil rfl) rfl) rfl)))
  (xss_cons (xs_for (mb := lb_class_of_1) (passes_of rfl) rfl (xi_enum rfl G.n_enumerate (.one (xo_nm (pv 1)) .nil rfl)) (xg_tup rfl (xgs_cons (xg_name sc_class_of.nd rfl (.inl rfl)) (xgs_cons (xg_name sc_class_of.nd rfl (.inl rfl)) xgs_nil))) (xss_fg [5, 6] (xss_one (xs_if (xt_cmp (o_in hr) sp_in (xo_nm (pv 4)) (xo_nm (pv 6)) rfl) (xss_one (xs_retN (pv 5))) xss_nil))))
  (xss_one (xs_ret xe_non))))
theorem bi__law_holds (G : All K mg D) : Binds K D._law_holds ["game", "system", "pick"] [] := G.d__law_holds.F.bindsN fun _ _ _ _ _ _ us hl => match us, hl with | [_, _, _], _ => rfl
theorem ok__law_holds (G : All K mg D) : FnOk P w K mg base CX0 1 (He.ga K "_law_holds") D._law_holds ["game", "system", "pick"] (spD K 3 f__law_holds) :=
  fn_dl G.d__law_holds.F sc__law_holds fun cdv A outer s H E hr B =>
  (xss_cons (xs_for (mb := lb__law_holds_1) (passes_of rfl) rfl (xi_r1 rfl G.n_range (xo_ex (xe_callB b_len cs_len rfl G.n_len bt_len (.cons (xo_nm (pv 0)) .nil rfl)))) (xg_name sc__law_holds.nd rfl (.inr rfl)) (xss_fg [3] (xss_one (xs_if (xt_cmp (o_eq hr) sp_eq (xo_ex (xe_ix ix_seq sp_ix (xo_ex (xe_ix ix_seq sp_ix (xo_nm (pv 0)) (xo_nm (pv 3)) fun _ _ => rfl)) (xo_ex xe_int) fun _ _ => rfl)) (xo_ex xe_str) (nomark _)) (xss_one (xs_if (xt_cmp (o_ne hr) sp_ne (xo_ex (xe_lc rfl sc__law_holds.nd (own := [("number", 4)]) (xi_seq (xo_ex (xe_ix ix_seq sp_ix (xo_nm (pv 2)) (xo_nm (pv 3)) fun _ _ => rfl))) (blkOk_by (N := ["game", "system", "pick", "k", "number", "j"]) (sc := defScope (top 42)) (own := [("number", 4)]) (by decide +kernel)) (by decide) (fun _ _ _ _ _ => xg_pg (xg_name sc__law_holds.nd rfl (by first | exact .inl rfl | exact .inr rfl))) (fun _ _ _ _ _ => XPs.pts (B := B) (W := noW) (xps_one (xt_cmp (o_nin hr) sp_nin (xo_nm (pv 4)) (xo_ex (xe_ix ix_seq sp_ix (xo_nm (pv 1)) (xo_nm (pv 3)) fun _ _ => rfl)) rfl))) (fun _ _ _ _ _ => XE.pe (B := B) (W := noW) (xe_nm (pv 4))))) (xo_ex (xe_lst .nil)) (nomark _)) (xss_one (xs_ret xe_bl)) xss_nil)) (xss_one (xs_if (xt_cmp (o_ne hr) sp_ne (xo_ex (xe_lc rfl sc__law_holds.nd (own := [("j", 5)]) (xi_r1 rfl G.n_range (xo_ex (xe_callB b_len cs_len rfl G.n_len bt_len (.cons (xo_ex (xe_ix ix_seq sp_ix (xo_nm (pv 2)) (xo_nm (pv 3)) fun _ _ => rfl)) .nil rfl)))) (blkOk_by (N := ["game", "system", "pick", "k", "number", "j"]) (sc := defScope (top 42)) (own := [("j", 5)]) (by decide +kernel)) (by decide) (fun _ _ _ _ _ => xg_pg (xg_name sc__law_holds.nd rfl (by first | exact .inl rfl | exact .inr rfl))) (fun _ _ _ _ _ => XPs.pts (B := B) (W := noW) (xps_one (xt_cmp (o_nin hr) sp_nin (xo_ex (xe_ix ix_seq sp_ix (xo_ex (xe_ix ix_seq sp_ix (xo_nm (pv 2)) (xo_nm (pv 3)) fun _ _ => rfl)) (xo_nm (pv 5)) fun _ _ => rfl)) (xo_ex (xe_ix ix_seq sp_ix (xo_ex (xe_ix ix_seq sp_ix (xo_nm (pv 1)) (xo_nm (pv 3)) fun _ _ => rfl)) (xo_nm (pv 5)) fun _ _ => rfl)) rfl))) (fun _ _ _ _ _ => XE.pe (B := B) (W := noW) (xe_nm (pv 5))))) (xo_ex (xe_lst .nil)) (nomark _)) (xss_one (xs_ret xe_bl)) xss_nil))))))
  (xss_one (xs_ret xe_bl)))
theorem bi_law (G : All K mg D) : Binds K D.law ["script"] [] := G.d_law.F.bindsN fun _ _ _ _ _ _ us hl => match us, hl with | [_], _ => rfl
theorem ok_law (G : All K mg D) : FnOk P w K mg base CX0 5 (He.ga K "law") D.law ["script"] (spD K 1 f_law) :=
  fn_dl G.d_law.F sc_law fun cdv A outer s H E hr B =>
  (xss_cons (xs_set sc_law.nd rfl (.inr rfl) (xe_def (ok__law_draws G) (hr.mono (by decide)) rfl G.d__law_draws.g G.d__law_draws.F.kp (bi__law_draws G) (.fz (pv 0) .nil rfl)))
  (xss_cons (xs_setV sc_law.nd rfl (.inr rfl) (xe_def (ok__law_game G) (hr.mono (by decide)) rfl G.d__law_game.g G.d__law_game.F.kp (bi__law_game G) (.io (pv 1) (.v (xo_ex xe_int) .nil rfl) rfl)))
  (xss_cons (xs_setV sc_law.nd rfl (.inl rfl) (xe_def (ok__law_picks G) (hr.mono (by decide)) rfl G.d__law_picks.g G.d__law_picks.F.kp (bi__law_picks G) (.v (xo_nm (pv 2)) .nil rfl)))
  (xss_cons (xs_setV sc_law.nd rfl (.inl rfl) (xe_def (ok__law_classes G) (hr.mono (by decide)) rfl G.d__law_classes.g G.d__law_classes.F.kp (bi__law_classes G) (.io (pv 1) (.v (xo_nm (pv 2)) .nil rfl) rfl)))
  (xss_cons (xs_setV sc_law.nd rfl (.inl rfl) (xe_def (ok__law_table G) (hr.mono (by decide)) rfl G.d__law_table.g G.d__law_table.F.kp (bi__law_table G) (.io (pv 1) (.v (xo_ex (xe_callB b_len cs_len rfl G.n_len bt_len (.cons (xo_nm (pv 4)) .nil rfl))) .nil rfl) rfl)))
  (xss_cons (xs_setLcV rfl sc_law.nd rfl rfl (sw_true rfl rfl rfl (by decide +kernel)) (own := [("unused", 7)]) (xi_r1 rfl G.n_range (xo_ex (xe_def (ok__law_take G) (hr.mono (by decide)) rfl G.d__law_take.g G.d__law_take.F.kp (bi__law_take G) (.io (pv 1) (.v (xo_ex xe_int) .nil rfl) rfl)))) (blkOk_by (N := ["script", "draws", "game", "picks", "classes", "table", "systems", "unused", "held", "system", "pick", "counts", "sums", "drawn", "winners", "told", "k", "prizes", "due", "state", "change", "own", "place", "paid", "part", "whole"]) (sc := defScope (top 48)) (own := [("unused", 7)]) (by decide +kernel)) (by decide) (fun _ _ _ _ _ => xg_pg (xg_name sc_law.nd rfl (by first | exact .inl rfl | exact .inr rfl))) (fun _ _ _ _ _ => XPs.pts (B := B) (W := noW) xps_nil) (fun _ _ _ _ _ => XE.pe (B := B) (W := noW) (xe_def (ok__law_system G) (hr.mono (by decide)) rfl G.d__law_system.g G.d__law_system.F.kp (bi__law_system G) (.io (pv 1) (.v (xo_nm (pv 2)) .nil rfl) rfl))))
  (xss_cons (xs_setV sc_law.nd rfl (.inl rfl) (xe_lst .nil))
  (xss_cons (xs_for (mb := lb_law_1) (passes_of rfl) rfl (xi_seq (xo_nm (pv 6))) (xg_name sc_law.nd rfl (.inr rfl)) (xss_fg [9] (xss_one (xs_setV sc_law.nd rfl (.inl rfl) (xe_op o_add sp_add (xo_nm (pv 8)) (xo_ex (xe_lc rfl sc_law.nd (own := [("pick", 10)]) (xi_seq (xo_nm (pv 3))) (blkOk_by (N := ["script", "draws", "game", "picks", "classes", "table", "systems", "unused", "held", "system", "pick", "counts", "sums", "drawn", "winners", "told", "k", "prizes", "due", "state", "change", "own", "place", "paid", "part", "whole"]) (sc := defScope (top 48)) (own := [("pick", 10)]) (by decide +kernel)) (by decide) (fun _ _ _ _ _ => xg_pg (xg_name sc_law.nd rfl (by first | exact .inl rfl | exact .inr rfl))) (fun _ _ _ _ _ => XPs.pts (B := B) (W := noW) (xps_one (xt_truth (xo_ex (xe_def (ok__law_holds G) (hr.mono (by decide)) rfl G.d__law_holds.g G.d__law_holds.F.kp (bi__law_holds G) (.v (xo_nm (pv 2)) (.v (xo_nm (pv 9)) (.v (xo_nm (pv 10)) .nil rfl) rfl) rfl)))))) (fun _ _ _ _ _ => XE.pe (B := B) (W := noW) (xe_nm (pv 10))))))))))
  (xss_cons (xs_set sc_law.nd rfl (.inl rfl) (xe_op o_mul sp_mul (xo_ex (xe_lst (.one (xo_ex xe_int) .nil rfl))) (xo_ex (xe_callB b_len cs_len rfl G.n_len bt_len (.cons (xo_nm (pv 4)) .nil rfl)))))
  (xss_cons (xs_set sc_law.nd rfl (.inl rfl) (xe_op o_mul sp_mul (xo_ex (xe_lst (.one (xo_ex xe_int) .nil rfl))) (xo_ex (xe_callB b_len cs_len rfl G.n_len bt_len (.cons (xo_nm (pv 4)) .nil rfl)))))
  (xss_cons (xs_for (mb := lb_law_5) (passes_of rfl) rfl (xi_seq (xo_nm (pv 3))) (xg_name sc_law.nd rfl (.inl rfl)) (xss_fg [9, 10, 13, 14, 15, 17, 18, 19, 20, 21, 22, 23] (xss_cons (xs_setV sc_law.nd rfl (.inr rfl) (xe_op o_mul sp_mul (xo_ex (xe_lst (.one (xo_ex xe_int) .nil rfl))) (xo_ex (xe_callB b_len cs_len rfl G.n_len bt_len (.cons (xo_nm (pv 4)) .nil rfl)))))
  (xss_cons (xs_for (mb := lb_law_2) (passes_of rfl) rfl (xi_seq (xo_nm (pv 6))) (xg_name sc_law.nd rfl (.inr rfl)) (xss_fg [9, 15] (xss_cons (xs_setV sc_law.nd rfl (.inr rfl) (xe_def (ok_wins G) (hr.mono (by decide)) rfl G.d_wins.g G.d_wins.F.kp (bi_wins G) (.v (xo_nm (pv 2)) (.v (xo_nm (pv 4)) (.v (xo_nm (pv 9)) (.v (xo_nm (pv 13)) .nil rfl) rfl) rfl) rfl)))
  (xss_one (xs_setV sc_law.nd rfl (.inr rfl) (xe_lc rfl sc_law.nd (own := [("k", 16)]) (xi_r1 rfl G.n_range (xo_ex (xe_callB b_len cs_len rfl G.n_len bt_len (.cons (xo_nm (pv 4)) .nil rfl)))) (blkOk_by (N := ["script", "draws", "game", "picks", "classes", "table", "systems", "unused", "held", "system", "pick", "counts", "sums", "drawn", "winners", "told", "k", "prizes", "due", "state", "change", "own", "place", "paid", "part", "whole"]) (sc := defScope (top 48)) (own := [("k", 16)]) (by decide +kernel)) (by decide) (fun _ _ _ _ _ => xg_pg (xg_name sc_law.nd rfl (by first | exact .inl rfl | exact .inr rfl))) (fun _ _ _ _ _ => XPs.pts (B := B) (W := noW) xps_nil) (fun _ _ _ _ _ => XE.pe (B := B) (W := noW) (xe_op o_add sp_add (xo_ex (xe_ix ix_seq sp_ix (xo_nm (pv 14)) (xo_nm (pv 16)) fun _ _ => rfl)) (xo_ex (xe_ix ix_seq sp_ix (xo_nm (pv 15)) (xo_nm (pv 16)) fun _ _ => rfl))))))))))
  (xss_cons (xs_asg (xg_tup rfl (xgs_cons (xg_name sc_law.nd rfl (.inr rfl)) (xgs_cons (xg_name sc_law.nd rfl (.inl rfl)) (xgs_cons (xg_name sc_law.nd rfl (.inl rfl)) (xgs_cons (xg_name sc_law.nd rfl (.inl rfl)) xgs_nil))))) (xe_def (ok_settle G) (hr.mono (by decide)) rfl G.d_settle.g G.d_settle.F.kp (bi_settle G) (.v (xo_nm (pv 5)) (.v (xo_ex (xe_def (ok_start_state G) (hr.mono (by decide)) rfl G.d_start_state.g G.d_start_state.F.kp (bi_start_state G) (.v (xo_nm (pv 5)) .nil rfl))) (.v (xo_ex (xe_tup (.one (xo_ex (xe_callB b_len cs_len rfl G.n_len bt_len (.cons (xo_nm (pv 8)) .nil rfl))) (.one (xo_ex (xe_callT call_tuple_of cs_tup rfl G.n_tuple bt_tuple (.cons (xo_nm (pv 14)) .nil rfl))) .nil rfl) rfl))) .nil rfl) rfl) rfl)))
  (xss_cons (xs_set sc_law.nd rfl (.inl rfl) (xe_lst .nil))
  (xss_cons (xs_for (mb := lb_law_3) (passes_of rfl) rfl (xi_seq (xo_nm (pv 8))) (xg_name sc_law.nd rfl (.inl rfl)) (xss_fg [10, 22] (xss_cons (xs_setV sc_law.nd rfl (.inl rfl) (xe_def (ok_class_of G) (hr.mono (by decide)) rfl G.d_class_of.g G.d_class_of.F.kp (bi_class_of G) (.v (xo_nm (pv 2)) (.v (xo_nm (pv 4)) (.v (xo_nm (pv 10)) (.v (xo_nm (pv 13)) .nil rfl) rfl) rfl) rfl)))
  (xss_one (xs_if (xt_cmp o_isnot sp_isnot (xo_nm (pv 22)) (xo_ex xe_non) (nomark _)) (xss_one (xs_expr (xe_app (pv 21) (xe_ix ix_seq sp_ix (xo_nm (pv 17)) (xo_nm (pv 22)) fun _ _ => rfl)))) xss_nil)))))
  (xss_cons (xs_setV sc_law.nd rfl (.inl rfl) (xe_callB (cr_sumA rfl) cs_sumA rfl G.n_sum bt_sum (.cons (xo_ex (xe_lc rfl sc_law.nd (own := [("k", 16)]) (xi_r1 rfl G.n_range (xo_ex (xe_callB b_len cs_len rfl G.n_len bt_len (.cons (xo_nm (pv 4)) .nil rfl)))) (blkOk_by (N := ["script", "draws", "game", "picks", "classes", "table", "systems", "unused", "held", "system", "pick", "counts", "sums", "drawn", "winners", "told", "k", "prizes", "due", "state", "change", "own", "place", "paid", "part", "whole"]) (sc := defScope (top 48)) (own := [("k", 16)]) (by decide +kernel)) (by decide) (fun _ _ _ _ _ => xg_pg (xg_name sc_law.nd rfl (by first | exact .inl rfl | exact .inr rfl))) (fun _ _ _ _ _ => XPs.pts (B := B) (W := noW) xps_nil) (fun _ _ _ _ _ => XE.pe (B := B) (W := noW) (xe_op o_mul sp_mul (xo_ex (xe_ix ix_seq sp_ix (xo_nm (pv 14)) (xo_nm (pv 16)) fun _ _ => rfl)) (xo_ex (xe_ix ix_seq sp_ix (xo_nm (pv 17)) (xo_nm (pv 16)) fun _ _ => rfl)))))) .nil rfl)))
  (xss_cons (xs_if (XW.xt (xw_or (xt_cmp (o_ne hr) sp_ne (xo_ex (xe_callB (cr_sumA rfl) cs_sumA rfl G.n_sum bt_sum (.cons (xo_nm (pv 21)) .nil rfl))) (xo_nm (pv 23)) (nomark _)) (xw_or (xt_cmp (o_ne hr) sp_ne (xo_ex (xe_callB b_len cs_len rfl G.n_len bt_len (.cons (xo_nm (pv 21)) .nil rfl))) (xo_ex (xe_callB (cr_sumA rfl) cs_sumA rfl G.n_sum bt_sum (.cons (xo_nm (pv 14)) .nil rfl))) (nomark _)) (xw_or1 (xt_cmp (o_ne hr) sp_ne (xo_ex (xe_op o_mul sp_mul (xo_ex (xe_ix ix_seq sp_ix (xo_nm (pv 5)) (xo_ex xe_int) fun _ _ => rfl)) (xo_ex (xe_callB b_len cs_len rfl G.n_len bt_len (.cons (xo_nm (pv 8)) .nil rfl))))) (xo_ex (xe_op o_add sp_add (xo_ex (xe_op o_add sp_add (xo_ex (xe_op o_add sp_add (xo_nm (pv 18)) (xo_nm (pv 23)))) (xo_ex (xe_callB (cr_sumA rfl) cs_sumA rfl G.n_sum bt_sum (.cons (xo_nm (pv 19)) .nil rfl))))) (xo_nm (pv 20)))) (nomark _)))))) (xss_one (xs_ret xe_bl)) xss_nil)
  (xss_one (xs_for (mb := lb_law_4) (passes_of rfl) rfl (xi_r1 rfl G.n_range (xo_ex (xe_callB b_len cs_len rfl G.n_len bt_len (.cons (xo_nm (pv 4)) .nil rfl)))) (xg_name sc_law.nd rfl (.inl rfl)) (xss_cons (xs_sub (pv 11) (xo_nm (pv 16)) (xe_op o_add sp_add (xo_ex (xe_ix ix_seq sp_ix (xo_nm (pv 11)) (xo_nm (pv 16)) fun _ _ => rfl)) (xo_ex (xe_ix ix_seq sp_ix (xo_nm (pv 14)) (xo_nm (pv 16)) fun _ _ => rfl))))
  (xss_one (xs_sub (pv 12) (xo_nm (pv 16)) (xe_op o_add sp_add (xo_ex (xe_ix ix_seq sp_ix (xo_nm (pv 12)) (xo_nm (pv 16)) fun _ _ => rfl)) (xo_ex (xe_op o_mul sp_mul (xo_ex (xe_ix ix_seq sp_ix (xo_nm (pv 14)) (xo_nm (pv 16)) fun _ _ => rfl)) (xo_ex (xe_ix ix_seq sp_ix (xo_nm (pv 17)) (xo_nm (pv 16)) fun _ _ => rfl)))))))))))))))))))
  (xss_cons (xs_for (mb := lb_law_6) (passes_of rfl) rfl (xi_r1 rfl G.n_range (xo_ex (xe_callB b_len cs_len rfl G.n_len bt_len (.cons (xo_nm (pv 4)) .nil rfl)))) (xg_name sc_law.nd rfl (.inl rfl)) (xss_fg [16, 24, 25] (xss_cons (xs_asg (xg_tup rfl (xgs_cons (xg_name sc_law.nd rfl (.inl rfl)) (xgs_cons (xg_name sc_law.nd rfl (.inl rfl)) xgs_nil))) (xe_def (ok_chance G) (hr.mono (by decide)) rfl G.d_chance.g G.d_chance.F.kp (bi_chance G) (.v (xo_nm (pv 2)) (.v (xo_nm (pv 4)) (.v (xo_nm (pv 16)) .nil rfl) rfl) rfl)))
  (xss_cons (xs_if (xt_cmp (o_ne hr) sp_ne (xo_ex (xe_op o_mul sp_mul (xo_ex (xe_ix ix_seq sp_ix (xo_nm (pv 11)) (xo_nm (pv 16)) fun _ _ => rfl)) (xo_nm (pv 25)))) (xo_ex (xe_op o_mul sp_mul (xo_ex (xe_op o_mul sp_mul (xo_ex (xe_callB b_len cs_len rfl G.n_len bt_len (.cons (xo_nm (pv 8)) .nil rfl))) (xo_nm (pv 24)))) (xo_ex (xe_callB b_len cs_len rfl G.n_len bt_len (.cons (xo_nm (pv 3)) .nil rfl))))) (nomark _)) (xss_one (xs_ret xe_bl)) xss_nil)
  (xss_one (xs_if (XW.xt (xw_and (xt_cmp (o_eq hr) sp_eq (xo_ex (xe_ix ix_seq sp_ix (xo_ex (xe_ix ix_seq sp_ix (xo_ex (xe_ix ix_seq sp_ix (xo_nm (pv 5)) (xo_ex xe_int) fun _ _ => rfl)) (xo_nm (pv 16)) fun _ _ => rfl)) (xo_ex xe_int) fun _ _ => rfl)) (xo_ex xe_str) (nomark _)) (xw_and1 (xt_cmp (o_ne hr) sp_ne (xo_ex (xe_op o_mul sp_mul (xo_ex (xe_ix ix_seq sp_ix (xo_nm (pv 12)) (xo_nm (pv 16)) fun _ _ => rfl)) (xo_nm (pv 25)))) (xo_ex (xe_op o_mul sp_mul (xo_ex (xe_op o_mul sp_mul (xo_ex (xe_op o_mul sp_mul (xo_ex (xe_callB b_len cs_len rfl G.n_len bt_len (.cons (xo_nm (pv 8)) .nil rfl))) (xo_nm (pv 24)))) (xo_ex (xe_callB b_len cs_len rfl G.n_len bt_len (.cons (xo_nm (pv 3)) .nil rfl))))) (xo_ex (xe_ix ix_seq sp_ix (xo_ex (xe_ix ix_seq sp_ix (xo_ex (xe_ix ix_seq sp_ix (xo_nm (pv 5)) (xo_ex xe_int) fun _ _ => rfl)) (xo_nm (pv 16)) fun _ _ => rfl)) (xo_ex xe_int) fun _ _ => rfl)))) (nomark _))))) (xss_one (xs_ret xe_bl)) xss_nil))))))
  (xss_one (xs_ret xe_bl))))))))))))))
end
end LW
set_option Elab.async false
set_option linter.all false
set_option maxRecDepth 100000
set_option maxHeartbeats 0
namespace LW
open PySem PySem.Spec PyProof.Rows L2 RT DL
def hd__law_draws : He.DefD := ⟨("_law_draws", none), "_law_draws", "_law_draws", defArgs (top 35), defBody (top 35), defScope (top 35), [], []⟩
def hd__law_take : He.DefD := ⟨("_law_take", none), "_law_take", "_law_take", defArgs (top 36), defBody (top 36), defScope (top 36), [], []⟩
def hd__law_parts : He.DefD := ⟨("_law_parts", none), "_law_parts", "_law_parts", defArgs (top 39), defBody (top 39), defScope (top 39), [], []⟩
def hd__law_game : He.DefD := ⟨("_law_game", none), "_law_game", "_law_game", defArgs (top 38), defBody (top 38), defScope (top 38), [], []⟩
def hd__law_picks : He.DefD := ⟨("_law_picks", none), "_law_picks", "_law_picks", defArgs (top 40), defBody (top 40), defScope (top 40), [], []⟩
def hd__law_all_hits : He.DefD := ⟨("_law_all_hits", none), "_law_all_hits", "_law_all_hits", defArgs (top 44), defBody (top 44), defScope (top 44), [], []⟩
def hd__law_classes : He.DefD := ⟨("_law_classes", none), "_law_classes", "_law_classes", defArgs (top 45), defBody (top 45), defScope (top 45), [], []⟩
def hd__law_table : He.DefD := ⟨("_law_table", none), "_law_table", "_law_table", defArgs (top 47), defBody (top 47), defScope (top 47), [], []⟩
def hd__law_system : He.DefD := ⟨("_law_system", none), "_law_system", "_law_system", defArgs (top 41), defBody (top 41), defScope (top 41), [], []⟩
def hd_rounded : He.DefD := ⟨("rounded", none), "rounded", "rounded", defArgs (top 24), defBody (top 24), defScope (top 24), [], []⟩
def hd_made : He.DefD := ⟨("made", none), "made", "made", defArgs (top 22), defBody (top 22), defScope (top 22), [], []⟩
def hd_times : He.DefD := ⟨("times", none), "times", "times", defArgs (top 23), defBody (top 23), defScope (top 23), [], []⟩
def hd_share_of : He.DefD := ⟨("share_of", none), "share_of", "share_of", defArgs (top 31), defBody (top 31), defScope (top 31), [], []⟩
def hd_raised : He.DefD := ⟨("raised", none), "raised", "raised", defArgs (top 17), defBody (top 17), defScope (top 17), [], []⟩
def hd_pay : He.DefD := ⟨("pay", none), "pay", "pay", defArgs (top 32), defBody (top 32), defScope (top 32), [], []⟩
def hd_settle : He.DefD := ⟨("settle", none), "settle", "settle", defArgs (top 33), defBody (top 33), defScope (top 33), [], []⟩
def hd_is_number : He.DefD := ⟨("is_number", none), "is_number", "is_number", defArgs (top 2), defBody (top 2), defScope (top 2), [], []⟩
def hd_check_place : He.DefD := ⟨("check_place", none), "check_place", "check_place", defArgs (top 27), defBody (top 27), defScope (top 27), [], []⟩
def hd_parts_many : He.DefD := ⟨("parts_many", none), "parts_many", "parts_many", defArgs (top 19), defBody (top 19), defScope (top 19), [], []⟩
def hd_many : He.DefD := ⟨("many", none), "many", "many", defArgs (top 20), defBody (top 20), defScope (top 20), [], []⟩
def hd_ways_to_hit : He.DefD := ⟨("ways_to_hit", none), "ways_to_hit", "ways_to_hit", defArgs (top 26), defBody (top 26), defScope (top 26), [], []⟩
def hd_chance : He.DefD := ⟨("chance", none), "chance", "chance", defArgs (top 28), defBody (top 28), defScope (top 28), [], []⟩
def hd_places_ways : He.DefD := ⟨("places_ways", none), "places_ways", "places_ways", defArgs (top 8), defBody (top 8), defScope (top 8), [], []⟩
def hd_end_ways : He.DefD := ⟨("end_ways", none), "end_ways", "end_ways", defArgs (top 9), defBody (top 9), defScope (top 9), [], []⟩
def hd_part_ways : He.DefD := ⟨("part_ways", none), "part_ways", "part_ways", defArgs (top 10), defBody (top 10), defScope (top 10), [], []⟩
def hd_wins : He.DefD := ⟨("wins", none), "wins", "wins", defArgs (top 11), defBody (top 11), defScope (top 11), [], []⟩
def hd_start_state : He.DefD := ⟨("start_state", none), "start_state", "start_state", defArgs (top 30), defBody (top 30), defScope (top 30), [], []⟩
def hd_same_in_places : He.DefD := ⟨("same_in_places", none), "same_in_places", "same_in_places", defArgs (top 4), defBody (top 4), defScope (top 4), [], []⟩
def hd_same_at_end : He.DefD := ⟨("same_at_end", none), "same_at_end", "same_at_end", defArgs (top 5), defBody (top 5), defScope (top 5), [], []⟩
def hd_hits : He.DefD := ⟨("hits", none), "hits", "hits", defArgs (top 6), defBody (top 6), defScope (top 6), [], []⟩
def hd_class_of : He.DefD := ⟨("class_of", none), "class_of", "class_of", defArgs (top 7), defBody (top 7), defScope (top 7), [], []⟩
def hd__law_holds : He.DefD := ⟨("_law_holds", none), "_law_holds", "_law_holds", defArgs (top 42), defBody (top 42), defScope (top 42), [], []⟩
def hd_law : He.DefD := ⟨("law", none), "law", "law", defArgs (top 48), defBody (top 48), defScope (top 48), [], []⟩
def hfn0 : List He.DefD := [hd__law_draws, hd__law_take, hd__law_parts, hd__law_game, hd__law_picks, hd__law_all_hits, hd__law_classes, hd__law_table, hd__law_system, hd_rounded, hd_made, hd_times, hd_share_of, hd_raised, hd_pay, hd_settle]
def hfn1 : List He.DefD := [hd_is_number, hd_check_place, hd_parts_many, hd_many, hd_ways_to_hit, hd_chance, hd_places_ways, hd_end_ways, hd_part_ways, hd_wins, hd_start_state, hd_same_in_places, hd_same_at_end, hd_hits, hd_class_of, hd__law_holds]
def hfn2 : List He.DefD := [hd_law]
def hfn : List He.DefD := hfn0 ++ hfn1 ++ hfn2
def hfa0 : List He.Fa := [.glo "_law_draws", .glo "_law_take", .glo "_law_parts", .glo "_law_game", .glo "_law_picks", .glo "_law_all_hits", .glo "_law_classes", .glo "_law_table", .glo "_law_system", .glo "rounded", .glo "made", .glo "times", .glo "share_of", .glo "raised", .glo "pay", .glo "settle"]
def hfa1 : List He.Fa := [.glo "is_number", .glo "check_place", .glo "parts_many", .glo "many", .glo "ways_to_hit", .glo "chance", .glo "places_ways", .glo "end_ways", .glo "part_ways", .glo "wins", .glo "start_state", .glo "same_in_places", .glo "same_at_end", .glo "hits", .glo "class_of", .glo "_law_holds"]
def hfa2 : List He.Fa := [.glo "law", .free "abs", .free "bool", .free "divmod", .free "enumerate", .free "int", .free "isinstance", .free "len", .free "list", .free "max", .free "min", .free "range", .free "reversed", .free "sorted", .free "sum", .free "tuple"]
def hfa3 : List He.Fa := [.free "zip"]
def hfa : List He.Fa := hfa0 ++ hfa1 ++ hfa2 ++ hfa3
def loose0 : List Str := ["is_number", "same_in_places", "same_at_end", "hits", "class_of", "places_ways", "end_ways", "part_ways", "wins", "LotError", "OutOfRange", "NotThere", "raised", "parts_many", "many", "made", "times", "rounded", "ways_to_hit", "check_place"]
def loose1 : List Str := ["chance", "start_state", "share_of", "pay", "settle", "_law_draws", "_law_take", "_law_same", "_law_game", "_law_parts", "_law_picks", "_law_system", "_law_holds", "_law_hits", "_law_all_hits", "_law_classes", "_law_place", "_law_table"]
def loose : List Str := loose0 ++ loose1
def exK (K : PySem.W.Frag) : Bool := He.eqO (PySem.W.nsIn K mainGlobals "comb") (some (some (.builtin "math.comb"))) && He.eqO (PySem.W.nsIn K mainGlobals "gcd") (some (some (.builtin "math.gcd")))
abbrev Rw : PySem.W.OpenRow := PySem.W.OpenLaw.row PySem.Challenge.rw_lotshown_k92_whole_prizes_over_all_draws
abbrev hk : PySem.W.Hook := He.hookX 4 hfa hfn [] [] exK
def ob (s : PySem.W.SharedT) : He.AlX := He.obsX 4 hfa hfn [] [] exK (HandSHeadRun.getT s)
theorem ob_eq (s : PySem.W.SharedT) : ob s = hk.obs s.abs := He.obsX_eq (HandSHeadRun.getT_eq s)
theorem run (w : World) : HandSHeadRun.RunEqI Rw (PySem.W.view Rw.prog [0, 48]) hk ob 5000 loose w := by
  unfold HandSHeadRun.RunEqI
  kernel_rfl
theorem all_of {K : PySem.W.Frag} {h : Heap} {mg : Str → Option Value} (X : K.In h) (G : h.Ns mainGlobals mg) (c : He.SaysD hfa hfn K) (hx : exK K = true) : ∃ D, All K mg D := by
  obtain ⟨e0, F0⟩ := c.def_ 0 (d := hd__law_draws) rfl
  obtain ⟨e1, F1⟩ := c.def_ 1 (d := hd__law_take) rfl
  obtain ⟨e2, F2⟩ := c.def_ 2 (d := hd__law_parts) rfl
  obtain ⟨e3, F3⟩ := c.def_ 3 (d := hd__law_game) rfl
  obtain ⟨e4, F4⟩ := c.def_ 4 (d := hd__law_picks) rfl
  obtain ⟨e5, F5⟩ := c.def_ 5 (d := hd__law_all_hits) rfl
  obtain ⟨e6, F6⟩ := c.def_ 6 (d := hd__law_classes) rfl
  obtain ⟨e7, F7⟩ := c.def_ 7 (d := hd__law_table) rfl
  obtain ⟨e8, F8⟩ := c.def_ 8 (d := hd__law_system) rfl
  obtain ⟨e9, F9⟩ := c.def_ 9 (d := hd_rounded) rfl
  obtain ⟨e10, F10⟩ := c.def_ 10 (d := hd_made) rfl
  obtain ⟨e11, F11⟩ := c.def_ 11 (d := hd_times) rfl
  obtain ⟨e12, F12⟩ := c.def_ 12 (d := hd_share_of) rfl
  obtain ⟨e13, F13⟩ := c.def_ 13 (d := hd_raised) rfl
  obtain ⟨e14, F14⟩ := c.def_ 14 (d := hd_pay) rfl
  obtain ⟨e15, F15⟩ := c.def_ 15 (d := hd_settle) rfl
  obtain ⟨e16, F16⟩ := c.def_ 16 (d := hd_is_number) rfl
  obtain ⟨e17, F17⟩ := c.def_ 17 (d := hd_check_place) rfl
  obtain ⟨e18, F18⟩ := c.def_ 18 (d := hd_parts_many) rfl
  obtain ⟨e19, F19⟩ := c.def_ 19 (d := hd_many) rfl
  obtain ⟨e20, F20⟩ := c.def_ 20 (d := hd_ways_to_hit) rfl
  obtain ⟨e21, F21⟩ := c.def_ 21 (d := hd_chance) rfl
  obtain ⟨e22, F22⟩ := c.def_ 22 (d := hd_places_ways) rfl
  obtain ⟨e23, F23⟩ := c.def_ 23 (d := hd_end_ways) rfl
  obtain ⟨e24, F24⟩ := c.def_ 24 (d := hd_part_ways) rfl
  obtain ⟨e25, F25⟩ := c.def_ 25 (d := hd_wins) rfl
  obtain ⟨e26, F26⟩ := c.def_ 26 (d := hd_start_state) rfl
  obtain ⟨e27, F27⟩ := c.def_ 27 (d := hd_same_in_places) rfl
  obtain ⟨e28, F28⟩ := c.def_ 28 (d := hd_same_at_end) rfl
  obtain ⟨e29, F29⟩ := c.def_ 29 (d := hd_hits) rfl
  obtain ⟨e30, F30⟩ := c.def_ 30 (d := hd_class_of) rfl
  obtain ⟨e31, F31⟩ := c.def_ 31 (d := hd__law_holds) rfl
  obtain ⟨e32, F32⟩ := c.def_ 32 (d := hd_law) rfl
  unfold exK at hx
  simp only [Bool.and_eq_true] at hx
  exact ⟨⟨e0, e1, e2, e3, e4, e5, e6, e7, e8, e9, e10, e11, e12, e13, e14, e15, e16, e17, e18, e19, e20, e21, e22, e23, e24, e25, e26, e27, e28, e29, e30, e31, e32⟩, {
    d__law_draws := ⟨F0, He.glo_ok X G (c.fact 0 (f := .glo "_law_draws") rfl)⟩
    d__law_take := ⟨F1, He.glo_ok X G (c.fact 1 (f := .glo "_law_take") rfl)⟩
    d__law_parts := ⟨F2, He.glo_ok X G (c.fact 2 (f := .glo "_law_parts") rfl)⟩
    d__law_game := ⟨F3, He.glo_ok X G (c.fact 3 (f := .glo "_law_game") rfl)⟩
    d__law_picks := ⟨F4, He.glo_ok X G (c.fact 4 (f := .glo "_law_picks") rfl)⟩
    d__law_all_hits := ⟨F5, He.glo_ok X G (c.fact 5 (f := .glo "_law_all_hits") rfl)⟩
    d__law_classes := ⟨F6, He.glo_ok X G (c.fact 6 (f := .glo "_law_classes") rfl)⟩
    d__law_table := ⟨F7, He.glo_ok X G (c.fact 7 (f := .glo "_law_table") rfl)⟩
    d__law_system := ⟨F8, He.glo_ok X G (c.fact 8 (f := .glo "_law_system") rfl)⟩
    d_rounded := ⟨F9, He.glo_ok X G (c.fact 9 (f := .glo "rounded") rfl)⟩
    d_made := ⟨F10, He.glo_ok X G (c.fact 10 (f := .glo "made") rfl)⟩
    d_times := ⟨F11, He.glo_ok X G (c.fact 11 (f := .glo "times") rfl)⟩
    d_share_of := ⟨F12, He.glo_ok X G (c.fact 12 (f := .glo "share_of") rfl)⟩
    d_raised := ⟨F13, He.glo_ok X G (c.fact 13 (f := .glo "raised") rfl)⟩
    d_pay := ⟨F14, He.glo_ok X G (c.fact 14 (f := .glo "pay") rfl)⟩
    d_settle := ⟨F15, He.glo_ok X G (c.fact 15 (f := .glo "settle") rfl)⟩
    d_is_number := ⟨F16, He.glo_ok X G (c.fact 16 (f := .glo "is_number") rfl)⟩
    d_check_place := ⟨F17, He.glo_ok X G (c.fact 17 (f := .glo "check_place") rfl)⟩
    d_parts_many := ⟨F18, He.glo_ok X G (c.fact 18 (f := .glo "parts_many") rfl)⟩
    d_many := ⟨F19, He.glo_ok X G (c.fact 19 (f := .glo "many") rfl)⟩
    d_ways_to_hit := ⟨F20, He.glo_ok X G (c.fact 20 (f := .glo "ways_to_hit") rfl)⟩
    d_chance := ⟨F21, He.glo_ok X G (c.fact 21 (f := .glo "chance") rfl)⟩
    d_places_ways := ⟨F22, He.glo_ok X G (c.fact 22 (f := .glo "places_ways") rfl)⟩
    d_end_ways := ⟨F23, He.glo_ok X G (c.fact 23 (f := .glo "end_ways") rfl)⟩
    d_part_ways := ⟨F24, He.glo_ok X G (c.fact 24 (f := .glo "part_ways") rfl)⟩
    d_wins := ⟨F25, He.glo_ok X G (c.fact 25 (f := .glo "wins") rfl)⟩
    d_start_state := ⟨F26, He.glo_ok X G (c.fact 26 (f := .glo "start_state") rfl)⟩
    d_same_in_places := ⟨F27, He.glo_ok X G (c.fact 27 (f := .glo "same_in_places") rfl)⟩
    d_same_at_end := ⟨F28, He.glo_ok X G (c.fact 28 (f := .glo "same_at_end") rfl)⟩
    d_hits := ⟨F29, He.glo_ok X G (c.fact 29 (f := .glo "hits") rfl)⟩
    d_class_of := ⟨F30, He.glo_ok X G (c.fact 30 (f := .glo "class_of") rfl)⟩
    d__law_holds := ⟨F31, He.glo_ok X G (c.fact 31 (f := .glo "_law_holds") rfl)⟩
    d_law := ⟨F32, He.glo_ok X G (c.fact 32 (f := .glo "law") rfl)⟩
    n_abs := He.free_ok X G (c.fact 33 (f := .free "abs") rfl)
    n_bool := He.free_ok X G (c.fact 34 (f := .free "bool") rfl)
    n_divmod := He.free_ok X G (c.fact 35 (f := .free "divmod") rfl)
    n_enumerate := He.free_ok X G (c.fact 36 (f := .free "enumerate") rfl)
    n_int := He.free_ok X G (c.fact 37 (f := .free "int") rfl)
    n_isinstance := He.free_ok X G (c.fact 38 (f := .free "isinstance") rfl)
    n_len := He.free_ok X G (c.fact 39 (f := .free "len") rfl)
    n_list := He.free_ok X G (c.fact 40 (f := .free "list") rfl)
    n_max := He.free_ok X G (c.fact 41 (f := .free "max") rfl)
    n_min := He.free_ok X G (c.fact 42 (f := .free "min") rfl)
    n_range := He.free_ok X G (c.fact 43 (f := .free "range") rfl)
    n_reversed := He.free_ok X G (c.fact 44 (f := .free "reversed") rfl)
    n_sorted := He.free_ok X G (c.fact 45 (f := .free "sorted") rfl)
    n_sum := He.free_ok X G (c.fact 46 (f := .free "sum") rfl)
    n_tuple := He.free_ok X G (c.fact 47 (f := .free "tuple") rfl)
    n_zip := He.free_ok X G (c.fact 48 (f := .free "zip") rfl)
    v_comb := PySem.W.mg_of X G (He.eqO_ok hx.1)
    v_gcd := PySem.W.mg_of X G (He.eqO_ok hx.2)
  }⟩
theorem facts {P : Program} {w : World} {K : PySem.W.Frag} {h : Heap} {mg : Str → Option Value} {f : Addr} (X : K.In h) (G : h.Ns mainGlobals mg) (hfa' : mg ("law" : Str) = some (.ref f)) (c : He.SaysD hfa hfn K) (hx : exK K = true) :
    ∃ fd : FuncData, (∀ (s : Shared) (v : Value), BindsTo s fd ⟨[v], []⟩ [("script", v)]) ∧ ∀ base : Heap, K.In base → base.Ns mainGlobals mg → FnOk P w K mg base CX0 5 f fd ["script"] (spD K 1 f_law) := by
  obtain ⟨D, A⟩ := all_of X G c hx
  have e := hfa'.symm.trans A.d_law.g
  cases e
  have b := FunD.bindsA (ps := ["script"]) A.d_law.F fun _ _ _ _ _ _ us hl => match us, hl with | [_], _ => rfl
  exact ⟨D.law, fun s v => b s [v] rfl, fun base _ _ => ok_law A⟩
theorem law_sp {K : PySem.W.Frag} {H : Hp} {a : Addr} {ns : List Int} {Q : VK} {E : XK} (hS : SqL K H a (ns.map V.int)) (hp : ∃ c, f_law [.fz ns] = .ok (.val (.bool true)) c) (hQ : ∀ H', Q (.bl true) H') : spD K 1 f_law [.ref a] H Q E := by
  obtain ⟨c, hp⟩ := hp
  have go : ∀ S : AS, (∀ b, S b → H b ≠ none) → LsS K S H a (ns.map V.int) → spD K 1 f_law [.ref a] H Q E := fun S h1 h2 => by
    refine ⟨S, [.fz ns], none, rfl, h1, .cons (.fz h2) .nil, ⟨fun _ => rfl, fun _ => rfl⟩, Nat.zero_le _, ?_⟩
    rw [hp]
    intro S2 H2 v _ hv _
    cases hv
    exact hQ H2
  rcases hS with h | h
  · refine go (fun b => b = a) (fun b e => ?_) (.inl ⟨rfl, h⟩)
    subst e
    rcases h with h | ⟨o, h⟩ <;> rw [h] <;> exact fun z => nomatch z
  · exact go (fun _ => False) (fun _ e => e.elim) (.inr h)
end LW
open PySem PySem.W PySem.Calls PyProof.Rows
set_option maxRecDepth 100000 in
set_option maxHeartbeats 0 in
theorem PySem.Challenge.cw_lotshown_k92_whole_prizes_over_all_draws_holds : PySem.Challenge.rw_lotshown_k92_whole_prizes_over_all_draws.Holds := by
  w_on; o_law
  refine HandSHeadRun.head_imp (r := OpenLaw.row PySem.Challenge.rw_lotshown_k92_whole_prizes_over_all_draws) (q := view (OpenLaw.row PySem.Challenge.rw_lotshown_k92_whole_prizes_over_all_draws).prog [0, 48]) (H := LW.hk) (ob := LW.ob) (M := 5000) (loose := LW.loose) (d := HandSHeadRun.topDef (OpenLaw.row PySem.Challenge.rw_lotshown_k92_whole_prizes_over_all_draws).prog 48) (kwd := []) LW.ob_eq
     LW.run (by kernel_rfl) (by kernel_rfl) (by kernel_rfl) (by rfl) (by first | assumption | decide +kernel) (by decide +kernel) ⟨rfl, rfl, rfl, rfl, rfl, by decide +kernel⟩ ?hw ?hc
  case hw => w_witness2
  case hc =>
    refine L2.walk_ofE (l := PySem.Challenge.rw_lotshown_k92_whole_prizes_over_all_draws) (n := 63) (k := 5) (x := "script") (CX := L2.CX0) rfl (by decide) (by kernel_rfl) ⟨rfl, by decide, by decide⟩ ?F (fun _ _ _ _ z => z)
    intro w mg fa h Y G hmg0
    obtain ⟨K, KX, c⟩ := Y
    have hmg : mg ("law" : PySem.Str) = some (.ref fa) := by
      have e : (HandSHeadRun.topDef (OpenLaw.row PySem.Challenge.rw_lotshown_k92_whole_prizes_over_all_draws).prog 48).name = ("law" : PySem.Str) := by kernel_rfl
      rw [← e]
      exact hmg0
    obtain ⟨fd, hb, hF⟩ := LW.facts (P := (PySem.Challenge.rw_lotshown_k92_whole_prizes_over_all_draws).prog) (w := w) KX G hmg c.t.d c.more
    exact ⟨K, fd, DL.spD K 1 LW.f_law, KX, hb, fun H a ns hl _ hS => LW.law_sp hS (LW.plain ns hl) fun _ => rfl, hF⟩
