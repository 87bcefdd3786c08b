import PyProof.Rows.All
import Wide.All
import OpenK.AllK
import Wide.FinOn
import PySem.Challenge.RW_grovetallies_k00_errors_of_the_package
import HandS.ForMost
import HandS.ForExc
import HandS.Lambda
import HandS.ExcInit
import HandS.IsInst
import HandS.Deep
import HandS.Wide
import HandS.TupAny
import HandS.Flow
import HandS.CallSlots
import HandS.Style
import HandS.DictComp
import HandS.Zip
import HandS.WordsDict
import KE.KItemsList
import KE.KDictZip
import KE.GoesZip
import KE.GoesMore
import KE.GoesEnum
import HandS.ListItems
import KE.KExcSuper
import KE.KSuper
import HandS.ExcField
import HandS.IntHex
import HandS.Star
import KE.KRevSl
import KE.KExcIs
import HandS.ExcIs
import HandS.ExcValue
import KE.KNestM
import KE.KLam
import HandS.EndTab
set_option linter.all false
set_option Elab.async false
set_option maxRecDepth 100000
section
set_option maxHeartbeats 2000000
/-! values as data: what a def computes, said of plain data -/
namespace DL
open PySem PySem.Spec PyProof.Rows L2

abbrev Fg := PySem.W.Frag

/-- a value: data all through, but for changing objects (by number) and things of the text -/
inductive D where
  | non | bl (b : Bool) | int (i : Int) | str (x : Str) | tup (ds : List D) | lst (ds : List D) | fls (ds : List D) | ref (i : Nat) | opq (v : V) | exc (x : Str) (ns : List Str) (ds : List D)
/-- a changing object -/
inductive DO where
  | lst (ds : List D)
  | dK (kvs : List (Key × D))
  | ins (C : Addr) (fs : List (Str × D))
abbrev DH := List DO
abbrev SS := List (Option D)
/-- an exception: its class, its fields -/
structure Exn where
  cls : Str
  fs : List (Str × D)

/-- the tables of code objects of the defs that make lambdas, each with the name that its code objects bear -/
class Tbs where
  l : List (Addr × Str)
instance (priority := low) noTbs : Tbs := ⟨[]⟩
/-! ### how data stand in the heap; ι: where the changing objects stand, and what is in the making -/
structure Loc where
  ad : List Addr
  av : List Addr
instance : Membership Addr Loc := ⟨fun l a => a ∈ l.ad ∨ a ∈ l.av⟩
theorem Loc.mem_iff {ι : Loc} {a : Addr} : a ∈ ι ↔ a ∈ ι.ad ∨ a ∈ ι.av := Iff.rfl
abbrev Loc.push (ι : Loc) (p : Addr) : Loc := ⟨ι.ad ++ [p], ι.av⟩
abbrev Loc.with (ι : Loc) (p : Addr) : Loc := ⟨ι.ad, p :: ι.av⟩
def TupAt (K : Fg) (ι : Loc) (H : Hp) (a : Addr) (xs : List V) : Prop := (H a = some (.tup xs) ∧ a ∉ ι) ∨ ∀ H', SqT K H' a xs
def FlsAt (K : Fg) (ι : Loc) (H : Hp) (a : Addr) (xs : List V) : Prop := (Rd H a (.lst xs) ∧ a ∉ ι) ∨ ∀ H', SqL K H' a xs
/-- an own exception, held: its class by name, where its dict stands -/
def ExcAt (K : Fg) (ι : Loc) (H : Hp) (x : Str) (ns : List Str) (a : Addr) (xs : List V) : Prop := ∃ (C : Addr) (dx : Option Addr), PySem.W.nsIn K mainGlobals x = some (some (.ref C)) ∧ H a = some (exo a C dx) ∧ a ∉ ι ∧ ns.length = xs.length ∧
  ((ns = [] ∧ dx = none) ∨ ∃ d, dx = some d ∧ H d = some (exd d (ns.zip xs).reverse) ∧ d ∉ ι)
mutual
def RepV (K : Fg) (ι : Loc) (H : Hp) : D → V → Prop
  | .non, v => v = .non
  | .bl b, v => v = .bl b
  | .int i, v => v = .int i
  | .str x, v => v = .str x
  | .tup ds, v => ∃ a xs, v = .ref a ∧ TupAt K ι H a xs ∧ RepVs K ι H ds xs
  | .lst ds, v => ∃ a xs, v = .ref a ∧ (H a = some (.lst xs) ∧ a ∉ ι) ∧ RepVs K ι H ds xs
  | .fls ds, v => ∃ a xs, v = .ref a ∧ FlsAt K ι H a xs ∧ RepVs K ι H ds xs
  | .ref i, v => ∃ a, v = .ref a ∧ ι.ad[i]? = some a
  | .opq u, v => v = u
  | .exc x ns ds, v => ∃ a xs, v = .ref a ∧ ExcAt K ι H x ns a xs ∧ RepVs K ι H ds xs
def RepVs (K : Fg) (ι : Loc) (H : Hp) : List D → List V → Prop
  | [], xs => xs = []
  | d :: ds, xs => ∃ x r, xs = x :: r ∧ RepV K ι H d x ∧ RepVs K ι H ds r
end

/-- nothing, or a table -/
def Free (H : Hp) (a : Addr) : Prop := ∀ o, H a = some o → ∃ ps, o = .tbl ps
theorem free_of {H : Hp} {a : Addr} (h : H a = none) : Free H a := fun o z => by rw [h] at z; cases z
/-- from (ι, H) to (ι', H'): new changing objects are new; all that is not one of the old changing ones stands -/
structure Ext (ι : Loc) (H : Hp) (ι' : Loc) (H' : Hp) : Prop where
  pre : ∃ e, ι'.ad = ι.ad ++ e
  av : ∀ a, a ∈ ι.av → a ∈ ι'.av
  newd : ∀ a, a ∈ ι'.ad → a ∈ ι.ad ∨ Free H a
  newv : ∀ a, a ∈ ι'.av → a ∈ ι.av ∨ Free H a
  keep : ∀ a o, H a = some o → a ∉ ι.ad → (∀ ps, o ≠ .tbl ps) → H' a = some o
  stay : ∀ a o, H a = some o → (∀ ps, o ≠ .tbl ps) → ∃ o', H' a = some o' ∧ ∀ ps, o' ≠ .tbl ps
theorem Ext.refl (ι : Loc) (H : Hp) : Ext ι H ι H := ⟨⟨[], by simp⟩, fun _ h => h, fun _ h => .inl h, fun _ h => .inl h, fun _ _ h _ _ => h, fun _ o h t => ⟨o, h, t⟩⟩
theorem Ext.outd {ι ι' : Loc} {H H' : Hp} (e : Ext ι H ι' H') {a : Addr} {o : HO} (h : H a = some o) (n : a ∉ ι.ad) (t : ∀ ps, o ≠ .tbl ps := by intro ps z; cases z) : a ∉ ι'.ad := fun z => by
  rcases e.newd a z with z | z
  · exact n z
  · obtain ⟨ps, q⟩ := z o h
    exact t ps q
theorem Ext.out {ι ι' : Loc} {H H' : Hp} (e : Ext ι H ι' H') {a : Addr} {o : HO} (h : H a = some o) (n : a ∉ ι) (t : ∀ ps, o ≠ .tbl ps := by intro ps z; cases z) : a ∉ ι' := fun z => by
  rcases z with z | z
  · exact e.outd h (fun q => n (.inl q)) t z
  · rcases e.newv a z with z | z
    · exact n (.inr z)
    · obtain ⟨ps, q⟩ := z o h
      exact t ps q
theorem Ext.back {ι ι1 : Loc} {H H1 : Hp} (a : Ext ι H ι1 H1) {x : Addr} (h : Free H1 x) : Free H x := fun o q => by
  apply Classical.byContradiction
  intro n
  have t : ∀ ps, o ≠ .tbl ps := fun ps z => n ⟨ps, z⟩
  obtain ⟨o', z, t'⟩ := a.stay x o q t
  obtain ⟨ps, y⟩ := h o' z
  exact t' ps y
theorem Ext.trans {ι ι1 ι2 : Loc} {H H1 H2 : Hp} (a : Ext ι H ι1 H1) (b : Ext ι1 H1 ι2 H2) : Ext ι H ι2 H2 := by
  obtain ⟨e1, p1⟩ := a.pre
  obtain ⟨e2, p2⟩ := b.pre
  have back : ∀ x, Free H1 x → Free H x := fun x h o q => by
    apply Classical.byContradiction
    intro n
    have t : ∀ ps, o ≠ .tbl ps := fun ps z => n ⟨ps, z⟩
    obtain ⟨o', z, t'⟩ := a.stay x o q t
    obtain ⟨ps, y⟩ := h o' z
    exact t' ps y
  refine ⟨⟨e1 ++ e2, by rw [p2, p1, List.append_assoc]⟩, fun x hx => b.av x (a.av x hx), fun x hx => ?_, fun x hx => ?_, fun x o h n t => b.keep x o (a.keep x o h n t) (a.outd h n t) t, fun x o h t => ?_⟩
  · rcases b.newd x hx with h | h
    · exact a.newd x h
    · exact .inr (back x h)
  · rcases b.newv x hx with h | h
    · exact a.newv x h
    · exact .inr (back x h)
  · obtain ⟨o', z, t'⟩ := a.stay x o h t
    exact b.stay x o' z t'
theorem Ext.get' {ι ι' : Loc} {H H' : Hp} (e : Ext ι H ι' H') {a : Addr} {o : HO} (h : H a = some o) (n : a ∉ ι) (t : ∀ ps, o ≠ .tbl ps := by intro ps z; cases z) : H' a = some o := e.keep a o h (fun z => n (.inl z)) t
theorem Ext.get {ι ι' : Loc} {H H' : Hp} (e : Ext ι H ι' H') {i : Nat} {a : Addr} (h : ι.ad[i]? = some a) : ι'.ad[i]? = some a := by
  obtain ⟨x, hx⟩ := e.pre
  rw [hx, List.getElem?_append_left (List.getElem?_eq_some_iff.mp h).1]; exact h
theorem Ext.rd {ι ι' : Loc} {H H' : Hp} (e : Ext ι H ι' H') {a : Addr} {u : HO} (h : Rd H a u) (n : a ∉ ι) (t : ∀ ps, u ≠ .tbl ps := by intro ps z; cases z) : Rd H' a u ∧ a ∉ ι' := by
  rcases h with h | ⟨o, h⟩
  · exact ⟨.inl (e.get' h n t), e.out h n t⟩
  · exact ⟨.inr ⟨o, e.get' h n⟩, e.out h n⟩
section
variable {K : Fg} {ι ι' : Loc} {H H' : Hp}
theorem TupAt.ext (e : Ext ι H ι' H') {a : Addr} {xs : List V} (h : TupAt K ι H a xs) : TupAt K ι' H' a xs := by
  rcases h with ⟨h, n⟩ | h
  · exact .inl ⟨e.get' h n, e.out h n⟩
  · exact .inr h
theorem FlsAt.ext (e : Ext ι H ι' H') {a : Addr} {xs : List V} (h : FlsAt K ι H a xs) : FlsAt K ι' H' a xs := by
  rcases h with ⟨h, n⟩ | h
  · exact .inl (e.rd h n)
  · exact .inr h
theorem exo_tbl {e C : Addr} {d : Option Addr} : ∀ ps, exo e C d ≠ .tbl ps := fun ps z => by
  have z : HO.ext _ = HO.tbl ps := z
  cases z
theorem exd_tbl {d : Addr} {fs : List (Str × V)} : ∀ ps, exd d fs ≠ .tbl ps := fun ps z => by
  have z : HO.ext _ = HO.tbl ps := z
  cases z
theorem ExcAt.ext (e : Ext ι H ι' H') {x : Str} {ns : List Str} {a : Addr} {xs : List V} (h : ExcAt K ι H x ns a xs) : ExcAt K ι' H' x ns a xs := by
  obtain ⟨C, dx, h1, h2, h3, h4, h5⟩ := h
  refine ⟨C, dx, h1, e.get' h2 h3 exo_tbl, e.out h2 h3 exo_tbl, h4, ?_⟩
  rcases h5 with h5 | ⟨d, h5, h6, h7⟩
  · exact .inl h5
  · exact .inr ⟨d, h5, e.get' h6 h7 exd_tbl, e.out h6 h7 exd_tbl⟩
theorem TupAt.sq {a : Addr} {xs : List V} (h : TupAt K ι H a xs) : SqT K H a xs := by
  rcases h with ⟨h, _⟩ | h
  · exact .of h
  · exact h H
theorem FlsAt.sq {a : Addr} {xs : List V} (h : FlsAt K ι H a xs) : SqL K H a xs := by
  rcases h with ⟨h, _⟩ | h
  · exact .inl h
  · exact h H
mutual
theorem RepV.ext (e : Ext ι H ι' H') : ∀ (d : D) (v : V), RepV K ι H d v → RepV K ι' H' d v
  | .non, v, h => h
  | .bl b, v, h => h
  | .int i, v, h => h
  | .str x, v, h => h
  | .tup ds, v, h => by
    obtain ⟨a, xs, h1, h2, h3⟩ := h
    exact ⟨a, xs, h1, h2.ext e, RepVs.ext e ds xs h3⟩
  | .lst ds, v, h => by
    obtain ⟨a, xs, h1, ⟨h2, h4⟩, h3⟩ := h
    exact ⟨a, xs, h1, ⟨e.get' h2 h4, e.out h2 h4⟩, RepVs.ext e ds xs h3⟩
  | .fls ds, v, h => by
    obtain ⟨a, xs, h1, h2, h3⟩ := h
    exact ⟨a, xs, h1, h2.ext e, RepVs.ext e ds xs h3⟩
  | .ref i, v, h => by
    obtain ⟨a, h1, h2⟩ := h
    exact ⟨a, h1, e.get h2⟩
  | .opq u, v, h => h
  | .exc x ns ds, v, h => by
    obtain ⟨a, xs, h1, h2, h3⟩ := h
    exact ⟨a, xs, h1, h2.ext e, RepVs.ext e ds xs h3⟩
theorem RepVs.ext (e : Ext ι H ι' H') : ∀ (ds : List D) (xs : List V), RepVs K ι H ds xs → RepVs K ι' H' ds xs
  | [], xs, h => h
  | d :: ds, xs, h => by
    obtain ⟨x, r, h1, h2, h3⟩ := h
    exact ⟨x, r, h1, RepV.ext e d x h2, RepVs.ext e ds r h3⟩
end
theorem RepVs.length : ∀ {ds : List D} {xs : List V}, RepVs K ι H ds xs → ds.length = xs.length
  | [], xs, h => by have h : xs = [] := h; subst h; rfl
  | d :: ds, xs, h => by
    obtain ⟨x, r, rfl, _, h3⟩ := h
    simp [RepVs.length h3]
theorem RepVs.get : ∀ {ds : List D} {xs : List V} {i : Nat} {d : D}, RepVs K ι H ds xs → ds[i]? = some d → ∃ v, xs[i]? = some v ∧ RepV K ι H d v
  | [], _, _, _, _, e => by simp at e
  | d :: ds, xs, 0, d', h, e => by
    obtain ⟨x, r, rfl, h2, _⟩ := h
    simp at e; subst e
    exact ⟨x, rfl, h2⟩
  | d :: ds, xs, i + 1, d', h, e => by
    obtain ⟨x, r, rfl, _, h3⟩ := h
    obtain ⟨v, h1, h2⟩ := RepVs.get (i := i) h3 (by simpa using e)
    exact ⟨v, by simpa using h1, h2⟩
theorem RepVs.append : ∀ {ds es : List D} {xs ys : List V}, RepVs K ι H ds xs → RepVs K ι H es ys → RepVs K ι H (ds ++ es) (xs ++ ys)
  | [], _, xs, _, h, g => by have h : xs = [] := h; subst h; exact g
  | d :: ds, es, xs, ys, h, g => by
    obtain ⟨x, r, rfl, h2, h3⟩ := h
    exact ⟨x, r ++ ys, rfl, h2, RepVs.append h3 g⟩
theorem RepVs.one {d : D} {x : V} (h : RepV K ι H d x) : RepVs K ι H [d] [x] := ⟨x, [], rfl, h, rfl⟩
theorem RepVs.nil : RepVs K ι H [] [] := rfl
theorem RepVs.set : ∀ {ds : List D} {xs : List V} (i : Nat) {d : D} {x : V}, RepVs K ι H ds xs → RepV K ι H d x → RepVs K ι H (ds.set i d) (xs.set i x)
  | [], xs, _, _, _, h, _ => by have h : xs = [] := h; subst h; rfl
  | d :: ds, xs, 0, d', x', h, g => by
    obtain ⟨x, r, rfl, h2, h3⟩ := h
    exact ⟨x', r, rfl, g, h3⟩
  | d :: ds, xs, i + 1, d', x', h, g => by
    obtain ⟨x, r, rfl, h2, h3⟩ := h
    exact ⟨x, r.set i x', rfl, h2, RepVs.set i h3 g⟩
theorem RepVs.drop : ∀ {ds : List D} {xs : List V} (n : Nat), RepVs K ι H ds xs → RepVs K ι H (ds.drop n) (xs.drop n)
  | [], xs, n, h => by have h : xs = [] := h; subst h; simp; rfl
  | d :: ds, xs, 0, h => h
  | d :: ds, xs, n + 1, h => by
    obtain ⟨x, r, rfl, h2, h3⟩ := h
    exact RepVs.drop n h3
theorem RepVs.take : ∀ {ds : List D} {xs : List V} (n : Nat), RepVs K ι H ds xs → RepVs K ι H (ds.take n) (xs.take n)
  | [], xs, n, h => by have h : xs = [] := h; subst h; simp; rfl
  | d :: ds, xs, 0, h => rfl
  | d :: ds, xs, n + 1, h => by
    obtain ⟨x, r, rfl, h2, h3⟩ := h
    exact ⟨x, r.take n, rfl, h2, RepVs.take n h3⟩
theorem RepVs.reverse {ds : List D} {xs : List V} (h : RepVs K ι H ds xs) : RepVs K ι H ds.reverse xs.reverse := by
  induction ds generalizing xs with
  | nil => have h : xs = [] := h; subst h; rfl
  | cons d ds ih =>
    obtain ⟨x, r, rfl, h2, h3⟩ := h
    rw [List.reverse_cons, List.reverse_cons]
    exact (ih h3).append (.one h2)
end

theorem nodup_get {α : Type} : ∀ {l : List α} {i j : Nat} {a : α}, l.Nodup → l[i]? = some a → l[j]? = some a → i = j
  | [], _, _, _, _, h, _ => by simp at h
  | x :: l, 0, 0, _, _, _, _ => rfl
  | x :: l, 0, j + 1, a, n, h1, h2 => by
    have e : x = a := by simpa using h1
    have m : a ∈ l := List.mem_of_getElem? (by simpa using h2)
    exact absurd (e ▸ m) (List.nodup_cons.mp n).1
  | x :: l, i + 1, 0, a, n, h1, h2 => by
    have e : x = a := by simpa using h2
    have m : a ∈ l := List.mem_of_getElem? (by simpa using h1)
    exact absurd (e ▸ m) (List.nodup_cons.mp n).1
  | x :: l, i + 1, j + 1, a, n, h1, h2 => congrArg (· + 1) (nodup_get (l := l) (i := i) (j := j) (a := a) (List.nodup_cons.mp n).2 (by simpa using h1) (by simpa using h2))

/-! ### the changing objects -/
def RepO (K : Fg) (ι : Loc) (H : Hp) (a : Addr) : DO → Prop
  | .lst ds => ∃ xs, H a = some (.lst xs) ∧ RepVs K ι H ds xs
  | .dK kvs => ∃ ws : List (Key × V), H a = some (.dK ws) ∧ ws.map (·.1) = kvs.map (·.1) ∧ RepVs K ι H (kvs.map (·.2)) (ws.map (·.2))
  | .ins C fs => ∃ dx ws, H a = some (.ins C dx ws) ∧ ws.map (·.1) = fs.map (·.1) ∧ RepVs K ι H (fs.map (·.2)) (ws.map (·.2))
/-- neither a table nor a code object -/
def Ord (u : HO) : Prop := (∀ ps, u ≠ .tbl ps) ∧ ∀ c q, u ≠ LamX.CodeO c q
theorem ord_lst {xs : List V} : Ord (.lst xs) := ⟨fun ps z => (by cases z), fun c q z => (by have z : HO.lst xs = HO.ext _ := z; cases z)⟩
theorem ord_dK {xs : List (Key × V)} : Ord (.dK xs) := ⟨fun ps z => (by cases z), fun c q z => (by have z : HO.dK xs = HO.ext _ := z; cases z)⟩
theorem ord_ins {C dx : Addr} {xs : List (Str × V)} : Ord (.ins C dx xs) := ⟨fun ps z => (by cases z), fun c q z => (by have z : HO.ins C dx xs = HO.ext _ := z; cases z)⟩
theorem tabs_go {T : List (Addr × Str)} {H H' : Hp} (t : LamX.Tabs T H) (h : ∀ b u, H b = some u → ¬ Ord u → H' b = some u) : LamX.Tabs T H' := fun p hp => by
  obtain ⟨ps, h1, h2, h3⟩ := t p hp
  refine ⟨ps, h _ _ h1 (fun z => z.1 ps rfl), h2, fun pos cv hc => ?_⟩
  obtain ⟨c, e, k⟩ := h3 pos cv hc
  exact ⟨c, e, h _ _ k (fun z => z.2 c p.2 rfl)⟩
structure RepH [Tbs] (K : Fg) (ι : Loc) (H : Hp) (h : DH) : Prop where
  nd : ι.ad.Nodup
  len : ι.ad.length = h.length
  obj : ∀ (i : Nat) (o : DO) (a : Addr), h[i]? = some o → ι.ad[i]? = some a → RepO K ι H a o
  dis : ∀ a, a ∈ ι.ad → a ∉ ι.av
  avs : ∀ a, a ∈ ι.av → ∃ u, H a = some u ∧ Ord u
  tbs : LamX.Tabs Tbs.l H
def RepS (K : Fg) (ι : Loc) (H : Hp) (s : SS) (σ : L2.St) : Prop := s.length = σ.length ∧ ∀ (i : Nat) (d : D), s[i]? = some (some d) → ∃ v, σ[i]? = some (some v) ∧ RepV K ι H d v
def RepX (K : Fg) (ι : Loc) (H : Hp) (cls : Value) (dx : Option Addr) (x : Exn) : Prop :=
  (∃ C : Addr, cls = .ref C ∧ PySem.W.nsIn K mainGlobals x.cls = some (some (.ref C))) ∧ ((x.fs = [] ∧ dx = none) ∨ ∃ d ws, dx = some d ∧ H d = some (.xd ws) ∧ d ∉ ι ∧ ws.map (·.1) = x.fs.map (·.1) ∧ RepVs K ι H (x.fs.map (·.2)) (ws.map (·.2)))
section
variable [Tbs] {K : Fg} {ι ι' : Loc} {H H' : Hp} {h : DH}
theorem RepO.some {a : Addr} : ∀ {o : DO}, RepO K ι H a o → ∃ u, H a = some u
  | .lst _, ⟨_, e, _⟩ => ⟨_, e⟩
  | .dK _, ⟨_, e, _⟩ => ⟨_, e⟩
  | .ins _ _, ⟨_, _, e, _⟩ => ⟨_, e⟩
theorem RepO.ord {a : Addr} {u : HO} (hu : H a = Option.some u) {o : DO} (r : RepO K ι H a o) : Ord u := by
  cases o with
  | lst _ => obtain ⟨_, e, _⟩ := r; rw [hu] at e; cases e; exact ord_lst
  | dK _ => obtain ⟨_, e, _⟩ := r; rw [hu] at e; cases e; exact ord_dK
  | ins _ _ => obtain ⟨_, _, e, _⟩ := r; rw [hu] at e; cases e; exact ord_ins
theorem RepO.move {a : Addr} (e : Ext ι H ι' H') (k : H' a = H a) : ∀ {o : DO}, RepO K ι H a o → RepO K ι' H' a o
  | .lst _, ⟨xs, q, r⟩ => ⟨xs, k.trans q, RepVs.ext e _ _ r⟩
  | .dK _, ⟨ws, q, z, r⟩ => ⟨ws, k.trans q, z, RepVs.ext e _ _ r⟩
  | .ins _ _, ⟨dx, ws, q, z, r⟩ => ⟨dx, ws, k.trans q, z, RepVs.ext e _ _ r⟩
theorem RepH.at_ (r : RepH K ι H h) {i : Nat} {a : Addr} (q : ι.ad[i]? = some a) : ∃ o, h[i]? = some o ∧ RepO K ι H a o := by
  have hi : i < ι.ad.length := (List.getElem?_eq_some_iff.mp q).1
  have hi' : i < h.length := by rw [← r.len]; exact hi
  exact ⟨h[i], List.getElem?_eq_getElem hi', r.obj i _ a (List.getElem?_eq_getElem hi') q⟩
theorem RepH.addr (r : RepH K ι H h) {i : Nat} {o : DO} (q : h[i]? = some o) : ∃ a, ι.ad[i]? = some a ∧ RepO K ι H a o := by
  have hi : i < h.length := (List.getElem?_eq_some_iff.mp q).1
  have hi' : i < ι.ad.length := by rw [r.len]; exact hi
  exact ⟨ι.ad[i], List.getElem?_eq_getElem hi', r.obj i o _ q (List.getElem?_eq_getElem hi')⟩
theorem RepH.trk (r : RepH K ι H h) {a : Addr} (z : a ∈ ι) : ∃ u, H a = some u := by
  rcases z with z | z
  · obtain ⟨i, hi⟩ := List.getElem?_of_mem z
    obtain ⟨o, _, q⟩ := r.at_ hi
    exact q.some
  · obtain ⟨u, hu, _⟩ := r.avs a z
    exact ⟨u, hu⟩
theorem RepH.fresh (r : RepH K ι H h) {p : Addr} (hp : H p = none) : p ∉ ι := fun z => by
  obtain ⟨u, hu⟩ := r.trk z
  rw [hp] at hu; cases hu
/-- something new, that is no changing object -/
theorem stay_new {p : Addr} {u : HO} (hp : H p = none) : ∀ a o, H a = some o → (∀ ps, o ≠ .tbl ps) → ∃ o', upd H p u a = some o' ∧ ∀ ps, o' ≠ .tbl ps := fun a o q t =>
  ⟨o, by rw [upd_ne (ne_of_none q hp)]; exact q, t⟩
theorem stay_upd {p : Addr} {u : HO} (hu : ∀ ps, u ≠ .tbl ps) : ∀ a o, H a = some o → (∀ ps, o ≠ .tbl ps) → ∃ o', upd H p u a = some o' ∧ ∀ ps, o' ≠ .tbl ps := fun a o q t => by
  by_cases e : a = p
  · subst e; exact ⟨u, upd_same, hu⟩
  · exact ⟨o, by rw [upd_ne e]; exact q, t⟩
theorem Ext.laid {p : Addr} {u : HO} (hp : H p = none) : Ext ι H ι (upd H p u) :=
  ⟨⟨[], by simp⟩, fun _ q => q, fun _ q => .inl q, fun _ q => .inl q, fun a o q _ _ => by rw [upd_ne (ne_of_none q hp)]; exact q, stay_new hp⟩
theorem RepH.laid (r : RepH K ι H h) {p : Addr} {u : HO} (hp : H p = none) : RepH K ι (upd H p u) h := by
  refine ⟨r.nd, r.len, fun i o a h1 h2 => ?_, r.dis, fun a ha => ?_, tabs_go r.tbs fun b u hb _ => by rw [upd_ne (ne_of_none hb hp)]; exact hb⟩
  · have q := r.obj i o a h1 h2
    obtain ⟨w, hw⟩ := q.some
    exact q.move (Ext.laid hp) (upd_ne (ne_of_none hw hp))
  · obtain ⟨w, hw, ht⟩ := r.avs a ha
    exact ⟨w, by rw [upd_ne (ne_of_none hw hp)]; exact hw, ht⟩
/-- a new changing object -/
theorem Ext.push {p : Addr} {u : HO} (hp : H p = none) : Ext ι H (ι.push p) (upd H p u) :=
  ⟨⟨[p], rfl⟩, fun _ q => q, fun a q => by
    rcases List.mem_append.mp q with q | q
    · exact .inl q
    · have e : a = p := by simpa using q
      subst e; exact .inr (free_of hp), fun _ q => .inl q, fun a o q _ _ => by rw [upd_ne (ne_of_none q hp)]; exact q, stay_new hp⟩
theorem RepH.push (r : RepH K ι H h) {p : Addr} {u : HO} {o : DO} (hp : H p = none) (ro : RepO K (ι.push p) (upd H p u) p o) : RepH K (ι.push p) (upd H p u) (h ++ [o]) := by
  have np := r.fresh hp
  have np1 : p ∉ ι.ad := fun z => np (.inl z)
  have np2 : p ∉ ι.av := fun z => np (.inr z)
  refine ⟨?_, by simp [r.len], fun i o' a h1 h2 => ?_, fun a ha => ?_, fun a ha => ?_, tabs_go r.tbs fun b u hb _ => by rw [upd_ne (ne_of_none hb hp)]; exact hb⟩
  · exact List.nodup_append.mpr ⟨r.nd, by simp, fun a h1 b h2 => by
      have e : b = p := by simpa using h2
      subst e; exact fun z => np1 (z ▸ h1)⟩
  · by_cases hi : i < ι.ad.length
    · rw [List.getElem?_append_left hi] at h2
      rw [List.getElem?_append_left (by rw [← r.len]; exact hi)] at h1
      have q := r.obj i o' a h1 h2
      obtain ⟨w, hw⟩ := q.some
      exact q.move (Ext.push hp) (upd_ne (ne_of_none hw hp))
    · rw [List.getElem?_append_right (by omega)] at h2
      rw [List.getElem?_append_right (by have := r.len; omega)] at h1
      rw [r.len] at h2
      cases e : i - h.length with
      | zero =>
        rw [e] at h1 h2
        have h1 : some o = some o' := by simpa using h1
        have h2 : some p = some a := by simpa using h2
        cases h1; cases h2
        exact ro
      | succ n => rw [e] at h2; simp at h2
  · rcases List.mem_append.mp ha with q | q
    · exact r.dis a q
    · have e : a = p := by simpa using q
      subst e; exact np2
  · obtain ⟨w, hw, ht⟩ := r.avs a ha
    exact ⟨w, by rw [upd_ne (ne_of_none hw hp)]; exact hw, ht⟩
/-- something in the making -/
theorem Ext.with {p : Addr} {u : HO} (hp : H p = none) : Ext ι H (ι.with p) (upd H p u) :=
  ⟨⟨[], by simp⟩, fun _ q => List.mem_cons_of_mem _ q, fun a q => .inl q, fun a q => by
    rcases List.mem_cons.mp q with e | q
    · subst e; exact .inr (free_of hp)
    · exact .inl q, fun a o q _ _ => by rw [upd_ne (ne_of_none q hp)]; exact q, stay_new hp⟩
theorem RepH.with (r : RepH K ι H h) {p : Addr} {u : HO} (hp : H p = none) (hu : Ord u := by first | exact ord_lst | exact ord_dK | exact ord_ins) : RepH K (ι.with p) (upd H p u) h := by
  have np := r.fresh hp
  refine ⟨r.nd, r.len, fun i o a h1 h2 => ?_, fun a ha z => ?_, fun a ha => ?_, tabs_go r.tbs fun b u hb _ => by rw [upd_ne (ne_of_none hb hp)]; exact hb⟩
  · have q := r.obj i o a h1 h2
    obtain ⟨w, hw⟩ := q.some
    exact q.move (Ext.with hp) (upd_ne (ne_of_none hw hp))
  · rcases List.mem_cons.mp z with e | z
    · subst e; exact np (.inl ha)
    · exact r.dis a ha z
  · rcases List.mem_cons.mp ha with e | z
    · subst e; exact ⟨u, upd_same, hu⟩
    · obtain ⟨w, hw, ht⟩ := r.avs a z
      exact ⟨w, by rw [upd_ne (ne_of_none hw hp)]; exact hw, ht⟩
/-- a changing object changes -/
theorem Ext.write {a : Addr} {u : HO} (ha : a ∈ ι.ad) (hu : ∀ ps, u ≠ .tbl ps := by intro ps z; cases z) : Ext ι H ι (upd H a u) :=
  ⟨⟨[], by simp⟩, fun _ q => q, fun _ q => .inl q, fun _ q => .inl q, fun b o q n _ => by rw [upd_ne (show b ≠ a from fun z => n (by rw [z]; exact ha))]; exact q, stay_upd hu⟩
theorem RepH.write (r : RepH K ι H h) {i : Nat} {a : Addr} {u : HO} {o : DO} (ha : ι.ad[i]? = some a) (ro : RepO K ι (upd H a u) a o) : RepH K ι (upd H a u) (h.set i o) := by
  have mem : a ∈ ι.ad := List.mem_of_getElem? ha
  refine ⟨r.nd, by simp [r.len], fun j o' b h1 h2 => ?_, r.dis, fun b hb => ?_, tabs_go r.tbs fun b u' hb n => by
    by_cases e : b = a
    · subst e
      obtain ⟨o0, _, q0⟩ := r.at_ ha
      exact absurd (q0.ord hb) n
    · rw [upd_ne e]; exact hb⟩
  · by_cases hj : j = i
    · subst hj
      rw [ha] at h2; cases h2
      have hi : j < h.length := by rw [← r.len]; exact (List.getElem?_eq_some_iff.mp ha).1
      rw [List.getElem?_set_self hi] at h1
      cases h1
      exact ro
    · rw [List.getElem?_set_ne (Ne.symm hj)] at h1
      have q := r.obj j o' b h1 h2
      have ne : b ≠ a := fun z => by
        subst z
        exact hj (nodup_get r.nd h2 ha)
      exact q.move (Ext.write mem (ro.ord upd_same).1) (upd_ne ne)
  · obtain ⟨w, hw, ht⟩ := r.avs b hb
    have ne : b ≠ a := fun z => r.dis a mem (z ▸ hb)
    exact ⟨w, by rw [upd_ne ne]; exact hw, ht⟩
/-- what is in the making changes; other numberings of the same places -/
structure Subl (ι : Loc) (H : Hp) (ι' : Loc) (H' : Hp) : Prop where
  get : ∀ (i : Nat) (a : Addr), ι.ad[i]? = some a → ι'.ad[i]? = some a
  mem : ∀ a, a ∈ ι' → a ∈ ι
  keep : ∀ a o, H a = some o → a ∉ ι → H' a = some o
mutual
theorem RepV.sub (e : Subl ι H ι' H') : ∀ (d : D) (v : V), RepV K ι H d v → RepV K ι' H' d v
  | .non, v, h => h
  | .bl b, v, h => h
  | .int i, v, h => h
  | .str x, v, h => h
  | .tup ds, v, h => by
    obtain ⟨a, xs, h1, h2, h3⟩ := h
    refine ⟨a, xs, h1, ?_, RepVs.sub e ds xs h3⟩
    rcases h2 with ⟨h2, n⟩ | h2
    · exact .inl ⟨e.keep _ _ h2 n, fun z => n (e.mem _ z)⟩
    · exact .inr h2
  | .lst ds, v, h => by
    obtain ⟨a, xs, h1, ⟨h2, n⟩, h3⟩ := h
    exact ⟨a, xs, h1, ⟨e.keep _ _ h2 n, fun z => n (e.mem _ z)⟩, RepVs.sub e ds xs h3⟩
  | .fls ds, v, h => by
    obtain ⟨a, xs, h1, h2, h3⟩ := h
    refine ⟨a, xs, h1, ?_, RepVs.sub e ds xs h3⟩
    rcases h2 with ⟨h2 | ⟨o, h2⟩, n⟩ | h2
    · exact .inl ⟨.inl (e.keep _ _ h2 n), fun z => n (e.mem _ z)⟩
    · exact .inl ⟨.inr ⟨o, e.keep _ _ h2 n⟩, fun z => n (e.mem _ z)⟩
    · exact .inr h2
  | .ref i, v, h => by
    obtain ⟨a, h1, h2⟩ := h
    exact ⟨a, h1, e.get _ _ h2⟩
  | .opq u, v, h => h
  | .exc x ns ds, v, h => by
    obtain ⟨a, xs, h1, ⟨C, dx, k1, k2, k3, k4, k5⟩, h3⟩ := h
    refine ⟨a, xs, h1, ⟨C, dx, k1, e.keep _ _ k2 k3, fun z => k3 (e.mem _ z), k4, ?_⟩, RepVs.sub e ds xs h3⟩
    rcases k5 with k5 | ⟨d, k5, k6, k7⟩
    · exact .inl k5
    · exact .inr ⟨d, k5, e.keep _ _ k6 k7, fun z => k7 (e.mem _ z)⟩
theorem RepVs.sub (e : Subl ι H ι' H') : ∀ (ds : List D) (xs : List V), RepVs K ι H ds xs → RepVs K ι' H' ds xs
  | [], xs, h => h
  | d :: ds, xs, h => by
    obtain ⟨x, r, h1, h2, h3⟩ := h
    exact ⟨x, r, h1, RepV.sub e d x h2, RepVs.sub e ds r h3⟩
end
theorem RepO.sub {a : Addr} (e : Subl ι H ι' H') (k : H' a = H a) : ∀ {o : DO}, RepO K ι H a o → RepO K ι' H' a o
  | .lst _, ⟨xs, q, r⟩ => ⟨xs, k.trans q, RepVs.sub e _ _ r⟩
  | .dK _, ⟨ws, q, z, r⟩ => ⟨ws, k.trans q, z, RepVs.sub e _ _ r⟩
  | .ins _ _, ⟨dx, ws, q, z, r⟩ => ⟨dx, ws, k.trans q, z, RepVs.sub e _ _ r⟩
theorem Subl.writeA {a : Addr} {u : HO} (ha : a ∈ ι.av) : Subl ι H ι (upd H a u) :=
  ⟨fun _ _ h => h, fun _ h => h, fun b o q n => by rw [upd_ne (show b ≠ a from fun z => n (by rw [z]; exact .inr ha))]; exact q⟩
theorem RepH.writeA (r : RepH K ι H h) {a : Addr} {u : HO} (ha : a ∈ ι.av) (hu : Ord u := by first | exact ord_lst | exact ord_dK | exact ord_ins) : RepH K ι (upd H a u) h := by
  refine ⟨r.nd, r.len, fun j o' b h1 h2 => ?_, r.dis, fun b hb => ?_, tabs_go r.tbs fun b u' hb n => by
    by_cases e : b = a
    · subst e
      obtain ⟨w, hw, ho⟩ := r.avs b ha
      rw [hb] at hw; cases hw
      exact absurd ho n
    · rw [upd_ne e]; exact hb⟩
  · have q := r.obj j o' b h1 h2
    have ne : b ≠ a := fun z => r.dis b (List.mem_of_getElem? h2) (z ▸ ha)
    exact q.sub (Subl.writeA ha) (upd_ne ne)
  · by_cases e : b = a
    · subst e; exact ⟨u, upd_same, hu⟩
    · obtain ⟨w, hw, ht⟩ := r.avs b hb
      exact ⟨w, by rw [upd_ne e]; exact hw, ht⟩
/-- out of the making: nobody's any more .. -/
theorem RepH.out (r : RepH K ι H h) {av : List Addr} (ha : ∀ a, a ∈ av → a ∈ ι.av) : Subl ι H ⟨ι.ad, av⟩ H ∧ RepH K ⟨ι.ad, av⟩ H h := by
  have e : Subl ι H ⟨ι.ad, av⟩ H := ⟨fun _ _ h => h, fun a h => h.elim .inl fun z => .inr (ha a z), fun _ _ h _ => h⟩
  exact ⟨e, r.nd, r.len, fun i o a h1 h2 => (r.obj i o a h1 h2).sub e rfl, fun a h1 h2 => r.dis a h1 (ha a h2), fun a h1 => r.avs a (ha a h1), r.tbs⟩
/-- .. or a changing object -/
theorem RepH.outR (r : RepH K ι H h) {av : List Addr} (ha : ∀ a, a ∈ av → a ∈ ι.av) {p : Addr} (hp : p ∈ ι.av) (np : p ∉ av) {o : DO} (ro : RepO K ι H p o) :
    RepH K ⟨ι.ad ++ [p], av⟩ H (h ++ [o]) := by
  have n1 : p ∉ ι.ad := fun z => r.dis p z hp
  have e : Subl ι H ⟨ι.ad ++ [p], av⟩ H := ⟨fun i a h => by
      show (ι.ad ++ [p])[i]? = some a
      rw [List.getElem?_append_left (List.getElem?_eq_some_iff.mp h).1]; exact h, fun a h => by
      rcases h with h | h
      · rcases List.mem_append.mp h with h | h
        · exact .inl h
        · have e : a = p := by simpa using h
          subst e; exact .inr hp
      · exact .inr (ha a h), fun _ _ h _ => h⟩
  refine ⟨?_, by simp [r.len], fun i o' a h1 h2 => ?_, fun a h1 h2 => ?_, fun a h1 => r.avs a (ha a h1), r.tbs⟩
  · exact List.nodup_append.mpr ⟨r.nd, by simp, fun a h1 b h2 => by
      have e : b = p := by simpa using h2
      subst e; exact fun z => n1 (z ▸ h1)⟩
  · have h2 : (ι.ad ++ [p])[i]? = some a := h2
    by_cases hi : i < ι.ad.length
    · rw [List.getElem?_append_left hi] at h2
      rw [List.getElem?_append_left (by rw [← r.len]; exact hi)] at h1
      exact (r.obj i o' a h1 h2).sub e rfl
    · rw [List.getElem?_append_right (by omega)] at h2
      rw [List.getElem?_append_right (by have := r.len; omega)] at h1
      rw [r.len] at h2
      cases z : i - h.length with
      | zero =>
        rw [z] at h1 h2
        have h1 : some o = some o' := by simpa using h1
        have h2 : some p = some a := by simpa using h2
        cases h1; cases h2
        exact ro.sub e rfl
      | succ n => rw [z] at h2; simp at h2
  · rcases List.mem_append.mp h1 with h1 | h1
    · exact r.dis a h1 (ha a h2)
    · have e : a = p := by simpa using h1
      subst e; exact np h2
theorem RepS.ext {s : SS} {σ : L2.St} (e : Ext ι H ι' H') (r : RepS K ι H s σ) : RepS K ι' H' s σ :=
  ⟨r.1, fun i d q => let ⟨v, h1, h2⟩ := r.2 i d q; ⟨v, h1, RepV.ext e d v h2⟩⟩
theorem RepS.set {s : SS} {σ : L2.St} (r : RepS K ι H s σ) (i : Nat) {d : D} {v : V} (q : RepV K ι H d v) : RepS K ι H (s.set i (some d)) (σ.set i (some v)) := by
  refine ⟨by simp [r.1], fun j d' h1 => ?_⟩
  by_cases hj : j = i
  · subst hj
    by_cases hl : j < s.length
    · rw [List.getElem?_set_self hl] at h1
      cases h1
      exact ⟨v, List.getElem?_set_self (by rw [← r.1]; exact hl), q⟩
    · rw [List.getElem?_eq_none (by simpa using hl)] at h1; cases h1
  · rw [List.getElem?_set_ne (Ne.symm hj)] at h1 ⊢
    exact r.2 j d' h1
theorem RepS.forget {s : SS} {σ : L2.St} (r : RepS K ι H s σ) (i : Nat) : RepS K ι H (s.set i none) (σ.set i none) := by
  refine ⟨by simp [r.1], fun j d' h1 => ?_⟩
  by_cases hj : j = i
  · subst hj
    by_cases hl : j < s.length
    · rw [List.getElem?_set_self hl] at h1; cases h1
    · rw [List.getElem?_eq_none (by simpa using hl)] at h1; cases h1
  · rw [List.getElem?_set_ne (Ne.symm hj)] at h1 ⊢
    exact r.2 j d' h1
theorem RepX.ext {cls : Value} {dx : Option Addr} {x : Exn} (e : Ext ι H ι' H') (r : RepX K ι H cls dx x) : RepX K ι' H' cls dx x := by
  refine ⟨r.1, ?_⟩
  rcases r.2 with q | ⟨d, ws, h1, h2, h3, h4, h5⟩
  · exact .inl q
  · exact .inr ⟨d, ws, h1, e.get' h2 h3, e.out h2 h3, h4, RepVs.ext e _ _ h5⟩
end

/-! ### results -/
inductive Res (α : Type) where
  | ok (a : α) (h : DH)
  | err (x : Exn) (h : DH)
  | bad
abbrev M (α : Type) := SS → DH → Res α
def Res.bind {α β : Type} (r : Res α) (k : α → DH → Res β) : Res β := match r with
  | .ok a h => k a h
  | .err x h => .err x h
  | .bad => .bad
def bnd {α β : Type} (m : M α) (k : α → M β) : M β := fun s h => (m s h).bind fun a h' => k a s h'
def ofO {α : Type} (o : Option α) (h : DH) : Res α := match o with
  | some a => .ok a h
  | none => .bad
@[simp] theorem bind_ok {α β : Type} (a : α) (h : DH) (k : α → DH → Res β) : (Res.ok a h).bind k = k a h := rfl
@[simp] theorem bind_err {α β : Type} (x : Exn) (h : DH) (k : α → DH → Res β) : (Res.err x h : Res α).bind k = .err x h := rfl
@[simp] theorem bind_bad {α β : Type} (k : α → DH → Res β) : (Res.bad : Res α).bind k = .bad := rfl
@[simp] theorem ofO_some {α : Type} (a : α) (h : DH) : ofO (some a) h = .ok a h := rfl
@[simp] theorem ofO_none {α : Type} (h : DH) : ofO (none : Option α) h = .bad := rfl

section
variable [Tbs]
/-- what is wanted behind a result: of what comes, by the relation rel; of what is raised, W -/
def Post {α β : Type} (K : Fg) (W : WX) (rel : Loc → Hp → α → β → Prop) (ι : Loc) (σ : L2.St) (H : Hp) (Q : β → Hp → Prop) : Res α → Prop
  | .ok a h' => ∀ ι' b H', Ext ι H ι' H' → RepH K ι' H' h' → rel ι' H' a b → Q b H'
  | .err x h' => ∀ ι' cls dx H', Ext ι H ι' H' → RepH K ι' H' h' → RepX K ι' H' cls dx x → W cls dx σ H'
  | .bad => False
/-- the reading of a computation -/
def tM {α β : Type} (K : Fg) (W : WX) (rel : Loc → Hp → α → β → Prop) (m : M α) : L2.St → Hp → (β → Hp → Prop) → Prop :=
  fun σ H Q => ∃ ι s h, RepS K ι H s σ ∧ RepH K ι H h ∧ Post K W rel ι σ H Q (m s h)
abbrev relV (K : Fg) : Loc → Hp → D → V → Prop := fun ι H d v => RepV K ι H d v
abbrev relB : Loc → Hp → Bool → Bool → Prop := fun _ _ a b => a = b
abbrev relVs (K : Fg) : Loc → Hp → List D → List V → Prop := fun ι H d v => RepVs K ι H d v
abbrev relO : Loc → Hp → Option Int → Option Int → Prop := fun _ _ a b => a = b

section
variable {α β γ δ : Type} {K : Fg} {W : WX} {rel : Loc → Hp → α → β → Prop} {rel' : Loc → Hp → γ → δ → Prop} {ι ι' : Loc} {σ : L2.St} {H H' : Hp}
theorem Post.ext {Q : β → Hp → Prop} (e : Ext ι H ι' H') : ∀ {r : Res α}, Post K W rel ι σ H Q r → Post K W rel ι' σ H' Q r
  | .ok a h, p => fun ι2 b H2 e2 r q => p ι2 b H2 (e.trans e2) r q
  | .err x h, p => fun ι2 c d H2 e2 r q => p ι2 c d H2 (e.trans e2) r q
  | .bad, p => p
theorem Post.mono {Q Q' : β → Hp → Prop} (hq : ∀ b H', Q b H' → Q' b H') : ∀ {r : Res α}, Post K W rel ι σ H Q r → Post K W rel ι σ H Q' r
  | .ok a h, p => fun ι2 b H2 e2 r q => hq _ _ (p ι2 b H2 e2 r q)
  | .err x h, p => p
  | .bad, p => p
/-- the first part of a computation, then the rest -/
theorem Post.step {r : Res α} {k : α → DH → Res γ} {Q : δ → Hp → Prop} {Q1 : β → Hp → Prop} (p : Post K W rel' ι σ H Q (r.bind k))
    (hq : ∀ a h1 ι1 b H1, Ext ι H ι1 H1 → RepH K ι1 H1 h1 → rel ι1 H1 a b → Post K W rel' ι1 σ H1 Q (k a h1) → Q1 b H1) : Post K W rel ι σ H Q1 r := by
  cases r with
  | ok a h => exact fun ι1 b H1 e r q => hq a h ι1 b H1 e r q (Post.ext e p)
  | err x h => exact p
  | bad => exact p
theorem tM.step {m : M α} {k : α → M γ} {s : SS} {h : DH} {Q : δ → Hp → Prop} {Q1 : β → Hp → Prop} (rs : RepS K ι H s σ) (rh : RepH K ι H h) (p : Post K W rel' ι σ H Q (bnd m k s h))
    (hq : ∀ a h1 ι1 b H1, RepS K ι1 H1 s σ → Ext ι H ι1 H1 → RepH K ι1 H1 h1 → rel ι1 H1 a b → Post K W rel' ι1 σ H1 Q (k a s h1) → Q1 b H1) : tM K W rel m σ H Q1 :=
  ⟨ι, s, h, rs, rh, Post.step p fun a h1 ι1 b H1 e r q p1 => hq a h1 ι1 b H1 (rs.ext e) e r q p1⟩
end
end
end DL
end

section
set_option maxHeartbeats 2000000
namespace DL
open PySem PySem.Spec PyProof.Rows L2
variable [Tbs]

/-! ### reading data -/
/-- the items of a list or a tuple -/
def D.seq (h : DH) : D → Option (List D)
  | .tup ds => some ds
  | .lst ds => some ds
  | .fls ds => some ds
  | .ref i => match h[i]? with
    | some (.lst ds) => some ds
    | _ => none
  | _ => none
/-- .. of a list alone -/
def D.lseq (h : DH) : D → Option (List D)
  | .lst ds => some ds
  | .fls ds => some ds
  | .ref i => match h[i]? with
    | some (.lst ds) => some ds
    | _ => none
  | _ => none
/-- .. of a list that is tracked as it is -/
def D.tseq (h : DH) : D → Option (List D)
  | .lst ds => some ds
  | .ref i => match h[i]? with
    | some (.lst ds) => some ds
    | _ => none
  | _ => none
section
variable {K : Fg} {ι : Loc} {H : Hp} {h : DH}
theorem tseq_rep (rh : RepH K ι H h) : ∀ {d : D} {v : V} {ds : List D}, RepV K ι H d v → d.tseq h = some ds → ∃ a xs, v = .ref a ∧ H a = some (.lst xs) ∧ RepVs K ι H ds xs
  | .lst es, v, ds, r, e => by
    obtain ⟨a, xs, h1, ⟨h2, _⟩, h3⟩ := r
    cases e
    exact ⟨a, xs, h1, h2, h3⟩
  | .ref i, v, ds, r, e => by
    obtain ⟨a, h1, h2⟩ := r
    obtain ⟨o, h3, h4⟩ := rh.at_ h2
    simp only [D.tseq, h3] at e
    cases o with
    | lst es =>
      cases e
      obtain ⟨xs, q, q2⟩ := h4
      exact ⟨a, xs, h1, q, q2⟩
    | dK _ => cases e
    | ins _ _ => cases e
  | .non, _, _, _, e => nomatch e
  | .bl _, _, _, _, e => nomatch e
  | .int _, _, _, _, e => nomatch e
  | .str _, _, _, _, e => nomatch e
  | .tup _, _, _, _, e => nomatch e
  | .fls _, _, _, _, e => nomatch e
  | .opq _, _, _, _, e => nomatch e
  | .exc _ _ _, _, _, _, e => nomatch e
theorem lseq_rep (rh : RepH K ι H h) {d : D} {v : V} {ds : List D} (r : RepV K ι H d v) (e : d.lseq h = some ds) : ∃ a xs, v = .ref a ∧ SqL K H a xs ∧ RepVs K ι H ds xs := by
  cases d with
  | fls es =>
    obtain ⟨a, xs, h1, h2, h3⟩ := r
    cases e
    exact ⟨a, xs, h1, h2.sq, h3⟩
  | lst es =>
    obtain ⟨a, xs, h1, h2, h3⟩ := tseq_rep rh (d := .lst es) r e
    exact ⟨a, xs, h1, .of h2, h3⟩
  | ref i =>
    obtain ⟨a, xs, h1, h2, h3⟩ := tseq_rep rh (d := .ref i) r e
    exact ⟨a, xs, h1, .of h2, h3⟩
  | _ => cases e
theorem tup_rep {ds : List D} {v : V} (r : RepV K ι H (.tup ds) v) : ∃ a xs, v = .ref a ∧ SqT K H a xs ∧ RepVs K ι H ds xs := by
  obtain ⟨a, xs, h1, h2, h3⟩ := r
  exact ⟨a, xs, h1, h2.sq, h3⟩
theorem seq_rep (rh : RepH K ι H h) {d : D} {v : V} {ds : List D} (r : RepV K ι H d v) (e : d.seq h = some ds) : ∃ a xs, v = .ref a ∧ (SqL K H a xs ∨ SqT K H a xs) ∧ RepVs K ι H ds xs := by
  have go : d.lseq h = some ds → ∃ a xs, v = .ref a ∧ (SqL K H a xs ∨ SqT K H a xs) ∧ RepVs K ι H ds xs := fun e => by
    obtain ⟨a, xs, h1, h2, h3⟩ := lseq_rep rh r e
    exact ⟨a, xs, h1, .inl h2, h3⟩
  cases d with
  | tup es =>
    cases e
    obtain ⟨a, xs, h1, h2, h3⟩ := tup_rep r
    exact ⟨a, xs, h1, .inr h2, h3⟩
  | lst _ => exact go e
  | fls _ => exact go e
  | ref _ => exact go e
  | _ => cases e
end

/-! ### the model's own plain data, for == and in -/
mutual
def D.py : D → Option PyData
  | .non => some .none
  | .bl b => some (.bool b)
  | .int i => some (.int i)
  | .str x => some (.str x)
  | .tup ds => (D.pys ds).map .tuple
  | .lst ds => (D.pys ds).map .list
  | .fls ds => (D.pys ds).map .list
  | .ref _ => none
  | .opq _ => none
  | .exc _ _ _ => none
def D.pys : List D → Option (List PyData)
  | [] => some []
  | d :: ds => match D.py d, D.pys ds with
    | some p, some ps => some (p :: ps)
    | _, _ => none
end
def D.pyh (h : DH) : D → Option PyData
  | .ref i => match h[i]? with
    | some (.lst ds) => (D.pys ds).map .list
    | _ => none
  | d => d.py
section
variable {K : Fg} {ι : Loc} {H : Hp} {h : DH}
mutual
theorem py_rep : ∀ (d : D) (v : V) (p : PyData), RepV K ι H d v → d.py = some p → Dp K H v p
  | .non, v, p, r, e => by cases r; cases e; exact .non
  | .bl b, v, p, r, e => by cases r; cases e; exact .bl b
  | .int i, v, p, r, e => by cases r; cases e; exact .int i
  | .str x, v, p, r, e => by cases r; cases e; exact .str x
  | .tup ds, v, p, r, e => by
    obtain ⟨a, xs, rfl, h2, h3⟩ := r
    unfold D.py at e
    cases q : D.pys ds with
    | none => rw [q] at e; cases e
    | some ps =>
      rw [q] at e; cases e
      exact .tup h2.sq (pys_rep ds xs ps h3 q)
  | .lst ds, v, p, r, e => by
    obtain ⟨a, xs, rfl, ⟨h2, _⟩, h3⟩ := r
    unfold D.py at e
    cases q : D.pys ds with
    | none => rw [q] at e; cases e
    | some ps =>
      rw [q] at e; cases e
      exact .lst (.of h2) (pys_rep ds xs ps h3 q)
  | .fls ds, v, p, r, e => by
    obtain ⟨a, xs, rfl, h2, h3⟩ := r
    unfold D.py at e
    cases q : D.pys ds with
    | none => rw [q] at e; cases e
    | some ps =>
      rw [q] at e; cases e
      exact .lst h2.sq (pys_rep ds xs ps h3 q)
  | .ref _, v, p, r, e => nomatch e
  | .opq _, v, p, r, e => nomatch e
  | .exc _ _ _, v, p, r, e => nomatch e
theorem pys_rep : ∀ (ds : List D) (xs : List V) (ps : List PyData), RepVs K ι H ds xs → D.pys ds = some ps → DpAll K H xs ps
  | [], xs, ps, r, e => by
    have r : xs = [] := r
    subst r; cases e; exact .nil
  | d :: ds, xs, ps, r, e => by
    obtain ⟨x, t, rfl, h2, h3⟩ := r
    unfold D.pys at e
    cases q1 : D.py d with
    | none => rw [q1] at e; cases e
    | some p =>
      cases q2 : D.pys ds with
      | none => rw [q1, q2] at e; cases e
      | some qs =>
        rw [q1, q2] at e; cases e
        exact .cons (py_rep d x p h2 q1) (pys_rep ds t qs h3 q2)
end
theorem pyh_rep (rh : RepH K ι H h) {d : D} {v : V} {p : PyData} (r : RepV K ι H d v) (e : d.pyh h = some p) : Dp K H v p := by
  cases d with
  | ref i =>
    obtain ⟨a, rfl, h2⟩ := r
    obtain ⟨o, h3, h4⟩ := rh.at_ h2
    simp only [D.pyh, h3] at e
    cases o with
    | lst es =>
      obtain ⟨xs, q, q2⟩ := h4
      have e : (D.pys es).map PyData.list = some p := e
      cases q3 : D.pys es with
      | none => rw [q3] at e; cases e
      | some ps =>
        rw [q3] at e; cases e
        exact .lst (.of q) (pys_rep es xs ps q2 q3)
    | dK _ => cases e
    | ins _ _ => cases e
  | _ => exact py_rep _ v p r e
end

/-! ### operators on two values -/
abbrev F2 := DH → D → D → Option D
/-- what f gives of data, the reading r gives of values -/
def Snd2 (K : Fg) (f : F2) (r : R2) : Prop := ∀ (ι : Loc) (H : Hp) (h : DH) (x y : V) (dx dy z : D) (Q : VK), RepH K ι H h → RepV K ι H dx x → RepV K ι H dy y → f h dx dy = some z →
  (∀ v ι' H', Ext ι H ι' H' → RepH K ι' H' h → RepV K ι' H' z v → Q v H') → r x y H Q
def fOr (f g : F2) : F2 := fun h x y => match f h x y with
  | some z => some z
  | none => g h x y
theorem Snd2.or {K : Fg} {f g : F2} {r q : R2} (a : Snd2 K f r) (b : Snd2 K g q) : Snd2 K (fOr f g) (fun x y H Q => r x y H Q ∨ q x y H Q) := by
  intro ι H h x y dx dy z Q rh rx ry e hq
  unfold fOr at e
  cases e1 : f h dx dy with
  | some w =>
    rw [e1] at e; cases e
    exact .inl (a ι H h x y dx dy _ Q rh rx ry e1 hq)
  | none =>
    rw [e1] at e
    exact .inr (b ι H h x y dx dy _ Q rh rx ry e hq)
/-- on two ints -/
def fI (C : Int → Int → Prop) [∀ i j, Decidable (C i j)] (g : Int → Int → D) : F2 := fun _ x y => match x, y with
  | .int i, .int j => if C i j then some (g i j) else none
  | _, _ => none
def fI0 (g : Int → Int → D) : F2 := fun _ x y => match x, y with
  | .int i, .int j => some (g i j)
  | _, _ => none
theorem snd_I {K : Fg} {C : Int → Int → Prop} [∀ i j, Decidable (C i j)] {g : Int → Int → D} {gv : Int → Int → V} (hg : ∀ ι H i j, RepV K ι H (g i j) (gv i j)) : Snd2 K (fI C g) (rI C gv) := by
  intro ι H h x y dx dy z Q rh rx ry e hq
  unfold fI at e
  split at e
  · rename_i i j
    cases rx; cases ry
    split at e
    · rename_i hc
      cases e
      exact ⟨i, j, rfl, rfl, hc, hq _ ι H (.refl _ _) rh (hg ι H i j)⟩
    · cases e
  · cases e
theorem snd_I0 {K : Fg} {g : Int → Int → D} {gv : Int → Int → V} (hg : ∀ ι H i j, RepV K ι H (g i j) (gv i j)) : Snd2 K (fI0 g) (rI0 gv) := by
  intro ι H h x y dx dy z Q rh rx ry e hq
  unfold fI0 at e
  split at e
  · rename_i i j
    cases rx; cases ry
    cases e
    exact ⟨i, j, rfl, rfl, hq _ ι H (.refl _ _) rh (hg ι H i j)⟩
  · cases e
instance (i j : Int) : Decidable (CMul i j) := by unfold CMul; infer_instance
instance (i j : Int) : Decidable (CMulW i j) := by unfold CMulW; infer_instance
instance (i j : Int) : Decidable (CDiv i j) := by unfold CDiv; infer_instance
instance (i j : Int) : Decidable (CDivW i j) := by unfold CDivW; infer_instance
instance (i j : Int) : Decidable (CPow i j) := by unfold CPow; infer_instance

def fAddS : F2 := fun _ x y => match x, y with
  | .str a, .str b => if a.length + b.length ≤ sizeLine then some (.str (a ++ b)) else none
  | _, _ => none
def fAddT : F2 := fun _ x y => match x, y with
  | .tup a, .tup b => if a.length + b.length ≤ sizeLine then some (.tup (a ++ b)) else none
  | _, _ => none
theorem snd_addS {K : Fg} : Snd2 K fAddS (fun x y H Q => ∃ i j, x = .str i ∧ y = .str j ∧ i.length + j.length ≤ sizeLine ∧ Q (.str (i ++ j)) H) := by
  intro ι H h x y dx dy z Q rh rx ry e hq
  unfold fAddS at e
  split at e
  · rename_i i j
    cases rx; cases ry
    split at e
    · rename_i hc
      cases e
      exact ⟨i, j, rfl, rfl, hc, hq _ ι H (.refl _ _) rh rfl⟩
    · cases e
  · cases e
theorem snd_addT {K : Fg} : Snd2 K fAddT (rCatA K) := by
  intro ι H h x y dx dy z Q rh rx ry e hq
  unfold fAddT at e
  split at e
  · rename_i xs ys
    split at e
    · rename_i hc
      cases e
      obtain ⟨a, vs, rfl, h1, h2⟩ := id rx
      obtain ⟨b, ws, rfl, h3, h4⟩ := id ry
      have l1 := h2.length
      have l2 := h4.length
      refine ⟨a, b, vs, ws, rfl, rfl, h1.sq, h3.sq, by omega, fun e0 => ?_, fun _ e0 => ?_, fun _ _ p hp => ?_⟩
      · subst e0
        have z0 : xs = [] := List.eq_nil_of_length_eq_zero l1
        subst z0
        exact hq _ ι H (.refl _ _) rh ry
      · subst e0
        have z0 : ys = [] := List.eq_nil_of_length_eq_zero l2
        subst z0
        rw [List.append_nil] at hq
        exact hq _ ι H (.refl _ _) rh rx
      · refine hq _ ι _ (.laid hp) (rh.laid hp) ⟨p, _, rfl, .inl ⟨upd_same, rh.fresh hp⟩, ?_⟩
        exact (RepVs.ext (.laid hp) _ _ h2).append (RepVs.ext (.laid hp) _ _ h4)
    · cases e
  · cases e
/-- n + True -/
def fAddIB : F2 := fun _ x y => match x, y with
  | .int i, .bl k => some (.int (i + b2i k))
  | _, _ => none
theorem snd_addIB {K : Fg} : Snd2 K fAddIB (fun x y H Q => ∃ i k, x = .int i ∧ y = .bl k ∧ Q (.int (i + b2i k)) H) := by
  intro ι H h x y dx dy z Q rh rx ry e hq
  unfold fAddIB at e
  split at e
  · rename_i i k
    cases rx; cases ry; cases e
    exact ⟨i, k, rfl, rfl, hq _ ι H (.refl _ _) rh rfl⟩
  · cases e
theorem RepVs.rep {K : Fg} {ι : Loc} {H : Hp} {ds : List D} {xs : List V} (h : RepVs K ι H ds xs) : ∀ k : Nat, RepVs K ι H (List.replicate k ds).flatten (List.replicate k xs).flatten
  | 0 => rfl
  | k + 1 => by
    rw [List.replicate_succ, List.replicate_succ, List.flatten_cons, List.flatten_cons]
    exact h.append (RepVs.rep h k)
/-- two lists, a list so many times: a new list -/
def fCatL : F2 := fun h x y => match x.tseq h, y.tseq h with
  | some a, some b => if a.length + b.length ≤ sizeLine then some (.lst (a ++ b)) else none
  | _, _ => none
theorem snd_catL {K : Fg} : Snd2 K fCatL rCat := by
  intro ι H h x y dx dy z Q rh rx ry e hq
  unfold fCatL at e
  split at e
  · rename_i xs ys e1 e2
    split at e
    · rename_i hz
      cases e
      obtain ⟨q, vs, rfl, k1, k2⟩ := tseq_rep rh rx e1
      obtain ⟨q', ws, rfl, k3, k4⟩ := tseq_rep rh ry e2
      have l1 := k2.length
      have l2 := k4.length
      exact ⟨q, q', vs, ws, rfl, rfl, k1, k3, by omega, fun p hp => hq _ ι _ (.laid hp) (rh.laid hp) ⟨p, _, rfl, ⟨upd_same, rh.fresh hp⟩, RepVs.ext (.laid hp) _ _ (k2.append k4)⟩⟩
    · cases e
  · cases e
def fRepL : F2 := fun h x y => match x.tseq h, y with
  | some xs, .int k => if -(2 ^ 63) ≤ k ∧ k < 2 ^ 63 ∧ xs.length * k.toNat ≤ sizeLine then some (.lst (List.replicate k.toNat xs).flatten) else none
  | _, _ => none
theorem snd_repL {K : Fg} : Snd2 K fRepL rRep := by
  intro ι H h x y dx dy z Q rh rx ry e hq
  unfold fRepL at e
  split at e
  · rename_i xs k e1
    cases ry
    split at e
    · rename_i hz
      cases e
      obtain ⟨q, vs, rfl, k1, k2⟩ := tseq_rep rh rx e1
      have l1 := k2.length
      exact ⟨q, k, vs, rfl, rfl, k1, hz.1, hz.2.1, by rw [← l1]; exact hz.2.2, fun p hp => hq _ ι _ (.laid hp) (rh.laid hp) ⟨p, _, rfl, ⟨upd_same, rh.fresh hp⟩, RepVs.ext (.laid hp) _ _ (k2.rep _)⟩⟩
    · cases e
  · cases e
def addD : F2 := fOr (fI0 fun i j => .int (i + j)) (fOr fAddS (fOr fAddT (fOr fAddIB fCatL)))
def subD : F2 := fI0 fun i j => .int (i - j)
def mulD : F2 := fOr (fI CMul fun i j => .int (i * j)) (fOr (fI CMulW fun i j => .int (i * j)) fRepL)
def divD : F2 := fOr (fI CDiv fun i j => .int (i / j)) (fI CDivW fun i j => .int (i / j))
def modD : F2 := fI (fun _ j => 0 < j) fun i j => .int (i % j)
def powD : F2 := fI CPow fun i j => .int (i ^ j.toNat)
def shlD : F2 := fI CPow fun i j => .int (i * 2 ^ j.toNat)
def shrD : F2 := fI (fun _ j => 0 ≤ j) fun i j => .int (i / 2 ^ j.toNat)
def andD : F2 := fI0 fun i j => .int (Builtin.bitAnd i j)
def orD : F2 := fI0 fun i j => .int (Builtin.bitOr i j)
def xorD : F2 := fI0 fun i j => .int (Builtin.bitXor i j)
def binD : Operator → F2
  | .Add => addD
  | .Sub => subD
  | .Mult => mulD
  | .FloorDiv => divD
  | .Mod => modD
  | .Pow => powD
  | .LShift => shlD
  | .RShift => shrD
  | .BitAnd => andD
  | .BitOr => orD
  | .BitXor => xorD
  | _ => fun _ _ _ => none
theorem bin_ok (X : Cx) (op : Operator) : ∃ r, OpR X (binaryOp op) r ∧ Snd2 X.K (binD op) r := by
  have none_ : ∀ op', ∃ r, OpR X (binaryOp op') r ∧ Snd2 X.K (fun _ _ _ => none) r := fun op' => ⟨fun _ _ _ _ => False, fun _ _ _ _ _ _ _ _ _ _ _ _ h => h.elim, fun _ _ _ _ _ _ _ _ _ _ _ _ e _ => nomatch e⟩
  cases op with
  | Add => exact ⟨_, op_add.or (op_add_str.or (op_catA.or (op_add_ib.or op_cat))), (snd_I0 (by intros; rfl)).or (snd_addS.or (snd_addT.or (snd_addIB.or snd_catL)))⟩
  | Sub => exact ⟨_, op_sub, snd_I0 (by intros; rfl)⟩
  | Mult => exact ⟨_, op_mul.or (op_mulW.or op_rep), (snd_I (by intros; rfl)).or ((snd_I (by intros; rfl)).or snd_repL)⟩
  | FloorDiv => exact ⟨_, op_fdiv.or op_fdivW, (snd_I (by intros; rfl)).or (snd_I (by intros; rfl))⟩
  | Mod => exact ⟨_, op_mod, snd_I (by intros; rfl)⟩
  | Pow => exact ⟨_, op_pow, snd_I (by intros; rfl)⟩
  | LShift => exact ⟨_, op_shl, snd_I (by intros; rfl)⟩
  | RShift => exact ⟨_, op_shr, snd_I (by intros; rfl)⟩
  | BitAnd => exact ⟨_, op_and, snd_I0 (by intros; rfl)⟩
  | BitOr => exact ⟨_, op_or, snd_I0 (by intros; rfl)⟩
  | BitXor => exact ⟨_, op_xor, snd_I0 (by intros; rfl)⟩
  | MatMult => exact none_ _
  | Div => exact none_ _

/-! ### comparisons -/
def fEq : F2 := fun h x y => match x.pyh h, y.pyh h with
  | some a, some b => if SeqAt.shaped a = true ∧ SeqAt.shaped b = true then some (.bl (PyData.eqv a b)) else none
  | _, _ => none
def fNe : F2 := fun h x y => match x.pyh h, y.pyh h with
  | some a, some b => if SeqAt.shaped a = true ∧ SeqAt.shaped b = true then some (.bl (!PyData.eqv a b)) else none
  | _, _ => none
theorem snd_eq {K : Fg} : Snd2 K fEq (rEqD K) := by
  intro ι H h x y dx dy z Q rh rx ry e hq
  unfold fEq at e
  split at e
  · rename_i a b e1 e2
    split at e
    · rename_i hc
      cases e
      exact ⟨a, b, pyh_rep rh rx e1, pyh_rep rh ry e2, hc.1, hc.2, hq _ ι H (.refl _ _) rh rfl⟩
    · cases e
  · cases e
theorem snd_ne {K : Fg} : Snd2 K fNe (rNeD K) := by
  intro ι H h x y dx dy z Q rh rx ry e hq
  unfold fNe at e
  split at e
  · rename_i a b e1 e2
    split at e
    · rename_i hc
      cases e
      exact ⟨a, b, pyh_rep rh rx e1, pyh_rep rh ry e2, hc.1, hc.2, hq _ ι H (.refl _ _) rh rfl⟩
    · cases e
  · cases e
def fLtS : F2 := fun _ x y => match x, y with
  | .str a, .str b => some (.bl (decide (a.cps.toList < b.cps.toList)))
  | _, _ => none
theorem snd_ltS {K : Fg} : Snd2 K fLtS (fun x y H Q => ∃ i j, x = .str i ∧ y = .str j ∧ Q (.bl (decide (i.cps.toList < j.cps.toList))) H) := by
  intro ι H h x y dx dy z Q rh rx ry e hq
  unfold fLtS at e
  split at e
  · rename_i i j
    cases rx; cases ry; cases e
    exact ⟨i, j, rfl, rfl, hq _ ι H (.refl _ _) rh rfl⟩
  · cases e
/-- is None, is not None -/
def D.isNon : D → Bool
  | .non => true
  | _ => false
/-- what can't be None -/
def D.sure : D → Bool
  | .opq _ => false
  | _ => true
theorem isNon_rep {K : Fg} {ι : Loc} {H : Hp} : ∀ {d : D} {v : V}, RepV K ι H d v → d.sure = true → decide (v = .non) = d.isNon
  | .non, v, r, _ => by cases r; rfl
  | .bl b, v, r, _ => by cases r; rfl
  | .int i, v, r, _ => by cases r; rfl
  | .str x, v, r, _ => by cases r; rfl
  | .tup ds, v, ⟨a, xs, e, _⟩, _ => by subst e; rfl
  | .lst ds, v, ⟨a, xs, e, _⟩, _ => by subst e; rfl
  | .fls ds, v, ⟨a, xs, e, _⟩, _ => by subst e; rfl
  | .ref i, v, ⟨a, e, _⟩, _ => by subst e; rfl
  | .exc _ _ _, v, ⟨a, xs, e, _⟩, _ => by subst e; rfl
def fIs : F2 := fun _ x y => match y with
  | .non => if x.sure = true then some (.bl x.isNon) else none
  | _ => none
def fIsNot : F2 := fun _ x y => match y with
  | .non => if x.sure = true then some (.bl (!x.isNon)) else none
  | _ => none
theorem snd_is {K : Fg} : Snd2 K fIs (fun x y H Q => y = .non ∧ Q (.bl (decide (x = .non))) H) := by
  intro ι H h x y dx dy z Q rh rx ry e hq
  unfold fIs at e
  split at e
  · split at e
    · rename_i hs
      cases ry; cases e
      refine ⟨rfl, ?_⟩
      rw [isNon_rep rx hs]
      exact hq _ ι H (.refl _ _) rh rfl
    · cases e
  · cases e
theorem snd_isnot {K : Fg} : Snd2 K fIsNot (fun x y H Q => y = .non ∧ Q (.bl (!decide (x = .non))) H) := by
  intro ι H h x y dx dy z Q rh rx ry e hq
  unfold fIsNot at e
  split at e
  · split at e
    · rename_i hs
      cases ry; cases e
      refine ⟨rfl, ?_⟩
      rw [isNon_rep rx hs]
      exact hq _ ι H (.refl _ _) rh rfl
    · cases e
  · cases e
/-- a flat value -/
def D.flat : D → Option V
  | .non => some .non
  | .bl b => some (.bl b)
  | .int i => some (.int i)
  | .str x => some (.str x)
  | _ => none
def D.flats : List D → Option (List V)
  | [] => some []
  | d :: ds => match d.flat, D.flats ds with
    | some v, some vs => some (v :: vs)
    | _, _ => none
theorem flat_rep {K : Fg} {ι : Loc} {H : Hp} : ∀ {d : D} {v w : V}, RepV K ι H d v → d.flat = some w → v = w ∧ flatV w = true
  | .non, v, w, r, e => by cases r; cases e; exact ⟨rfl, rfl⟩
  | .bl b, v, w, r, e => by cases r; cases e; exact ⟨rfl, rfl⟩
  | .int i, v, w, r, e => by cases r; cases e; exact ⟨rfl, rfl⟩
  | .str x, v, w, r, e => by cases r; cases e; exact ⟨rfl, rfl⟩
  | .tup _, _, _, _, e => nomatch e
  | .lst _, _, _, _, e => nomatch e
  | .fls _, _, _, _, e => nomatch e
  | .ref _, _, _, _, e => nomatch e
  | .opq _, _, _, _, e => nomatch e
  | .exc _ _ _, _, _, _, e => nomatch e
theorem flats_rep {K : Fg} {ι : Loc} {H : Hp} : ∀ {ds : List D} {vs ws : List V}, RepVs K ι H ds vs → D.flats ds = some ws → vs = ws ∧ ws.all flatV = true
  | [], vs, ws, r, e => by
    have r : vs = [] := r
    subst r; cases e; exact ⟨rfl, rfl⟩
  | d :: ds, vs, ws, r, e => by
    obtain ⟨x, t, rfl, h2, h3⟩ := r
    unfold D.flats at e
    cases q1 : d.flat with
    | none => rw [q1] at e; cases e
    | some p =>
      cases q2 : D.flats ds with
      | none => rw [q1, q2] at e; cases e
      | some qs =>
        rw [q1, q2] at e; cases e
        obtain ⟨e1, f1⟩ := flat_rep h2 q1
        obtain ⟨e2, f2⟩ := flats_rep h3 q2
        exact ⟨by rw [e1, e2], by rw [List.all_cons, f1, f2]; rfl⟩
/-- x in a tuple, a list of flat things -/
def inSeq (h : DH) (x y : D) : Option Bool := match x.flat, y.seq h with
  | some w, some ds => match D.flats ds with
    | some ws => some (inV w ws)
    | none => none
  | _, _ => none
def fIn : F2 := fun h x y => (inSeq h x y).map .bl
def fNotIn : F2 := fun h x y => (inSeq h x y).map fun b => .bl (!b)
theorem inSeq_rep {K : Fg} {ι : Loc} {H : Hp} {h : DH} {x y : V} {dx dy : D} {b : Bool} (rh : RepH K ι H h) (rx : RepV K ι H dx x) (ry : RepV K ι H dy y) (e : inSeq h dx dy = some b) :
    ∃ p xs, y = .ref p ∧ (SqL K H p xs ∨ SqT K H p xs) ∧ flatV x = true ∧ xs.all flatV = true ∧ inV x xs = b := by
  unfold inSeq at e
  split at e
  · rename_i w ds e1 e2
    split at e
    · rename_i ws e3
      cases e
      obtain ⟨a, xs, h1, h2, h3⟩ := seq_rep rh ry e2
      obtain ⟨e4, f4⟩ := flat_rep rx e1
      obtain ⟨e5, f5⟩ := flats_rep h3 e3
      subst e4 e5
      exact ⟨a, xs, h1, h2, f4, f5, rfl⟩
    · cases e
  · cases e
theorem snd_in {K : Fg} : Snd2 K fIn (rIn K false) := by
  intro ι H h x y dx dy z Q rh rx ry e hq
  unfold fIn at e
  cases q : inSeq h dx dy with
  | none => rw [q] at e; cases e
  | some b =>
    rw [q] at e; cases e
    obtain ⟨p, xs, h1, h2, h3, h4, h5⟩ := inSeq_rep rh rx ry q
    refine ⟨p, xs, h1, h2, h3, h4, ?_⟩
    rw [h5]
    exact hq _ ι H (.refl _ _) rh rfl
theorem snd_notin {K : Fg} : Snd2 K fNotIn (rIn K true) := by
  intro ι H h x y dx dy z Q rh rx ry e hq
  unfold fNotIn at e
  cases q : inSeq h dx dy with
  | none => rw [q] at e; cases e
  | some b =>
    rw [q] at e; cases e
    obtain ⟨p, xs, h1, h2, h3, h4, h5⟩ := inSeq_rep rh rx ry q
    refine ⟨p, xs, h1, h2, h3, h4, ?_⟩
    rw [h5]
    exact hq _ ι H (.refl _ _) rh rfl
/-- one sign in a text -/
def inStr (x y : D) : Option Bool := match x, y with
  | .str a, .str b => match a.cps.toList with
    | [c] => some (decide (c ∈ b.cps.toList))
    | _ => none
  | _, _ => none
theorem inStr_shape {x y : D} {k : Bool} (e : inStr x y = some k) : ∃ (c : Nat) (z : Str), x = .str ⟨#[c]⟩ ∧ y = .str z ∧ k = decide (c ∈ z.cps.toList) := by
  unfold inStr at e
  split at e
  · rename_i a b
    split at e
    · rename_i c hc
      cases e
      refine ⟨c, b, ?_, rfl, rfl⟩
      have q : a = ⟨#[c]⟩ := Str.ext' (Array.toList_inj.mp (by rw [hc]))
      rw [q]
    · cases e
  · cases e
def fInS : F2 := fun _ x y => (inStr x y).map .bl
def fNotInS : F2 := fun _ x y => (inStr x y).map fun b => .bl (!b)
theorem snd_inS {K : Fg} : Snd2 K fInS (fun x y H Q => ∃ (c : Nat) (z : Str), x = .str ⟨#[c]⟩ ∧ y = .str z ∧ Q (.bl (decide (c ∈ z.cps.toList))) H) := by
  intro ι H h x y dx dy z Q rh rx ry e hq
  unfold fInS at e
  cases q : inStr dx dy with
  | none => rw [q] at e; cases e
  | some b =>
    rw [q] at e; cases e
    obtain ⟨c, z, rfl, rfl, rfl⟩ := inStr_shape q
    cases rx; cases ry
    exact ⟨c, z, rfl, rfl, hq _ ι H (.refl _ _) rh rfl⟩
theorem snd_notinS {K : Fg} : Snd2 K fNotInS (fun x y H Q => ∃ (c : Nat) (z : Str), x = .str ⟨#[c]⟩ ∧ y = .str z ∧ Q (.bl (!decide (c ∈ z.cps.toList))) H) := by
  intro ι H h x y dx dy z Q rh rx ry e hq
  unfold fNotInS at e
  cases q : inStr dx dy with
  | none => rw [q] at e; cases e
  | some b =>
    rw [q] at e; cases e
    obtain ⟨c, z, rfl, rfl, rfl⟩ := inStr_shape q
    cases rx; cases ry
    exact ⟨c, z, rfl, rfl, hq _ ι H (.refl _ _) rh rfl⟩
/-- deep: x in a list of data -/
def inDeep (h : DH) (x y : D) : Option Bool := match x.pyh h, y.pyh h with
  | some d, some (.list ds) => if SeqAt.shaped d = true ∧ SeqAt.shaped (.list ds) = true then some (ds.any fun z => PyData.eqv z d) else none
  | _, _ => none
def fInD : F2 := fun h x y => (inDeep h x y).map .bl
def fNotInD : F2 := fun h x y => (inDeep h x y).map fun b => .bl (!b)
theorem inDeep_rep {K : Fg} {ι : Loc} {H : Hp} {h : DH} {x y : V} {dx dy : D} {b : Bool} (rh : RepH K ι H h) (rx : RepV K ι H dx x) (ry : RepV K ι H dy y) (e : inDeep h dx dy = some b) :
    ∃ d ds, Dp K H x d ∧ Dp K H y (.list ds) ∧ SeqAt.shaped d = true ∧ SeqAt.shaped (.list ds) = true ∧ (ds.any fun z => PyData.eqv z d) = b := by
  unfold inDeep at e
  split at e
  · rename_i d ds e1 e2
    split at e
    · rename_i hc
      cases e
      exact ⟨d, ds, pyh_rep rh rx e1, pyh_rep rh ry e2, hc.1, hc.2, rfl⟩
    · cases e
  · cases e
theorem snd_inD {K : Fg} : Snd2 K fInD (rInD K) := by
  intro ι H h x y dx dy z Q rh rx ry e hq
  unfold fInD at e
  cases q : inDeep h dx dy with
  | none => rw [q] at e; cases e
  | some b =>
    rw [q] at e; cases e
    obtain ⟨d, ds, h1, h2, h3, h4, h5⟩ := inDeep_rep rh rx ry q
    refine ⟨d, ds, h1, h2, h3, h4, ?_⟩
    rw [h5]
    exact hq _ ι H (.refl _ _) rh rfl
theorem snd_notinD {K : Fg} : Snd2 K fNotInD (rNotInD K) := by
  intro ι H h x y dx dy z Q rh rx ry e hq
  unfold fNotInD at e
  cases q : inDeep h dx dy with
  | none => rw [q] at e; cases e
  | some b =>
    rw [q] at e; cases e
    obtain ⟨d, ds, h1, h2, h3, h4, h5⟩ := inDeep_rep rh rx ry q
    refine ⟨d, ds, h1, h2, h3, h4, ?_⟩
    rw [h5]
    exact hq _ ι H (.refl _ _) rh rfl
/-- k in d -/
def D.dict (h : DH) : D → Option (List (Key × D))
  | .ref i => match h[i]? with
    | some (.dK kvs) => some kvs
    | _ => none
  | _ => none
def D.key : D → Option Key
  | .int i => some (.inl i)
  | .str x => some (.inr x)
  | _ => none
def dLook (kvs : List (Key × D)) (k : Key) : Option D := (kvs.find? fun p => decide (p.1 = k)).map (·.2)
theorem key_rep {K : Fg} {ι : Loc} {H : Hp} : ∀ {d : D} {v : V} {k : Key}, RepV K ι H d v → d.key = some k → v = kV k
  | .int i, v, k, r, e => by cases r; cases e; rfl
  | .str x, v, k, r, e => by cases r; cases e; rfl
  | .non, _, _, _, e => nomatch e
  | .bl _, _, _, _, e => nomatch e
  | .tup _, _, _, _, e => nomatch e
  | .lst _, _, _, _, e => nomatch e
  | .fls _, _, _, _, e => nomatch e
  | .ref _, _, _, _, e => nomatch e
  | .opq _, _, _, _, e => nomatch e
  | .exc _ _ _, _, _, _, e => nomatch e
theorem dict_rep {K : Fg} {ι : Loc} {H : Hp} {h : DH} (rh : RepH K ι H h) {d : D} {v : V} {kvs : List (Key × D)} (r : RepV K ι H d v) (e : d.dict h = some kvs) :
    ∃ (i : Nat) (a : Addr) (ws : List (Key × V)), d = .ref i ∧ ι.ad[i]? = some a ∧ v = .ref a ∧ h[i]? = some (.dK kvs) ∧ H a = some (.dK ws) ∧ ws.map (·.1) = kvs.map (·.1) ∧ RepVs K ι H (kvs.map (·.2)) (ws.map (·.2)) := by
  cases d with
  | ref i =>
    obtain ⟨a, h1, h2⟩ := r
    obtain ⟨o, h3, h4⟩ := rh.at_ h2
    simp only [D.dict, h3] at e
    cases o with
    | dK es =>
      cases e
      obtain ⟨ws, q, q2, q3⟩ := h4
      exact ⟨i, a, ws, rfl, h2, h1, h3, q, q2, q3⟩
    | lst _ => cases e
    | ins _ _ => cases e
  | _ => cases e
end DL
end

section
set_option maxHeartbeats 2000000
namespace DL
open PySem PySem.Spec PyProof.Rows L2
variable [Tbs]

/-! ### the operators of comparison -/
theorem or_in {X : Cx} (hu : X.A.units + 1 < cLine) : OpR X (compareOp .In) (fun x y H Q => ∃ a o, y = .ref a ∧ DGet H a x o ∧ Q (.bl o.isSome) H) := by
  intro pins s σ H x y v u Q I rx ry h
  obtain ⟨a, o, rfl, g, q⟩ := h
  obtain rfl : u = Value.ref a := ry
  exact d_in hu I g rx fun s3 I3 => ⟨.bl o.isSome, H, I3, rfl, q⟩
theorem or_notin {X : Cx} (hu : X.A.units + 1 < cLine) : OpR X (compareOp .NotIn) (fun x y H Q => ∃ a o, y = .ref a ∧ DGet H a x o ∧ Q (.bl (!o.isSome)) H) := by
  intro pins s σ H x y v u Q I rx ry h
  obtain ⟨a, o, rfl, g, q⟩ := h
  obtain rfl : u = Value.ref a := ry
  exact d_notIn hu I g rx fun s3 I3 => ⟨.bl (!o.isSome), H, I3, rfl, q⟩
def fInK : F2 := fun h x y => match x.key, y.dict h with
  | some k, some kvs => some (.bl (dLook kvs k).isSome)
  | _, _ => none
def fNotInK : F2 := fun h x y => match x.key, y.dict h with
  | some k, some kvs => some (.bl (!(dLook kvs k).isSome))
  | _, _ => none
theorem dLook_nil {α : Type} (k : Key) : (([] : List (Key × α)).find? fun p => decide (p.1 = k)) = none := rfl
theorem dict_look {K : Fg} {ι : Loc} {H : Hp} (k : Key) : ∀ {kvs : List (Key × D)} {ws : List (Key × V)}, ws.map (·.1) = kvs.map (·.1) → RepVs K ι H (kvs.map (·.2)) (ws.map (·.2)) →
    match dLook kvs k with
    | some d => ∃ v, valV ws k = some v ∧ RepV K ι H d v
    | none => valV ws k = none
  | [], ws, e, r => by
    have z : ws = [] := by simpa using e
    subst z
    show valV ([] : List (Key × V)) k = none
    rfl
  | (k', d') :: kvs, ws, e, r => by
    cases ws with
    | nil => simp at e
    | cons w ws =>
      obtain ⟨k2, v2⟩ := w
      simp only [List.map_cons, List.cons.injEq] at e
      obtain ⟨e1, e2⟩ := e
      subst e1
      obtain ⟨x, t, ex, h2, h3⟩ := r
      simp only [List.map_cons, List.cons.injEq] at ex
      obtain ⟨rfl, rfl⟩ := ex
      have ih := dict_look k e2 h3
      by_cases hk : k2 = k
      · subst hk
        have z : dLook ((k2, d') :: kvs) k2 = some d' := by simp [dLook]
        rw [z]
        exact ⟨v2, by simp [valV], h2⟩
      · have z : dLook ((k2, d') :: kvs) k = dLook kvs k := by simp [dLook, hk]
        have z2 : valV ((k2, v2) :: ws) k = valV ws k := by simp [valV, hk]
        rw [z, z2]
        exact ih
theorem snd_inK {K : Fg} : Snd2 K fInK (fun x y H Q => ∃ a o, y = .ref a ∧ DGet H a x o ∧ Q (.bl o.isSome) H) := by
  intro ι H h x y dx dy z Q rh rx ry e hq
  unfold fInK at e
  split at e
  · rename_i k kvs e1 e2
    cases e
    obtain ⟨i, a, ws, rfl, h1, rfl, h3, h4, h5, h6⟩ := dict_rep rh ry e2
    have ek := key_rep rx e1
    subst ek
    refine ⟨a, valV ws k, rfl, DGet.k h4, ?_⟩
    have q := dict_look (K := K) (ι := ι) (H := H) k h5 h6
    cases e3 : dLook kvs k with
    | none =>
      rw [e3] at q
      have q : valV ws k = none := q
      rw [q]
      rw [e3] at hq
      exact hq _ ι H (.refl _ _) rh rfl
    | some d =>
      rw [e3] at q
      obtain ⟨v, q, _⟩ := q
      rw [q]
      rw [e3] at hq
      exact hq _ ι H (.refl _ _) rh rfl
  · cases e
theorem snd_notinK {K : Fg} : Snd2 K fNotInK (fun x y H Q => ∃ a o, y = .ref a ∧ DGet H a x o ∧ Q (.bl (!o.isSome)) H) := by
  intro ι H h x y dx dy z Q rh rx ry e hq
  unfold fNotInK at e
  split at e
  · rename_i k kvs e1 e2
    cases e
    obtain ⟨i, a, ws, rfl, h1, rfl, h3, h4, h5, h6⟩ := dict_rep rh ry e2
    have ek := key_rep rx e1
    subst ek
    refine ⟨a, valV ws k, rfl, DGet.k h4, ?_⟩
    have q := dict_look (K := K) (ι := ι) (H := H) k h5 h6
    cases e3 : dLook kvs k with
    | none =>
      rw [e3] at q
      have q : valV ws k = none := q
      rw [q]
      rw [e3] at hq
      exact hq _ ι H (.refl _ _) rh rfl
    | some d =>
      rw [e3] at q
      obtain ⟨v, q, _⟩ := q
      rw [q]
      rw [e3] at hq
      exact hq _ ι H (.refl _ _) rh rfl
  · cases e
/-- is, is not of truths -/
def fIsB : F2 := fun _ x y => match x, y with
  | .bl a, .bl b => some (.bl (decide (a = b)))
  | _, _ => none
def fNotB : F2 := fun _ x y => match x, y with
  | .bl a, .bl b => some (.bl (!decide (a = b)))
  | _, _ => none
theorem snd_isB {K : Fg} : Snd2 K fIsB rIsB := by
  intro ι H h x y dx dy z Q rh rx ry e hq
  unfold fIsB at e
  split at e
  · cases rx; cases ry; cases e
    exact ⟨_, _, rfl, rfl, hq _ ι H (.refl _ _) rh rfl⟩
  · cases e
theorem snd_notB {K : Fg} : Snd2 K fNotB rNotB := by
  intro ι H h x y dx dy z Q rh rx ry e hq
  unfold fNotB at e
  split at e
  · cases rx; cases ry; cases e
    exact ⟨_, _, rfl, rfl, hq _ ι H (.refl _ _) rh rfl⟩
  · cases e
/-- ==, != of dicts without anything in them -/
def fEqK : F2 := fun h x y => match x.dict h, y.dict h with
  | some [], some [] => some (.bl true)
  | _, _ => none
def fNeK : F2 := fun h x y => match x.dict h, y.dict h with
  | some [], some [] => some (.bl false)
  | _, _ => none
theorem snd_eqK {K : Fg} : Snd2 K fEqK rEqDA := by
  intro ι H h x y dx dy z Q rh rx ry e hq
  unfold fEqK at e
  split at e
  · rename_i e1 e2
    cases e
    obtain ⟨i, a, ws, rfl, h1, rfl, h3, h4, h5, h6⟩ := dict_rep rh rx e1
    obtain ⟨j, b, us, rfl, g1, rfl, g3, g4, g5, g6⟩ := dict_rep rh ry e2
    obtain rfl : ws = [] := List.map_eq_nil_iff.mp h5
    obtain rfl : us = [] := List.map_eq_nil_iff.mp g5
    exact ⟨a, b, [], [], rfl, rfl, h4, g4, rfl, fun p hp => (by cases hp), hq _ ι H (.refl _ _) rh rfl⟩
  · cases e
theorem snd_neK {K : Fg} : Snd2 K fNeK rNeDA := by
  intro ι H h x y dx dy z Q rh rx ry e hq
  unfold fNeK at e
  split at e
  · rename_i e1 e2
    cases e
    obtain ⟨i, a, ws, rfl, h1, rfl, h3, h4, h5, h6⟩ := dict_rep rh rx e1
    obtain ⟨j, b, us, rfl, g1, rfl, g3, g4, g5, g6⟩ := dict_rep rh ry e2
    obtain rfl : ws = [] := List.map_eq_nil_iff.mp h5
    obtain rfl : us = [] := List.map_eq_nil_iff.mp g5
    exact ⟨a, b, [], [], rfl, rfl, h4, g4, rfl, fun p hp => (by cases hp), hq _ ι H (.refl _ _) rh rfl⟩
  · cases e
def cmpD : CmpOp → F2
  | .Eq => fOr fEq fEqK
  | .NotEq => fOr fNe fNeK
  | .Lt => fOr (fI0 fun i j => .bl (decide (i < j))) fLtS
  | .LtE => fI0 fun i j => .bl (decide (i ≤ j))
  | .Gt => fI0 fun i j => .bl (decide (j < i))
  | .GtE => fI0 fun i j => .bl (decide (j ≤ i))
  | .Is => fOr fIs fIsB
  | .IsNot => fOr fIsNot fNotB
  | .In => fOr fInS (fOr fIn (fOr fInD fInK))
  | .NotIn => fOr fNotInS (fOr fNotIn (fOr fNotInD fNotInK))
theorem cmp_ok (X : Cx) (hu : X.A.units + 65 < cLine) (op : CmpOp) : ∃ r, OpR X (compareOp op) r ∧ Snd2 X.K (cmpD op) r := by
  cases op with
  | Eq => exact ⟨_, (op_eqD (by omega)).or (op_eq_dictA (by omega)), snd_eq.or snd_eqK⟩
  | NotEq => exact ⟨_, (op_neD (by omega)).or (op_ne_dictA (by omega)), snd_ne.or snd_neK⟩
  | Lt => exact ⟨_, op_lt.or op_lt_str, (snd_I0 (by intros; rfl)).or snd_ltS⟩
  | LtE => exact ⟨_, op_le, snd_I0 (by intros; rfl)⟩
  | Gt => exact ⟨_, op_gt, snd_I0 (by intros; rfl)⟩
  | GtE => exact ⟨_, op_ge, snd_I0 (by intros; rfl)⟩
  | Is => exact ⟨_, op_isN.or op_isBl, snd_is.or snd_isB⟩
  | IsNot => exact ⟨_, op_notN.or op_notBl, snd_isnot.or snd_notB⟩
  | In => exact ⟨_, op_in_sign.or (op_in_seq.or ((op_inD hu).or (or_in (by omega)))), snd_inS.or (snd_in.or (snd_inD.or snd_inK))⟩
  | NotIn => exact ⟨_, op_notIn_sign.or (op_notIn_seq.or ((op_notInD hu).or (or_notin (by omega)))), snd_notinS.or (snd_notin.or (snd_notinD.or snd_notinK))⟩

/-! ### truth, length, subscripts, slices -/
def truD (h : DH) : D → Option Bool
  | .non => some false
  | .bl b => some b
  | .int i => some (i != 0)
  | .str x => if x.length ≤ sizeLine then some ((x.length : Int) != 0) else none
  | d => match d.seq h with
    | some ds => some (!ds.isEmpty)
    | none => match d.dict h with
      | some kvs => some (!kvs.isEmpty)
      | none => none
section
variable {K : Fg} {ι : Loc} {H : Hp} {h : DH}
theorem tru_rep (rh : RepH K ι H h) {d : D} {v : V} {k : Bool} (r : RepV K ι H d v) (e : truD h d = some k) : TruV K v H k := by
  have sq : ∀ {ds : List D} {d' : D}, RepV K ι H d' v → d'.seq h = some ds → TruV K v H (!ds.isEmpty) := fun {ds d'} r e => by
    obtain ⟨a, xs, rfl, h2, h3⟩ := seq_rep rh r e
    have l := h3.length
    have z : ds.isEmpty = xs.isEmpty := by
      cases ds <;> cases xs <;> simp_all
    rw [z]
    rcases h2 with h2 | h2
    · exact .inl ⟨xs, h2, rfl⟩
    · exact .inr (.inl ⟨xs, h2, rfl⟩)
  cases d with
  | non => cases r; cases e; rfl
  | bl b => cases r; cases e; rfl
  | int i => cases r; cases e; rfl
  | str x =>
    cases r
    simp only [truD] at e
    split at e
    · rename_i hz; cases e; exact ⟨hz, rfl⟩
    · cases e
  | tup ds => cases e; exact sq r rfl
  | lst ds => cases e; exact sq r rfl
  | fls ds => cases e; exact sq r rfl
  | opq u => cases e
  | exc _ _ _ => cases e
  | ref i =>
    simp only [truD] at e
    split at e
    · rename_i ds e1; cases e; exact sq r e1
    · split at e
      · rename_i kvs e1
        cases e
        obtain ⟨j, a, ws, _, _, rfl, _, h4, h5, h6⟩ := dict_rep rh r e1
        have l : ws.length = kvs.length := by have := congrArg List.length h5; simpa using this
        have z : kvs.isEmpty = ws.isEmpty := by
          cases kvs <;> cases ws <;> simp_all
        rw [z]
        exact .inr (.inr ⟨ws, h4, rfl⟩)
      · cases e
def lenD (h : DH) : D → Option Nat
  | .str x => if x.length ≤ sizeLine then some x.length else none
  | d => (d.seq h).map List.length
theorem len_rep (rh : RepH K ι H h) {d : D} {v : V} {n : Nat} (r : RepV K ι H d v) (e : lenD h d = some n) : LenV K v H n := by
  have sq : ∀ {d' : D}, RepV K ι H d' v → (d'.seq h).map List.length = some n → LenV K v H n := fun {d'} r e => by
    cases q : d'.seq h with
    | none => rw [q] at e; cases e
    | some ds =>
      rw [q] at e; cases e
      obtain ⟨a, xs, rfl, h2, h3⟩ := seq_rep rh r q
      rw [h3.length]
      rcases h2 with h2 | h2
      · exact .inl ⟨xs, h2, rfl⟩
      · exact .inr ⟨xs, h2, rfl⟩
  cases d with
  | str x =>
    cases r
    simp only [lenD] at e
    split at e
    · rename_i hz; cases e; exact ⟨hz, rfl⟩
    · cases e
  | _ => exact sq r e
/-- xs[i] -/
def ixD : F2 := fun h x y => match x, y with
  | .str z, .int i => if z.length ≤ sizeLine then (atI z.cps.toList i).map fun c => .str ⟨#[c]⟩ else none
  | x, .int i => (x.seq h).bind fun ds => atI ds i
  | _, _ => none
theorem atI_map {ds : List D} {xs : List V} {i : Int} {d : D} (r : RepVs K ι H ds xs) (e : atI ds i = some d) : ∃ v, atI xs i = some v ∧ RepV K ι H d v := by
  unfold atI at e ⊢
  rw [← r.length]
  cases q : ixN ds.length i with
  | none => rw [q] at e; cases e
  | some j =>
    rw [q] at e
    exact r.get e
theorem snd_ix : Snd2 K ixD (rIx K) := by
  intro ι H h x y dx dy z Q rh rx ry e hq
  have sq : ∀ {d' : D} {i : Int}, RepV K ι H d' x → y = .int i → (d'.seq h).bind (fun ds => atI ds i) = some z → rIx K x y H Q := fun {d' i} r ey e => by
    cases q : d'.seq h with
    | none => rw [q] at e; cases e
    | some ds =>
      rw [q] at e
      obtain ⟨a, xs, ex, h2, h3⟩ := seq_rep rh r q
      obtain ⟨v, h4, h5⟩ := atI_map h3 e
      have fin := hq v ι H (.refl _ _) rh h5
      rcases h2 with h2 | h2
      · exact .inl ⟨a, xs, i, v, ex, ey, h2, h4, fin⟩
      · exact .inr (.inl ⟨a, xs, i, v, ex, ey, h2, h4, fin⟩)
  unfold ixD at e
  split at e
  · rename_i w i
    cases rx; cases ry
    split at e
    · rename_i hz
      cases q : atI w.cps.toList i with
      | none => rw [q] at e; cases e
      | some c =>
        rw [q] at e; cases e
        exact .inr (.inr ⟨w, i, c, rfl, rfl, hz, q, hq _ ι H (.refl _ _) rh rfl⟩)
    · cases e
  · rename_i d' i _
    cases ry
    exact sq rx rfl e
  · cases e
/-- d[k] -/
def dgetD (kvs : List (Key × D)) : D → Option D := fun y => y.key.bind (dLook kvs)
end
def cutG {α : Type} (xs : List α) (lo hi : Option Int) : List α := (xs.drop (HT.sIx xs.length 0 lo)).take (HT.sIx xs.length xs.length hi - HT.sIx xs.length 0 lo)
theorem cutG_rep {K : Fg} {ι : Loc} {H : Hp} {ds : List D} {xs : List V} (r : RepVs K ι H ds xs) (lo hi : Option Int) : RepVs K ι H (cutG ds lo hi) (cutV xs lo hi) := by
  unfold cutG cutV
  rw [r.length]
  exact (r.drop _).take _
theorem cut_whole {α : Type} {xs : List α} {lo hi : Option Int} (h : HT.sIx xs.length 0 lo = 0 ∧ HT.sIx xs.length xs.length hi = xs.length) : cutG xs lo hi = xs := by
  unfold cutG
  rw [h.1, h.2]
  simp
/-- a slice of a tuple, of a text -/
def slD (x : D) (lo hi : Option Int) : Option D := match x with
  | .tup ds => some (.tup (cutG ds lo hi))
  | .str z => if z.length ≤ sizeLine then some (.str (cutS z lo hi)) else none
  | _ => none
def SndS (K : Fg) (f : DH → D → Option Int → Option Int → Option D) (r : V → Option Int → Option Int → Hp → VK → Prop) : Prop := ∀ (ι : Loc) (H : Hp) (h : DH) (x : V) (dx z : D) (lo hi : Option Int) (Q : VK), RepH K ι H h → RepV K ι H dx x → f h dx lo hi = some z →
  (∀ v ι' H', Ext ι H ι' H' → RepH K ι' H' h → RepV K ι' H' z v → Q v H') → r x lo hi H Q
def fSlA : DH → D → Option Int → Option Int → Option D := fun h x lo hi => match x with
  | .tup ds => some (.tup (cutG ds lo hi))
  | .str z => if z.length ≤ sizeLine then some (.str (cutS z lo hi)) else none
  | x => (x.lseq h).map fun ds => .lst (cutG ds lo hi)
theorem snd_sl {K : Fg} : SndS K fSlA (fun x lo hi H Q => rSlA K x lo hi H Q ∨ rSlS x lo hi H Q ∨ rSlL K x lo hi H Q) := by
  intro ι H h x dx z lo hi Q rh rx e hq
  have sq : ∀ {d' : D}, RepV K ι H d' x → (d'.lseq h).map (fun ds => D.lst (cutG ds lo hi)) = some z → rSlL K x lo hi H Q := fun {d'} r e => by
    cases q : d'.lseq h with
    | none => rw [q] at e; cases e
    | some ds =>
      rw [q] at e; cases e
      obtain ⟨a, xs, ex, h2, h3⟩ := lseq_rep rh r q
      refine ⟨a, xs, ex, h2, fun p hp => ?_⟩
      exact hq _ ι _ (.laid hp) (rh.laid hp) ⟨p, _, rfl, ⟨upd_same, rh.fresh hp⟩, RepVs.ext (.laid hp) _ _ (cutG_rep h3 lo hi)⟩
  unfold fSlA at e
  split at e
  · rename_i ds
    cases e
    obtain ⟨a, xs, ex, h2, h3⟩ := id rx
    have l := h3.length
    refine .inl ⟨a, xs, ex, h2.sq, fun hw => ?_, fun _ p hp => ?_⟩
    · rw [← l] at hw
      rw [cut_whole hw] at hq
      exact ex ▸ hq x ι H (.refl _ _) rh rx
    · exact hq _ ι _ (.laid hp) (rh.laid hp) ⟨p, _, rfl, .inl ⟨upd_same, rh.fresh hp⟩, RepVs.ext (.laid hp) _ _ (cutG_rep h3 lo hi)⟩
  · rename_i w
    cases rx
    split at e
    · rename_i hz
      cases e
      exact .inr (.inl ⟨w, rfl, hz, hq _ ι H (.refl _ _) rh rfl⟩)
    · cases e
  · exact .inr (.inr (sq rx e))

/-! ### functions of the language -/
abbrev FC := DH → List D → Option D
def SndC (K : Fg) (f : FC) (r : List V → Hp → VK → Prop) : Prop := ∀ (ι : Loc) (H : Hp) (h : DH) (xs : List V) (ds : List D) (z : D) (Q : VK), RepH K ι H h → RepVs K ι H ds xs → f h ds = some z →
  (∀ v ι' H', Ext ι H ι' H' → RepH K ι' H' h → RepV K ι' H' z v → Q v H') → r xs H Q
def fcOr (f g : FC) : FC := fun h xs => match f h xs with
  | some z => some z
  | none => g h xs
theorem SndC.or {K : Fg} {f g : FC} {r q : List V → Hp → VK → Prop} (a : SndC K f r) (b : SndC K g q) : SndC K (fcOr f g) (fun xs H Q => r xs H Q ∨ q xs H Q) := by
  intro ι H h xs ds z Q rh rx e hq
  unfold fcOr at e
  cases e1 : f h ds with
  | some w =>
    rw [e1] at e; cases e
    exact .inl (a ι H h xs ds _ Q rh rx e1 hq)
  | none =>
    rw [e1] at e
    exact .inr (b ι H h xs ds _ Q rh rx e hq)
theorem rvs1 {K : Fg} {ι : Loc} {H : Hp} {d : D} {xs : List V} (r : RepVs K ι H [d] xs) : ∃ x, xs = [x] ∧ RepV K ι H d x := by
  obtain ⟨x, t, rfl, h, (h2 : t = [])⟩ := r
  subst h2; exact ⟨x, rfl, h⟩
theorem rvs2 {K : Fg} {ι : Loc} {H : Hp} {d e : D} {xs : List V} (r : RepVs K ι H [d, e] xs) : ∃ x y, xs = [x, y] ∧ RepV K ι H d x ∧ RepV K ι H e y := by
  obtain ⟨x, t, rfl, h, h2⟩ := r
  obtain ⟨y, rfl, h3⟩ := rvs1 h2
  exact ⟨x, y, rfl, h, h3⟩
def fLen : FC := fun h xs => match xs with
  | [x] => (lenD h x).map fun n => .int n
  | _ => none
theorem snd_len {K : Fg} : SndC K fLen (fun xs H Q => ∃ x n, xs = [x] ∧ LenV K x H n ∧ Q (.int n) H) := by
  intro ι H h xs ds z Q rh rx e hq
  unfold fLen at e
  split at e
  · rename_i d
    obtain ⟨x, rfl, r⟩ := rvs1 rx
    cases q : lenD h d with
    | none => rw [q] at e; cases e
    | some n =>
      rw [q] at e; cases e
      exact ⟨x, n, rfl, len_rep rh r q, hq _ ι H (.refl _ _) rh rfl⟩
  · cases e
def fLenK : FC := fun h xs => match xs with
  | [x] => (x.dict h).map fun kvs => .int kvs.length
  | _ => none
def fAbs : FC := fun _ xs => match xs with
  | [.int i] => some (.int (if i < 0 then -i else i))
  | _ => none
theorem snd_abs {K : Fg} : SndC K fAbs (fun xs H Q => ∃ i, xs = [.int i] ∧ Q (.int (if i < 0 then -i else i)) H) := by
  intro ι H h xs ds z Q rh rx e hq
  unfold fAbs at e
  split at e
  · rename_i i
    obtain ⟨x, rfl, r⟩ := rvs1 rx
    cases r; cases e
    exact ⟨i, rfl, hq _ ι H (.refl _ _) rh rfl⟩
  · cases e
def fInt : FC := fun _ xs => match xs with
  | [.int i] => some (.int i)
  | [.bl k] => some (.int (if k then 1 else 0))
  | _ => none
theorem snd_int {K : Fg} : SndC K fInt (fun xs H Q => (∃ i, xs = [.int i] ∧ Q (.int i) H) ∨ ∃ k, xs = [.bl k] ∧ Q (.int (if k then 1 else 0)) H) := by
  intro ι H h xs ds z Q rh rx e hq
  unfold fInt at e
  split at e
  · rename_i i
    obtain ⟨x, rfl, r⟩ := rvs1 rx
    cases r; cases e
    exact .inl ⟨i, rfl, hq _ ι H (.refl _ _) rh rfl⟩
  · rename_i k
    obtain ⟨x, rfl, r⟩ := rvs1 rx
    cases r; cases e
    exact .inr ⟨k, rfl, hq _ ι H (.refl _ _) rh rfl⟩
  · cases e
def fTuple : FC := fun h xs => match xs with
  | [x] => (x.seq h).map .tup
  | _ => none
theorem snd_tuple {K : Fg} : SndC K fTuple (fun xs H Q => ∃ p ys, xs = [.ref p] ∧ ((SqL K H p ys ∧ ∀ l, H l = none → Q (.ref l) (upd H l (.tup ys))) ∨ (SqT K H p ys ∧ Q (.ref p) H))) := by
  intro ι H h xs ds z Q rh rx e hq
  unfold fTuple at e
  split at e
  · rename_i d
    obtain ⟨x, rfl, r⟩ := rvs1 rx
    cases q : d.seq h with
    | none => rw [q] at e; cases e
    | some es =>
      rw [q] at e; cases e
      have ls : d.lseq h = some es → ∃ p ys, [x] = [V.ref p] ∧ ((SqL K H p ys ∧ ∀ l, H l = none → Q (.ref l) (upd H l (.tup ys))) ∨ (SqT K H p ys ∧ Q (.ref p) H)) := fun q => by
        obtain ⟨a, ys, rfl, h2, h3⟩ := lseq_rep rh r q
        refine ⟨a, ys, rfl, .inl ⟨h2, fun l hl => ?_⟩⟩
        exact hq _ ι _ (.laid hl) (rh.laid hl) ⟨l, _, rfl, .inl ⟨upd_same, rh.fresh hl⟩, RepVs.ext (.laid hl) _ _ h3⟩
      cases d with
      | tup fs =>
        cases q
        obtain ⟨a, ys, rfl, h2, h3⟩ := tup_rep r
        exact ⟨a, ys, rfl, .inr ⟨h2, hq _ ι H (.refl _ _) rh r⟩⟩
      | lst _ => exact ls q
      | fls _ => exact ls q
      | ref _ => exact ls q
      | _ => cases q
  · cases e
def D.bools : List D → Option (List Bool)
  | [] => some []
  | .bl b :: ds => (D.bools ds).map (b :: ·)
  | _ => none
theorem bools_rep {K : Fg} {ι : Loc} {H : Hp} : ∀ {ds : List D} {xs : List V} {bs : List Bool}, RepVs K ι H ds xs → D.bools ds = some bs → xs = bs.map V.bl
  | [], xs, bs, r, e => by have r : xs = [] := r; subst r; cases e; rfl
  | .bl b :: ds, xs, bs, r, e => by
    obtain ⟨x, t, rfl, h2, h3⟩ := r
    unfold D.bools at e
    cases q : D.bools ds with
    | none => rw [q] at e; cases e
    | some cs =>
      rw [q] at e; cases e
      cases h2
      rw [bools_rep h3 q]; rfl
  | .non :: _, _, _, _, e => nomatch e
  | .int _ :: _, _, _, _, e => nomatch e
  | .str _ :: _, _, _, _, e => nomatch e
  | .tup _ :: _, _, _, _, e => nomatch e
  | .lst _ :: _, _, _, _, e => nomatch e
  | .fls _ :: _, _, _, _, e => nomatch e
  | .ref _ :: _, _, _, _, e => nomatch e
  | .opq _ :: _, _, _, _, e => nomatch e
  | .exc _ _ _ :: _, _, _, _, e => nomatch e
def D.ints : List D → Option (List Int)
  | [] => some []
  | .int b :: ds => (D.ints ds).map (b :: ·)
  | _ => none
theorem ints_rep {K : Fg} {ι : Loc} {H : Hp} : ∀ {ds : List D} {xs : List V} {bs : List Int}, RepVs K ι H ds xs → D.ints ds = some bs → xs = bs.map V.int
  | [], xs, bs, r, e => by have r : xs = [] := r; subst r; cases e; rfl
  | .int b :: ds, xs, bs, r, e => by
    obtain ⟨x, t, rfl, h2, h3⟩ := r
    unfold D.ints at e
    cases q : D.ints ds with
    | none => rw [q] at e; cases e
    | some cs =>
      rw [q] at e; cases e
      cases h2
      rw [ints_rep h3 q]; rfl
  | .non :: _, _, _, _, e => nomatch e
  | .bl _ :: _, _, _, _, e => nomatch e
  | .str _ :: _, _, _, _, e => nomatch e
  | .tup _ :: _, _, _, _, e => nomatch e
  | .lst _ :: _, _, _, _, e => nomatch e
  | .fls _ :: _, _, _, _, e => nomatch e
  | .ref _ :: _, _, _, _, e => nomatch e
  | .opq _ :: _, _, _, _, e => nomatch e
  | .exc _ _ _ :: _, _, _, _, e => nomatch e
def fAll : FC := fun h xs => match xs with
  | [x] => ((x.lseq h).bind D.bools).map fun bs => .bl (bs.all id)
  | _ => none
def fAny : FC := fun h xs => match xs with
  | [x] => ((x.lseq h).bind D.bools).map fun bs => .bl (bs.any id)
  | _ => none
def fSum : FC := fun h xs => match xs with
  | [x] => ((x.lseq h).bind D.ints).map fun bs => .int bs.sum
  | _ => none
theorem lbools {K : Fg} {ι : Loc} {H : Hp} {h : DH} (rh : RepH K ι H h) {d : D} {x : V} {bs : List Bool} (r : RepV K ι H d x) (e : (d.lseq h).bind D.bools = some bs) : ∃ a, x = .ref a ∧ SqL K H a (bs.map V.bl) := by
  cases q : d.lseq h with
  | none => rw [q] at e; cases e
  | some ds =>
    rw [q] at e
    obtain ⟨a, xs, rfl, h2, h3⟩ := lseq_rep rh r q
    rw [bools_rep h3 e] at h2
    exact ⟨a, rfl, h2⟩
theorem lints {K : Fg} {ι : Loc} {H : Hp} {h : DH} (rh : RepH K ι H h) {d : D} {x : V} {bs : List Int} (r : RepV K ι H d x) (e : (d.lseq h).bind D.ints = some bs) : ∃ a, x = .ref a ∧ SqL K H a (bs.map V.int) := by
  cases q : d.lseq h with
  | none => rw [q] at e; cases e
  | some ds =>
    rw [q] at e
    obtain ⟨a, xs, rfl, h2, h3⟩ := lseq_rep rh r q
    rw [ints_rep h3 e] at h2
    exact ⟨a, rfl, h2⟩
theorem snd_all {K : Fg} : SndC K fAll (rAll K) := by
  intro ι H h xs ds z Q rh rx e hq
  unfold fAll at e
  split at e
  · rename_i d
    obtain ⟨x, rfl, r⟩ := rvs1 rx
    cases q : (d.lseq h).bind D.bools with
    | none => rw [q] at e; cases e
    | some bs =>
      rw [q] at e; cases e
      obtain ⟨a, rfl, h2⟩ := lbools rh r q
      exact ⟨a, bs, rfl, h2, hq _ ι H (.refl _ _) rh rfl⟩
  · cases e
theorem snd_any {K : Fg} : SndC K fAny (rAny K) := by
  intro ι H h xs ds z Q rh rx e hq
  unfold fAny at e
  split at e
  · rename_i d
    obtain ⟨x, rfl, r⟩ := rvs1 rx
    cases q : (d.lseq h).bind D.bools with
    | none => rw [q] at e; cases e
    | some bs =>
      rw [q] at e; cases e
      obtain ⟨a, rfl, h2⟩ := lbools rh r q
      exact ⟨a, bs, rfl, h2, hq _ ι H (.refl _ _) rh rfl⟩
  · cases e
theorem snd_sum {K : Fg} : SndC K fSum (rSum K) := by
  intro ι H h xs ds z Q rh rx e hq
  unfold fSum at e
  split at e
  · rename_i d
    obtain ⟨x, rfl, r⟩ := rvs1 rx
    cases q : (d.lseq h).bind D.ints with
    | none => rw [q] at e; cases e
    | some bs =>
      rw [q] at e; cases e
      obtain ⟨a, rfl, h2⟩ := lints rh r q
      exact ⟨a, bs, rfl, h2, hq _ ι H (.refl _ _) rh rfl⟩
  · cases e
/-- isinstance -/
def D.tyo (h : DH) : D → Option String
  | .non => some "NoneType"
  | .bl _ => some "bool"
  | .int _ => some "int"
  | .str _ => some "str"
  | .tup _ => some "tuple"
  | .lst _ => some "list"
  | .fls _ => some "list"
  | .ref i => match h[i]? with
    | some (.lst _) => some "list"
    | some (.dK _) => some "dict"
    | _ => none
  | .opq _ => none
  | .exc _ _ _ => none
def D.tyn : D → Option String
  | .opq (.ty n) => some n
  | _ => none
def kitAll (t : String) : List String → Option Bool
  | [] => some false
  | c :: cs => match kitB t c with
    | some true => some true
    | some false => kitAll t cs
    | none => none
def D.tyns : List D → Option (List String)
  | [] => some []
  | d :: ds => match d.tyn, D.tyns ds with
    | some n, some ns => some (n :: ns)
    | _, _ => none
theorem sqT_none {K : Fg} {a : Addr} {xs : List V} (h : ∀ H', SqT K H' a xs) : ∃ (o : Obj), K.lookup a = some o ∧ o.cls = .type "tuple" := by
  rcases h (fun _ => none) with h | ⟨o, its, n, h1, h2, _⟩
  · rcases h with h | ⟨_, h⟩ <;> cases h
  · exact ⟨o, h1, h2⟩
theorem sqL_none {K : Fg} {a : Addr} {xs : List V} (h : ∀ H', SqL K H' a xs) : ∃ (o : Obj), K.lookup a = some o ∧ o.cls = .type "list" := by
  rcases h (fun _ => none) with h | ⟨o, its, n, h1, h2, _⟩
  · rcases h with h | ⟨_, h⟩ <;> cases h
  · exact ⟨o, h1, h2⟩
theorem tyo_rep {K : Fg} {ι : Loc} {H : Hp} {h : DH} (rh : RepH K ι H h) {d : D} {v : V} {t : String} (r : RepV K ι H d v) (e : d.tyo h = some t) : TyX K H v (.type t) := by
  cases d with
  | non => cases r; cases e; exact .base .non
  | bl b => cases r; cases e; exact .base (.bl b)
  | int i => cases r; cases e; exact .base (.int i)
  | str x => cases r; cases e; exact .base (.str x)
  | tup ds =>
    cases e
    obtain ⟨a, xs, rfl, h2, h3⟩ := r
    rcases h2 with ⟨h2, _⟩ | h2
    · exact .base (.tup h2)
    · obtain ⟨o, h4, h5⟩ := sqT_none h2
      exact .kTuple h4 h5
  | lst ds =>
    cases e
    obtain ⟨a, xs, rfl, ⟨h2, _⟩, h3⟩ := r
    exact .base (.lst h2)
  | fls ds =>
    cases e
    obtain ⟨a, xs, rfl, h2, h3⟩ := r
    rcases h2 with ⟨h2 | ⟨o, h2⟩, _⟩ | h2
    · exact .base (.lst h2)
    · exact .base (.frz h2)
    · obtain ⟨o, h4, h5⟩ := sqL_none h2
      exact .kList h4 h5
  | ref i =>
    obtain ⟨a, rfl, h2⟩ := r
    obtain ⟨o, h3, h4⟩ := rh.at_ h2
    simp only [D.tyo, h3] at e
    cases o with
    | lst es =>
      cases e
      obtain ⟨xs, q, _⟩ := h4
      exact .base (.lst q)
    | dK es =>
      cases e
      obtain ⟨xs, q, _⟩ := h4
      exact .base (.dK q)
    | ins _ _ => cases e
  | opq u => cases e
  | exc _ _ _ => cases e
def fIsi : FC := fun h xs => match xs with
  | [x, .opq (.ty n)] => match x.tyo h with
    | some t => (kitB t n).map .bl
    | none => none
  | _ => none
def fIsiT : FC := fun h xs => match xs with
  | [x, .tup cs] => match x.tyo h, D.tyns cs with
    | some t, some ns => (kitAll t ns).map .bl
    | _, _ => none
  | _ => none
theorem snd_isi {K : Fg} : SndC K fIsi (rIsi K) := by
  intro ι H h xs ds z Q rh rx e hq
  unfold fIsi at e
  split at e
  · rename_i d n
    obtain ⟨x, y, rfl, r, r2⟩ := rvs2 rx
    cases r2
    split at e
    · rename_i t e1
      cases q : kitB t n with
      | none => rw [q] at e; cases e
      | some b =>
        rw [q] at e; cases e
        exact ⟨x, .ty n, _, _, b, rfl, .ty n, tyo_rep rh r e1, kit_ty q, hq _ ι H (.refl _ _) rh rfl⟩
    · cases e
  · cases e
theorem tyns_rep {K : Fg} {ι : Loc} {H : Hp} : ∀ {cs : List D} {xs : List V} {ns : List String}, RepVs K ι H cs xs → D.tyns cs = some ns → xs = ns.map V.ty
  | [], xs, ns, r, e => by have r : xs = [] := r; subst r; cases e; rfl
  | c :: cs, xs, ns, r, e => by
    obtain ⟨x, t, rfl, h2, h3⟩ := r
    unfold D.tyns at e
    cases q1 : c.tyn with
    | none => rw [q1] at e; cases e
    | some n =>
      cases q2 : D.tyns cs with
      | none => rw [q1, q2] at e; cases e
      | some ms =>
        rw [q1, q2] at e; cases e
        rw [tyns_rep h3 q2]
        unfold D.tyn at q1
        split at q1
        · cases q1; cases h2; rfl
        · cases q1
theorem clsV_all : ∀ ns : List String, Paired ClsV (ns.map V.ty) (ns.map Value.type)
  | [] => .nil
  | n :: ns => .cons (.ty n) (clsV_all ns)
theorem kitAll_ok {K : Fg} {t : String} : ∀ {ns : List String} {b : Bool}, kitAll t ns = some b → PySem.W.kitAny K (.type t) (ns.map Value.type) = some b
  | [], b, e => by cases e; exact kitAny_nil
  | n :: ns, b, e => by
    unfold kitAll at e
    split at e
    · rename_i q
      cases e
      exact kitAny_cons (kit_ty q) (fun z => nomatch z) fun _ => rfl
    · rename_i q
      exact kitAny_cons (kit_ty q) (fun _ => kitAll_ok e) fun z => nomatch z
    · cases e
theorem sqT_nones {K : Fg} {a : Addr} {xs : List V} (h : ∀ H', SqT K H' a xs) : ∃ (o : Obj) (its : Array Value) (n : Nat), K.lookup a = some o ∧ o.cls = .type "tuple" ∧ o.data = .seq its n ∧ Vals xs its.toList := by
  rcases h (fun _ => none) with h | ⟨o, its, n, h1, h2, h3, _, h4⟩
  · rcases h with h | ⟨_, h⟩ <;> cases h
  · exact ⟨o, its, n, h1, h2, h3, h4⟩
theorem vals_tys : ∀ {ns : List String} {us : List Value}, Vals (ns.map V.ty) us → us = ns.map Value.type
  | [], _, .nil => rfl
  | n :: ns, _, .cons r t => by
    rw [vals_tys t]
    cases r
    rfl
theorem snd_isiT {K : Fg} : SndC K fIsiT (fun xs H Q => rIsiT K xs H Q ∨ rIsiK K xs H Q) := by
  intro ι H h xs ds z Q rh rx e hq
  unfold fIsiT at e
  split at e
  · rename_i d cs
    obtain ⟨x, y, rfl, r, r2⟩ := rvs2 rx
    split at e
    · rename_i t ns e1 e2
      cases q : kitAll t ns with
      | none => rw [q] at e; cases e
      | some b =>
        rw [q] at e; cases e
        obtain ⟨a, ys, rfl, h2, h3⟩ := r2
        have e3 := tyns_rep h3 e2
        subst e3
        rcases h2 with ⟨h2, _⟩ | h2
        · exact .inl ⟨x, a, _, _, _, b, rfl, h2, clsV_all ns, tyo_rep rh r e1, kitAll_ok q, hq _ ι H (.refl _ _) rh rfl⟩
        · obtain ⟨⟨oc, od, dt, sl⟩, its, n, h4, h5, h6, h7⟩ := sqT_nones h2
          simp only at h5 h6
          subst h5 h6
          have e4 := vals_tys h7
          refine .inr ⟨x, a, od, ns.map Value.type, n, sl, _, b, rfl, ?_, tyo_rep rh r e1, kitAll_ok q, hq _ ι H (.refl _ _) rh rfl⟩
          rw [h4, ← e4]
    · cases e
  · cases e
end DL
end

section
set_option maxHeartbeats 2000000
/-! the rules: what a piece of text computes, said of data -/
namespace DL
open PySem PySem.Spec PyProof.Rows L2
variable [Tbs]

section
variable {X : Cx}
theorem PE_imp {e : Expr} {t t' : TE} (h : PE X e t) (i : ∀ σ H Q, t' σ H Q → t σ H Q) : PE X e t' := ⟨fun pins s σ H Q I q => h.run pins s σ H Q I (i σ H Q q)⟩
theorem PT_imp {e : Expr} {t t' : TT} (h : PT X e t) (i : ∀ σ H Q, t' σ H Q → t σ H Q) : PT X e t' := ⟨fun pins s σ H Q I q => h.run pins s σ H Q I (i σ H Q q)⟩
theorem PW_imp {e : Expr} {t t' : TT} (h : PW X e t) (i : ∀ σ H Q, t' σ H Q → t σ H Q) : PW X e t' := ⟨fun wh pins s σ H Q I q => h.run wh pins s σ H Q I (i σ H Q q)⟩
theorem PA_imp {e : List Expr} {t t' : TA} (h : PA X e t) (i : ∀ σ H Q, t' σ H Q → t σ H Q) : PA X e t' := ⟨fun pos pins s σ H Q I q => h.run pos pins s σ H Q I (i σ H Q q)⟩
theorem PO_imp {e : Option Expr} {t t' : TO} (h : PO X e t) (i : ∀ σ H Q, t' σ H Q → t σ H Q) : PO X e t' := ⟨fun pins s σ H Q I q => h.run pins s σ H Q I (i σ H Q q)⟩
theorem PS_imp {e : Stmt} {t t' : TS} (h : PS X e t) (i : ∀ D σ H, t' D σ H → t D σ H) : PS X e t' := ⟨fun pins s σ H D I q => h.run pins s σ H D I (i D σ H q)⟩
theorem PSs_imp {e : List Stmt} {t t' : TS} (h : PSs X e t) (i : ∀ D σ H, t' D σ H → t D σ H) : PSs X e t' := ⟨fun pins s σ H D I q => h.run pins s σ H D I (i D σ H q)⟩
theorem PE_none {e : Expr} : PE X e (fun _ _ _ => False) := ⟨fun _ _ _ _ _ _ q => q.elim⟩
theorem PE_or {e : Expr} {t u : TE} (h : PE X e t) (g : PE X e u) : PE X e (fun σ H Q => t σ H Q ∨ u σ H Q) := ⟨fun pins s σ H Q I q => q.elim (h.run pins s σ H Q I) (g.run pins s σ H Q I)⟩
end
abbrev DE (X : Cx) (W : WX) (e : Expr) (m : M D) : Prop := PE X e (tM X.K W (relV X.K) m)
abbrev DT (X : Cx) (W : WX) (e : Expr) (m : M Bool) : Prop := PT X e (tM X.K W relB m)
abbrev DW (X : Cx) (W : WX) (e : Expr) (m : M Bool) : Prop := PW X e (tM X.K W relB m)
abbrev DA (X : Cx) (W : WX) (es : List Expr) (m : M (List D)) : Prop := PA X es (tM X.K W (relVs X.K) m)
abbrev DOp (X : Cx) (W : WX) (e : Option Expr) (m : M (Option Int)) : Prop := PO X e (tM X.K W relO m)

def fail {α : Type} : M α := fun _ _ => .bad
def mret {α : Type} (a : α) : M α := fun _ h => .ok a h
def mslot (i : Nat) : M D := fun s h => match s[i]? with
  | some (some d) => .ok d h
  | _ => .bad
def e1 (f : DH → D → Option D) (a : M D) : M D := bnd a fun x _ h => ofO (f h x) h
def e2 (f : F2) (a b : M D) : M D := bnd a fun x => bnd b fun y _ h => ofO (f h x y) h
def boolO : Option D → Option Bool
  | some (.bl b) => some b
  | _ => none
def t2 (f : F2) (a b : M D) : M Bool := bnd a fun x => bnd b fun y _ h => ofO (boolO (f h x y)) h
def tru (a : M D) : M Bool := bnd a fun x _ h => ofO (truD h x) h
def tnot (a : M Bool) : M Bool := bnd a fun b _ h => .ok (!b) h
def tand (a b : M Bool) : M Bool := bnd a fun c => if c = true then b else mret false
def tor (a b : M Bool) : M Bool := bnd a fun c => if c = true then mret true else b
def vnot (a : M D) : M D := bnd a fun x _ h => ofO ((truD h x).map fun b => .bl (!b)) h
def vand (a b : M D) : M D := bnd a fun x s h => match truD h x with
  | some true => b s h
  | some false => .ok x h
  | none => .bad
def vor (a b : M D) : M D := bnd a fun x s h => match truD h x with
  | some true => .ok x h
  | some false => b s h
  | none => .bad
def mif (c : M Bool) (a b : M D) : M D := bnd c fun k => if k = true then a else b
def chain (f g : F2) (a b c : M D) : M D := bnd a fun x => bnd b fun y s h => match boolO (f h x y) with
  | some true => (bnd c fun z _ h' => ofO ((boolO (g h' y z)).map .bl) h') s h
  | some false => .ok (.bl false) h
  | none => .bad
def chainT (f g : F2) (a b c : M D) : M Bool := bnd a fun x => bnd b fun y s h => match boolO (f h x y) with
  | some true => (bnd c fun z _ h' => ofO (boolO (g h' y z)) h') s h
  | some false => .ok false h
  | none => .bad
def mnil : M (List D) := mret []
def mcons (a : M D) (r : M (List D)) : M (List D) := bnd a fun x => bnd r fun xs => mret (x :: xs)
def mtup (r : M (List D)) : M D := bnd r fun ds _ h => if ds.length ≤ sizeLine then .ok (.tup ds) h else .bad
def mpart (a : M D) : M (Option Int) := bnd a fun x _ h => match x with
  | .int i => .ok (some i) h
  | _ => .bad
def msl (a : M D) (lo hi : M (Option Int)) : M D := bnd a fun x => bnd lo fun l => bnd hi fun u _ h => ofO (fSlA h x l u) h
def mcallB (f : FC) (r : M (List D)) : M D := bnd r fun ds _ h => ofO (f h ds) h
def mcall (np : Nat) (f : List D → DH → Res D) (r : M (List D)) : M D := bnd r fun ds _ h => if ds.length = np then f ds h else .bad

section
variable {X : Cx} {W : WX} {a b c : Expr} {ma mb mc : M D} {ta tb : M Bool} {pos : Pos}
theorem op_end {K : Fg} {f : F2} {r : R2} (hs : Snd2 K f r) {ι : Loc} {σ : L2.St} {H : Hp} {h : DH} {x y : V} {dx dy : D} {Q : VK} (rh : RepH K ι H h) (rx : RepV K ι H dx x) (ry : RepV K ι H dy y)
    (p : Post K W (relV K) ι σ H Q (ofO (f h dx dy) h)) : r x y H Q := by
  cases e : f h dx dy with
  | none => rw [e] at p; exact p.elim
  | some z =>
    rw [e] at p
    exact hs ι H h x y dx dy z Q rh rx ry e fun v ι' H' e' r' q => p ι' v H' e' r' q
theorem op_endB {K : Fg} {f : F2} {r : R2} (hs : Snd2 K f r) {ι : Loc} {σ : L2.St} {H : Hp} {h : DH} {x y : V} {dx dy : D} {Q : Bool → Hp → Prop} (rh : RepH K ι H h) (rx : RepV K ι H dx x) (ry : RepV K ι H dy y)
    (p : Post K W relB ι σ H Q (ofO (boolO (f h dx dy)) h)) : r x y H (fun v H' => ∃ k, v = .bl k ∧ Q k H') := by
  cases e : f h dx dy with
  | none => rw [e] at p; exact p.elim
  | some z =>
    rw [e] at p
    cases z with
    | bl k => exact hs ι H h x y dx dy _ _ rh rx ry e fun v ι' H' e' r' q => ⟨k, q, p ι' k H' e' r' rfl⟩
    | _ => exact p.elim
theorem tru_end {K : Fg} {ι : Loc} {σ : L2.St} {H : Hp} {h : DH} {x : V} {dx : D} {Q : Bool → Hp → Prop} (rh : RepH K ι H h) (rx : RepV K ι H dx x)
    (p : Post K W relB ι σ H Q (ofO (truD h dx) h)) : ∃ k, TruV K x H k ∧ Q k H := by
  cases e : truD h dx with
  | none => rw [e] at p; exact p.elim
  | some k =>
    rw [e] at p
    exact ⟨k, tru_rep rh rx e, p ι k H (.refl _ _) rh rfl⟩

theorem d_slot {x : Str} {i : Nat} (hN : X.N[i]? = some x) (hv : Vis X.env.scope x) (hd : (x == ("__debug__" : Str)) = false) (hcd : (x == ("__classdict__" : Str)) = false) : DE X W (.Name x pos) (mslot i) := by
  refine PE_imp (pe_var hN hv hd hcd) fun σ H Q ⟨ι, s, h, rs, rh, p⟩ => ?_
  unfold mslot at p
  cases e : s[i]? with
  | none => rw [e] at p; exact p.elim
  | some o =>
    rw [e] at p
    cases o with
    | none => exact p.elim
    | some d =>
      obtain ⟨v, h1, h2⟩ := rs.2 i d e
      exact ⟨v, h1, p ι v H (.refl _ _) rh h2⟩
theorem d_const {v : V} {d : D} {e : Expr} (h : PE X e (tC v)) (r : ∀ ι H, RepV X.K ι H d v) : DE X W e (mret d) :=
  PE_imp h fun σ H Q ⟨ι, s, h, rs, rh, p⟩ => p ι v H (.refl _ _) rh (r ι H)
theorem d_bin {op : Operator} (ha : DE X W a ma) (hb : DE X W b mb) : DE X W (.BinOp a op b pos) (e2 (binD op) ma mb) := by
  obtain ⟨r, ho, hs⟩ := bin_ok X op
  refine PE_imp (pe_op ho ha hb) fun σ H Q ⟨ι, s, h, rs, rh, p⟩ => ?_
  refine tM.step rs rh p fun dx h1 ι1 x H1 rs1 e1 rh1 rx p1 => ?_
  refine tM.step rs1 rh1 p1 fun dy h2 ι2 y H2 rs2 e2 rh2 ry p2 => ?_
  exact op_end hs rh2 (RepV.ext e2 _ _ rx) ry p2
def negD : DH → D → Option D := fun _ x => match x with
  | .int i => some (.int (-i))
  | _ => none
theorem d_neg (ha : DE X W a ma) : DE X W (.UnaryOp .USub a pos) (DL.e1 negD ma) := by
  refine PE_imp (pe_un un_neg ha) fun σ H Q ⟨ι, s, h, rs, rh, p⟩ => ?_
  refine tM.step rs rh p fun dx h1 ι1 x H1 rs1 e1 rh1 rx p1 => ?_
  cases dx with
  | int i => cases rx; exact ⟨i, rfl, p1 ι1 _ H1 (.refl _ _) rh1 rfl⟩
  | _ => exact p1.elim
theorem d_cmp {op : CmpOp} (hu : X.A.units + 65 < cLine) (hm : behindInMarks op b = false) (ha : DE X W a ma) (hb : DE X W b mb) : DE X W (.Compare a [op] [b] pos) (e2 (cmpD op) ma mb) := by
  obtain ⟨r, ho, hs⟩ := cmp_ok X hu op
  refine PE_imp (pe_cmpR ho ha hb hm) fun σ H Q ⟨ι, s, h, rs, rh, p⟩ => ?_
  refine tM.step rs rh p fun dx h1 ι1 x H1 rs1 e1 rh1 rx p1 => ?_
  refine tM.step rs1 rh1 p1 fun dy h2 ι2 y H2 rs2 e2 rh2 ry p2 => ?_
  exact op_end hs rh2 (RepV.ext e2 _ _ rx) ry p2
theorem d_cmpT {op : CmpOp} (hu : X.A.units + 65 < cLine) (hm : behindInMarks op b = false) (ha : DE X W a ma) (hb : DE X W b mb) : DT X W (.Compare a [op] [b] pos) (t2 (cmpD op) ma mb) := by
  obtain ⟨r, ho, hs⟩ := cmp_ok X hu op
  refine PT_imp (pt_cmpR ho ha hb hm) fun σ H Q ⟨ι, s, h, rs, rh, p⟩ => ?_
  refine tM.step rs rh p fun dx h1 ι1 x H1 rs1 e1 rh1 rx p1 => ?_
  refine tM.step rs1 rh1 p1 fun dy h2 ι2 y H2 rs2 e2 rh2 ry p2 => ?_
  exact op_endB hs rh2 (RepV.ext e2 _ _ rx) ry p2
theorem boolO_some {o : Option D} {k : Bool} (h : boolO o = some k) : o = some (.bl k) := by
  unfold boolO at h
  split at h
  · cases h; rfl
  · cases h
theorem op_res {K : Fg} {f : F2} {r : R2} (hs : Snd2 K f r) {ι : Loc} {H : Hp} {h : DH} {x y : V} {dx dy : D} {k : Bool} {Q : VK} (rh : RepH K ι H h) (rx : RepV K ι H dx x) (ry : RepV K ι H dy y)
    (e : boolO (f h dx dy) = some k) (q : ∀ ι' H', Ext ι H ι' H' → RepH K ι' H' h → Q (.bl k) H') : r x y H Q :=
  hs ι H h x y dx dy _ Q rh rx ry (boolO_some e) fun v ι' H' e' r' z => by
    have z : v = .bl k := z
    rw [z]; exact q ι' H' e' r'
theorem d_chain {op op' : CmpOp} (hu : X.A.units + 65 < cLine) (hm : behindInMarks op' c = false) (ha : DE X W a ma) (hb : DE X W b mb) (hc : DE X W c mc) :
    DE X W (.Compare a [op, op'] [b, c] pos) (chain (cmpD op) (cmpD op') ma mb mc) := by
  obtain ⟨r, ho, hs⟩ := cmp_ok X hu op
  obtain ⟨r', ho', hs'⟩ := cmp_ok X hu op'
  refine PE_imp (pe_chain ho ho' ha hb hc hm) fun σ H Q ⟨ι, s, h, rs, rh, p⟩ => ?_
  refine tM.step rs rh p fun dx h1 ι1 x H1 rs1 e1 rh1 rx p1 => ?_
  refine tM.step rs1 rh1 p1 fun dy h2 ι2 y H2 rs2 e2 rh2 ry p2 => ?_
  cases e : boolO (cmpD op h2 dx dy) with
  | none => simp only [e] at p2; exact p2.elim
  | some k =>
    simp only [e] at p2
    refine op_res hs rh2 (RepV.ext e2 _ _ rx) ry e fun ι3 H3 e3 rh3 => ⟨k, rfl, ?_⟩
    cases k with
    | false => exact p2 ι3 _ H3 e3 rh3 rfl
    | true =>
      refine tM.step (rs2.ext e3) rh3 (Post.ext e3 p2) fun dz h4 ι4 z H4 rs4 e4 rh4 rz p4 => ?_
      cases e5 : boolO (cmpD op' h4 dy dz) with
      | none => simp only [e5] at p4; exact p4.elim
      | some k' =>
        simp only [e5] at p4
        refine op_res hs' rh4 (RepV.ext (e3.trans e4) _ _ ry) rz e5 fun ι6 H6 e6 rh6 => ?_
        exact p4 ι6 _ H6 e6 rh6 rfl
theorem d_chainT {op op' : CmpOp} (hu : X.A.units + 65 < cLine) (hm : behindInMarks op' c = false) (ha : DE X W a ma) (hb : DE X W b mb) (hc : DE X W c mc) :
    DT X W (.Compare a [op, op'] [b, c] pos) (chainT (cmpD op) (cmpD op') ma mb mc) := by
  obtain ⟨r, ho, hs⟩ := cmp_ok X hu op
  obtain ⟨r', ho', hs'⟩ := cmp_ok X hu op'
  refine PT_imp (pt_chain ho ho' ha hb hc hm) fun σ H Q ⟨ι, s, h, rs, rh, p⟩ => ?_
  refine tM.step rs rh p fun dx h1 ι1 x H1 rs1 e1 rh1 rx p1 => ?_
  refine tM.step rs1 rh1 p1 fun dy h2 ι2 y H2 rs2 e2 rh2 ry p2 => ?_
  cases e : boolO (cmpD op h2 dx dy) with
  | none => simp only [e] at p2; exact p2.elim
  | some k =>
    simp only [e] at p2
    refine op_res hs rh2 (RepV.ext e2 _ _ rx) ry e fun ι3 H3 e3 rh3 => ⟨k, rfl, ?_⟩
    cases k with
    | false => exact ⟨false, rfl, p2 ι3 _ H3 e3 rh3 rfl⟩
    | true =>
      refine tM.step (rs2.ext e3) rh3 (Post.ext e3 p2) fun dz h4 ι4 z H4 rs4 e4 rh4 rz p4 => ?_
      cases e5 : boolO (cmpD op' h4 dy dz) with
      | none => simp only [e5] at p4; exact p4.elim
      | some k' =>
        simp only [e5] at p4
        refine op_res hs' rh4 (RepV.ext (e3.trans e4) _ _ ry) rz e5 fun ι6 H6 e6 rh6 => ?_
        exact ⟨k', rfl, p4 ι6 _ H6 e6 rh6 rfl⟩
/-! ### truth -/
theorem d_tru (ha : DE X W a ma) (he : ∀ whole, isTrue a X.env whole = (do let v ← whole; standAt a.pos; holding [v] (truthy v))) : DT X W a (tru ma) :=
  PT_imp (pt_truth ha he) fun σ H Q ⟨ι, s, h, rs, rh, p⟩ => tM.step rs rh p fun dx h1 ι1 x H1 rs1 e1 rh1 rx p1 => tru_end rh1 rx p1
theorem d_not (ha : DT X W a ta) : DT X W (.UnaryOp .Not a pos) (tnot ta) :=
  PT_imp (pt_not ha) fun σ H Q ⟨ι, s, h, rs, rh, p⟩ => tM.step rs rh p fun k h1 ι1 x H1 rs1 e1 rh1 (rx : k = x) p1 => p1 ι1 _ H1 (.refl _ _) rh1 (by rw [rx])
theorem d_and1 (ha : DT X W a ta) : DW X W (.BoolOp .And [a] pos) ta := pw_and1 ha
theorem d_or1 (ha : DT X W a ta) : DW X W (.BoolOp .Or [a] pos) ta := pw_or1 ha
theorem d_and {rest : List Expr} (ha : DT X W a ta) (hb : DW X W (.BoolOp .And (b :: rest) pos) tb) : DW X W (.BoolOp .And (a :: b :: rest) pos) (tand ta tb) :=
  PW_imp (pw_and ha hb) fun σ H Q ⟨ι, s, h, rs, rh, p⟩ => tM.step rs rh p fun k h1 ι1 x H1 rs1 e1 rh1 (rx : k = x) p1 => by
    subst rx
    cases k with
    | true => exact iteT ⟨ι1, s, h1, rs1, rh1, p1⟩
    | false => exact iteF (p1 ι1 _ H1 (.refl _ _) rh1 rfl)
theorem d_or {rest : List Expr} (ha : DT X W a ta) (hb : DW X W (.BoolOp .Or (b :: rest) pos) tb) : DW X W (.BoolOp .Or (a :: b :: rest) pos) (tor ta tb) :=
  PW_imp (pw_or ha hb) fun σ H Q ⟨ι, s, h, rs, rh, p⟩ => tM.step rs rh p fun k h1 ι1 x H1 rs1 e1 rh1 (rx : k = x) p1 => by
    subst rx
    cases k with
    | true => exact iteT (p1 ι1 _ H1 (.refl _ _) rh1 rfl)
    | false => exact iteF ⟨ι1, s, h1, rs1, rh1, p1⟩
theorem d_vnot (ha : DE X W a ma) : DE X W (.UnaryOp .Not a pos) (vnot ma) :=
  PE_imp (pe_notT ha) fun σ H Q ⟨ι, s, h, rs, rh, p⟩ => tM.step rs rh p fun dx h1 ι1 x H1 rs1 e1 rh1 rx p1 => by
    cases e : truD h1 dx with
    | none => rw [e] at p1; exact p1.elim
    | some k =>
      rw [e] at p1
      exact ⟨k, tru_rep rh1 rx e, p1 ι1 _ H1 (.refl _ _) rh1 rfl⟩
theorem d_v1 {op : BoolOp} (ha : DE X W a ma) : DE X W (.BoolOp op [a] pos) ma := pe_one ha
theorem d_vand {rest : List Expr} (ha : DE X W a ma) (hb : DE X W (.BoolOp .And (b :: rest) pos) mb) : DE X W (.BoolOp .And (a :: b :: rest) pos) (vand ma mb) :=
  PE_imp (pe_andT ha hb) fun σ H Q ⟨ι, s, h, rs, rh, p⟩ => tM.step rs rh p fun dx h1 ι1 x H1 rs1 e1 rh1 rx p1 => by
    cases e : truD h1 dx with
    | none => simp only [e] at p1; exact p1.elim
    | some k =>
      simp only [e] at p1
      refine ⟨k, tru_rep rh1 rx e, ?_⟩
      cases k with
      | true => exact iteT ⟨ι1, s, h1, rs1, rh1, p1⟩
      | false => exact iteF (p1 ι1 _ H1 (.refl _ _) rh1 rx)
theorem d_vor {rest : List Expr} (ha : DE X W a ma) (hb : DE X W (.BoolOp .Or (b :: rest) pos) mb) : DE X W (.BoolOp .Or (a :: b :: rest) pos) (vor ma mb) :=
  PE_imp (pe_orT ha hb) fun σ H Q ⟨ι, s, h, rs, rh, p⟩ => tM.step rs rh p fun dx h1 ι1 x H1 rs1 e1 rh1 rx p1 => by
    cases e : truD h1 dx with
    | none => simp only [e] at p1; exact p1.elim
    | some k =>
      simp only [e] at p1
      refine ⟨k, tru_rep rh1 rx e, ?_⟩
      cases k with
      | true => exact iteT (p1 ι1 _ H1 (.refl _ _) rh1 rx)
      | false => exact iteF ⟨ι1, s, h1, rs1, rh1, p1⟩
theorem d_if (hc : DT X W c ta) (ha : DE X W a ma) (hb : DE X W b mb) : DE X W (.IfExp c a b pos) (mif ta ma mb) :=
  PE_imp (pe_ifExp hc ha hb) fun σ H Q ⟨ι, s, h, rs, rh, p⟩ => tM.step rs rh p fun k h1 ι1 x H1 rs1 e1 rh1 (rx : k = x) p1 => by
    subst rx
    cases k with
    | true => exact iteT ⟨ι1, s, h1, rs1, rh1, p1⟩
    | false => exact iteF ⟨ι1, s, h1, rs1, rh1, p1⟩
/-! ### argument lists, tuples -/
theorem d_nil : DA X W [] mnil := PA_imp pa_nil fun σ H Q ⟨ι, s, h, rs, rh, p⟩ => p ι [] H (.refl _ _) rh rfl
theorem d_cons {es : List Expr} {r : M (List D)} (ha : DE X W a ma) (hr : DA X W es r) (hs : starEach (a :: es) X.env = (false, eval a X.env) :: starEach es X.env) : DA X W (a :: es) (mcons ma r) :=
  PA_imp (pa_cons ha hr hs) fun σ H Q ⟨ι, s, h, rs, rh, p⟩ => tM.step rs rh p fun dx h1 ι1 x H1 rs1 e1 rh1 rx p1 =>
    tM.step rs1 rh1 p1 fun ds h2 ι2 xs H2 rs2 e2 rh2 rxs p2 => p2 ι2 _ H2 (.refl _ _) rh2 ⟨x, xs, rfl, RepV.ext e2 _ _ rx, rxs⟩
theorem d_tup {es : List Expr} {k : Nat} {r : M (List D)} (hr : DA X W es r) : DE X W (.Tuple es k pos) (mtup r) :=
  PE_imp (pe_tup hr) fun σ H Q ⟨ι, s, h, rs, rh, p⟩ => tM.step rs rh p fun ds h1 ι1 xs H1 rs1 e1 rh1 rxs p1 => by
    by_cases hz : ds.length ≤ sizeLine
    · rw [if_pos hz] at p1
      refine ⟨by have l := RepVs.length rxs; omega, fun q hq => ?_⟩
      exact p1 ι1 _ _ (.laid hq) (rh1.laid hq) ⟨q, xs, rfl, .inl ⟨upd_same, rh1.fresh hq⟩, RepVs.ext (.laid hq) _ _ rxs⟩
    · rw [if_neg hz] at p1; exact p1.elim
def rIxK : R2 := fun x y H Q => ∃ a v, x = .ref a ∧ DGet H a y (some v) ∧ Q v H
theorem ix_dict (hu : X.A.units + 1 < cLine) : IxR X rIxK := by
  intro value slice pins s σ H x y v u Q I rx ry h hs
  obtain ⟨a, w, rfl, g, q⟩ := h
  obtain rfl : v = Value.ref a := rx
  exact tail_any (dict_typeIs I g) PySem.F.slot_dict_getitem.lookup (d_getItem hu I g ry fun w' s' I' rw' => ⟨w, H, I', rw', q⟩) hs
def fIxK : F2 := fun h x y => match y.key, x.dict h with
  | some k, some kvs => dLook kvs k
  | _, _ => none
theorem snd_ixK {K : Fg} : Snd2 K fIxK rIxK := by
  intro ι H h x y dx dy z Q rh rx ry e hq
  unfold fIxK at e
  split at e
  · rename_i k kvs e1 e2
    obtain ⟨i, a, ws, rfl, h1, rfl, h3, h4, h5, h6⟩ := dict_rep rh rx e2
    have ek := key_rep ry e1
    subst ek
    have q := dict_look (K := K) (ι := ι) (H := H) k h5 h6
    rw [e] at q
    obtain ⟨v, q1, q2⟩ := q
    refine ⟨a, v, rfl, ?_, hq v ι H (.refl _ _) rh q2⟩
    rw [← q1]
    exact DGet.k h4
  · cases e
def ixA : F2 := fOr ixD fIxK
theorem d_ix (hu : X.A.units + 1 < cLine) (hs : PlainIx b) (ha : DE X W a ma) (hb : DE X W b mb) : DE X W (.Subscript a b pos) (e2 ixA ma mb) :=
  PE_imp (pe_ix (ix_seq.or (ix_dict hu)) ha hb hs) fun σ H Q ⟨ι, s, h, rs, rh, p⟩ => tM.step rs rh p fun dx h1 ι1 x H1 rs1 e1 rh1 rx p1 =>
    tM.step rs1 rh1 p1 fun dy h2 ι2 y H2 rs2 e2 rh2 ry p2 => op_end (snd_ix.or snd_ixK) rh2 (RepV.ext e2 _ _ rx) ry p2
theorem d_part (ha : DE X W a ma) : DOp X W (some a) (mpart ma) :=
  PO_imp (po_some ha) fun σ H Q ⟨ι, s, h, rs, rh, p⟩ => tM.step rs rh p fun dx h1 ι1 x H1 rs1 e1 rh1 rx p1 => by
    cases dx with
    | int i => cases rx; exact ⟨i, rfl, p1 ι1 _ H1 (.refl _ _) rh1 rfl⟩
    | _ => exact p1.elim
theorem d_nopart : DOp X W none (mret none) := PO_imp po_none fun σ H Q ⟨ι, s, h, rs, rh, p⟩ => p ι none H (.refl _ _) rh rfl
theorem d_sl {lo hi : Option Expr} {ml mu : M (Option Int)} {p2 : Pos} (ha : DE X W a ma) (hl : DOp X W lo ml) (hh : DOp X W hi mu) : DE X W (.Subscript a (.Slice lo hi none p2) pos) (msl ma ml mu) :=
  PE_imp (pe_slice (sl_tupA.or (sl_str.or sl_list)) ha hl hh) fun σ H Q ⟨ι, s, h, rs, rh, p⟩ => tM.step rs rh p fun dx h1 ι1 x H1 rs1 e1 rh1 rx p1 =>
    tM.step rs1 rh1 p1 fun l h2 ι2 l' H2 rs2 e2 rh2 (rl : l = l') p2 => tM.step rs2 rh2 p2 fun u h3 ι3 u' H3 rs3 e3 rh3 (ru : u = u') p3 => by
      subst rl ru
      cases e : fSlA h3 dx l u with
      | none => rw [e] at p3; exact p3.elim
      | some z =>
        rw [e] at p3
        exact snd_sl ι3 H3 h3 x dx z l u Q rh3 (RepV.ext (e2.trans e3) _ _ rx) e fun v ι' H' e' r' q => p3 ι' v H' e' r' q
/-! ### calls -/
theorem call_end {K : Fg} {f : FC} {r : List V → Hp → VK → Prop} (hs : SndC K f r) {ι : Loc} {σ : L2.St} {H : Hp} {h : DH} {xs : List V} {ds : List D} {Q : VK} (rh : RepH K ι H h) (rx : RepVs K ι H ds xs)
    (p : Post K W (relV K) ι σ H Q (ofO (f h ds) h)) : r xs H Q := by
  cases e : f h ds with
  | none => rw [e] at p; exact p.elim
  | some z =>
    rw [e] at p
    exact hs ι H h xs ds z Q rh rx e fun v ι' H' e' r' q => p ι' v H' e' r' q
theorem d_callB {f : FC} {r : List V → Hp → VK → Prop} {id : String} {x : Str} {p0 : Pos} {es : List Expr} {m : M (List D)} (hc : CallR X (.builtin id) r) (hf : SndC X.K f r) (hg : Gl X x) (hm : X.mg x = none) (hv : bootBuiltins x = some (.builtin id))
    (ha : DA X W (a :: es) m) (hn : x ≠ "__name__") (hdb : (x == ("__debug__" : Str)) = false) (he : starEach (a :: es) X.env = (false, eval a X.env) :: starEach es X.env) (hpl : (backTo pos (starEach es X.env)).any (·.1) = false) :
    DE X W (.Call (.Name x p0) (a :: es) [] pos) (mcallB f m) :=
  PE_imp (pe_callB hc hg hm hv ha hn hdb he hpl) fun σ H Q ⟨ι, s, h, rs, rh, p⟩ => tM.step rs rh p fun ds h1 ι1 xs H1 rs1 e1 rh1 rx p1 => call_end hf rh1 rx p1
theorem d_callTy {f : FC} {r : List V → Hp → VK → Prop} {T : String} {x : Str} {p0 : Pos} {es : List Expr} {m : M (List D)} (hc : CallR X (.type T) r) (hf : SndC X.K f r) (hg : Gl X x) (hm : X.mg x = none) (hv : bootBuiltins x = some (.type T))
    (ha : DA X W (a :: es) m) (hn : x ≠ "__name__") (hdb : (x == ("__debug__" : Str)) = false) (he : starEach (a :: es) X.env = (false, eval a X.env) :: starEach es X.env) (hpl : (backTo pos (starEach es X.env)).any (·.1) = false) :
    DE X W (.Call (.Name x p0) (a :: es) [] pos) (mcallB f m) :=
  PE_imp (pe_callTy hc hg hm hv ha hn hdb he hpl) fun σ H Q ⟨ι, s, h, rs, rh, p⟩ => tM.step rs rh p fun ds h1 ι1 xs H1 rs1 e1 rh1 rx p1 => call_end hf rh1 rx p1
end
/-- a def's promise, said of data -/
def PostC (K : Fg) (ι : Loc) (H : Hp) (Q : VK) (E : XK) : Res D → Prop
  | .ok d h' => ∀ ι' v H', Ext ι H ι' H' → RepH K ι' H' h' → RepV K ι' H' d v → Q v H'
  | .err x h' => ∀ ι' cls dx H', Ext ι H ι' H' → RepH K ι' H' h' → RepX K ι' H' cls dx x → E cls dx H'
  | .bad => False
def spD (K : Fg) (np : Nat) (f : List D → DH → Res D) : Sp := fun vs H Q E => ∃ ι ds h, RepVs K ι H ds vs ∧ RepH K ι H h ∧ ds.length = np ∧ PostC K ι H Q E (f ds h)
section
variable {X : Cx} {W : WX} {a : Expr} {es : List Expr} {m : M (List D)} {pos p0 : Pos}
theorem d_call {k : Nat} {f : Addr} {fd : FuncData} {ps : List Str} {np : Nat} {sem : List D → DH → Res D} {x : Str} (tk : Takes X W) (F : FnOk X.prog X.w X.K X.mg X.base (L2.CX X.prog X.w) k f fd ps (spD X.K np sem)) (hr : Room k X.A) (hg : Gl X x) (hm : X.mg x = some (.ref f))
    (hk : PySem.W.keepIn X.K (.ref f) = true) (hb : Binds X.K fd ps []) (ha : DA X W (a :: es) m) (hdb : (x == ("__debug__" : Str)) = false)
    (he : starEach (a :: es) X.env = (false, eval a X.env) :: starEach es X.env) (hpl : (backTo pos (starEach es X.env)).any (·.1) = false) : DE X W (.Call (.Name x p0) (a :: es) [] pos) (mcall np sem m) :=
  PE_imp (pe_callS F hr hg hm hk hb (fun σ => passAt tk σ) ha hdb he hpl) fun σ H Q ⟨ι, s, h, rs, rh, p⟩ => tM.step rs rh p fun ds h1 ι1 xs H1 rs1 e1 rh1 rx p1 => by
    by_cases hl : ds.length = np
    · simp only [hl, if_true] at p1
      refine ⟨ι1, ds, h1, rx, rh1, hl, ?_⟩
      cases e : sem ds h1 with
      | ok d h2 => rw [e] at p1; exact p1
      | err x h2 => rw [e] at p1; exact p1
      | bad => rw [e] at p1; exact p1
    · simp only [hl, if_false] at p1
      exact p1.elim
end
/-! ### new lists -/
def PostN (K : Fg) (W : WX) (ι : Loc) (σ : L2.St) (H : Hp) (Q : VK) : Res (List D) → Prop
  | .ok ds h' => ∀ ι' p xs H', Ext ι H ι' H' → RepH K ι' H' h' → p ∈ ι'.av → Free H p → H' p = some (.lst xs) → RepVs K ι' H' ds xs → Q (.ref p) H'
  | .err x h' => ∀ ι' cls dx H', Ext ι H ι' H' → RepH K ι' H' h' → RepX K ι' H' cls dx x → W cls dx σ H'
  | .bad => False
def tN (K : Fg) (W : WX) (m : M (List D)) : TE := fun σ H Q => ∃ ι s h, RepS K ι H s σ ∧ RepH K ι H h ∧ PostN K W ι σ H Q (m s h)
abbrev DN (X : Cx) (W : WX) (e : Expr) (m : M (List D)) : Prop := PE X e (tN X.K W m)
section
variable {K : Fg} {W : WX} {ι ι1 : Loc} {σ : L2.St} {H H1 : Hp} {Q : VK}
theorem PostN.ext (e : Ext ι H ι1 H1) : ∀ {r : Res (List D)}, PostN K W ι σ H Q r → PostN K W ι1 σ H1 Q r
  | .ok a h, p => fun ι2 q xs H2 e2 r hq hn h1 h2 => p ι2 q xs H2 (e.trans e2) r hq (e.back hn) h1 h2
  | .err x h, p => fun ι2 c d H2 e2 r q => p ι2 c d H2 (e.trans e2) r q
  | .bad, p => p
theorem PostN.step {α β : Type} {rel : Loc → Hp → α → β → Prop} {r : Res α} {k : α → DH → Res (List D)} {Q1 : β → Hp → Prop} (p : PostN K W ι σ H Q (r.bind k))
    (hq : ∀ a h1 ι1 b H1, Ext ι H ι1 H1 → RepH K ι1 H1 h1 → rel ι1 H1 a b → PostN K W ι1 σ H1 Q (k a h1) → Q1 b H1) : Post K W rel ι σ H Q1 r := by
  cases r with
  | ok a h => exact fun ι1 b H1 e r q => hq a h ι1 b H1 e r q (PostN.ext e p)
  | err x h => exact p
  | bad => exact p
theorem tM.stepN {α β : Type} {rel : Loc → Hp → α → β → Prop} {m : M α} {k : α → M (List D)} {s : SS} {h : DH} {Q1 : β → Hp → Prop} (rs : RepS K ι H s σ) (rh : RepH K ι H h) (p : PostN K W ι σ H Q (bnd m k s h))
    (hq : ∀ a h1 ι1 b H1, RepS K ι1 H1 s σ → Ext ι H ι1 H1 → RepH K ι1 H1 h1 → rel ι1 H1 a b → PostN K W ι1 σ H1 Q (k a s h1) → Q1 b H1) : tM K W rel m σ H Q1 :=
  ⟨ι, s, h, rs, rh, PostN.step p fun a h1 ι1 b H1 e r q p1 => hq a h1 ι1 b H1 (rs.ext e) e r q p1⟩
/-- what is new comes out of the making as it is -/
theorem ext_out {ι' : Loc} {H' : Hp} (e : Ext ι H ι' H') : Ext ι H ⟨ι'.ad, ι.av⟩ H' := ⟨e.pre, fun _ h => h, e.newd, fun _ h => .inl h, e.keep, e.stay⟩
theorem ext_outR {ι' : Loc} {H' : Hp} {p : Addr} (e : Ext ι H ι' H') (hp : Free H p) : Ext ι H ⟨ι'.ad ++ [p], ι.av⟩ H' := by
  obtain ⟨x, hx⟩ := e.pre
  refine ⟨⟨x ++ [p], by rw [hx, List.append_assoc]⟩, fun _ h => h, fun a h => ?_, fun _ h => .inl h, e.keep, e.stay⟩
  rcases List.mem_append.mp h with h | h
  · exact e.newd a h
  · have z : a = p := by simpa using h
    subst z; exact .inr hp
theorem post_val {r : Res (List D)} (rh0 : RepH K ι H hh) (p : Post K W (relV K) ι σ H Q (r.bind fun ds h => .ok (.lst ds) h)) : PostN K W ι σ H Q r := by
  cases r with
  | bad => exact p
  | err x h => exact p
  | ok ds h =>
    intro ι' q xs H' e rh hq hn h1 h2
    obtain ⟨sb, rh'⟩ := rh.out (av := ι.av) e.av
    have nq : q ∉ ι.av := fun z => by
      obtain ⟨u, hu, ht⟩ := rh0.avs q z
      obtain ⟨ps, y⟩ := hn u hu
      exact ht.1 ps y
    refine p _ _ H' (ext_out e) rh' ⟨q, xs, rfl, ⟨h1, fun z => ?_⟩, RepVs.sub sb _ _ h2⟩
    rcases z with z | z
    · exact rh.dis q z hq
    · exact nq z
theorem post_ref {r : Res (List D)} (rh0 : RepH K ι H hh) (p : Post K W (relV K) ι σ H Q (r.bind fun ds h => .ok (.ref h.length) (h ++ [.lst ds]))) : PostN K W ι σ H Q r := by
  cases r with
  | bad => exact p
  | err x h => exact p
  | ok ds h =>
    intro ι' q xs H' e rh hq hn h1 h2
    have nq : q ∉ ι.av := fun z => by
      obtain ⟨u, hu, ht⟩ := rh0.avs q z
      obtain ⟨ps, y⟩ := hn u hu
      exact ht.1 ps y
    refine p _ _ H' (ext_outR e hn) (rh.outR e.av hq nq ⟨xs, h1, h2⟩) ⟨q, rfl, ?_⟩
    show (ι'.ad ++ [q])[h.length]? = some q
    rw [← rh.len]
    simp
/-- a list just laid is in the making -/
theorem new_laid {ds : List D} {h1 : DH} {xs : List V} (rh : RepH K ι H h1) (rx : RepVs K ι H ds xs) (p : PostN K W ι σ H Q (.ok ds h1)) : ∀ q, H q = none → Q (.ref q) (upd H q (.lst xs)) := fun q hq =>
  p (ι.with q) q xs _ (.with hq) (rh.with hq) List.mem_cons_self (free_of hq) upd_same (RepVs.ext (.with hq) _ _ rx)
end
def mval (m : M (List D)) : M D := bnd m fun ds _ h => .ok (.lst ds) h
def mnew (m : M (List D)) : M D := bnd m fun ds _ h => .ok (.ref h.length) (h ++ [.lst ds])
def mlist (r : M (List D)) : M (List D) := bnd r fun ds _ h => if ds.length ≤ sizeLine then .ok ds h else .bad
def mlistOf (r : M (List D)) : M (List D) := bnd r fun ds _ h => match ds with
  | [x] => ofO (x.seq h) h
  | _ => .bad
def mcat (a b : M D) : M (List D) := bnd a fun x => bnd b fun y _ h => match x.tseq h, y.tseq h with
  | some xs, some ys => if xs.length + ys.length ≤ sizeLine then .ok (xs ++ ys) h else .bad
  | _, _ => .bad
def mrep (a b : M D) : M (List D) := bnd a fun x => bnd b fun y _ h => match x.tseq h, y with
  | some xs, .int k => if -(2 ^ 63) ≤ k ∧ k < 2 ^ 63 ∧ xs.length * k.toNat ≤ sizeLine then .ok (List.replicate k.toNat xs).flatten h else .bad
  | _, _ => .bad
section
variable {X : Cx} {W : WX} {a b c e : Expr} {ma mb mc : M D} {m : M (List D)} {pos : Pos}
theorem d_val (hd : DN X W e m) : DE X W e (mval m) := PE_imp hd fun σ H Q ⟨ι, s, h, rs, rh, p⟩ => ⟨ι, s, h, rs, rh, post_val rh p⟩
theorem d_new (hd : DN X W e m) : DE X W e (mnew m) := PE_imp hd fun σ H Q ⟨ι, s, h, rs, rh, p⟩ => ⟨ι, s, h, rs, rh, post_ref rh p⟩
theorem d_list {es : List Expr} {r : M (List D)} (hr : DA X W es r) : DN X W (.List es pos) (mlist r) :=
  PE_imp (pe_lst hr) fun σ H Q ⟨ι, s, h, rs, rh, p⟩ => tM.stepN rs rh p fun ds h1 ι1 xs H1 rs1 e1 rh1 rxs p1 => by
    by_cases hz : ds.length ≤ sizeLine
    · rw [if_pos hz] at p1
      exact ⟨by have l := RepVs.length rxs; omega, new_laid rh1 rxs p1⟩
    · rw [if_neg hz] at p1; exact p1.elim
theorem d_listOf {x : Str} {p0 : Pos} {m : M (List D)} (hg : Gl X x) (hm : X.mg x = none) (hv : bootBuiltins x = some (.type "list"))
    (ha : DA X W [a] m) (hn : x ≠ "__name__") (hdb : (x == ("__debug__" : Str)) = false) (he : starEach [a] X.env = (false, eval a X.env) :: starEach [] X.env) :
    DN X W (.Call (.Name x p0) [a] [] pos) (mlistOf m) :=
  PE_imp (pe_callTy call_list_of hg hm hv ha hn hdb he rfl) fun σ H Q ⟨ι, s, h, rs, rh, p⟩ => tM.stepN rs rh p fun ds h1 ι1 xs H1 rs1 e1 rh1 rx p1 => by
    cases ds with
    | nil => exact p1.elim
    | cons d ds =>
      cases ds with
      | cons _ _ => exact p1.elim
      | nil =>
        obtain ⟨x, rfl, r⟩ := rvs1 rx
        have p1 : PostN X.K W ι1 σ H1 Q (ofO (d.seq h1) h1) := p1
        cases z : d.seq h1 with
        | none => rw [z] at p1; exact p1.elim
        | some es =>
          rw [z] at p1
          obtain ⟨q, ys, rfl, h2, h3⟩ := seq_rep rh1 r z
          exact ⟨q, ys, rfl, h2, new_laid rh1 h3 p1⟩
theorem d_cat (ha : DE X W a ma) (hb : DE X W b mb) : DN X W (.BinOp a .Add b pos) (mcat ma mb) :=
  PE_imp (pe_op op_cat ha hb) fun σ H Q ⟨ι, s, h, rs, rh, p⟩ => tM.stepN rs rh p fun dx h1 ι1 x H1 rs1 e1 rh1 rx p1 => tM.stepN rs1 rh1 p1 fun dy h2 ι2 y H2 rs2 e2 rh2 ry p2 => by
    cases z1 : dx.tseq h2 with
    | none => simp only [z1] at p2; exact p2.elim
    | some xs =>
      cases z2 : dy.tseq h2 with
      | none => simp only [z1, z2] at p2; exact p2.elim
      | some ys =>
        simp only [z1, z2] at p2
        by_cases hz : xs.length + ys.length ≤ sizeLine
        · rw [if_pos hz] at p2
          obtain ⟨q, vs, rfl, k1, k2⟩ := tseq_rep rh2 (RepV.ext e2 _ _ rx) z1
          obtain ⟨q', ws, rfl, k3, k4⟩ := tseq_rep rh2 ry z2
          have l1 := k2.length
          have l2 := k4.length
          exact ⟨q, q', vs, ws, rfl, rfl, k1, k3, by omega, new_laid rh2 (k2.append k4) p2⟩
        · rw [if_neg hz] at p2; exact p2.elim
theorem d_rep (ha : DE X W a ma) (hb : DE X W b mb) : DN X W (.BinOp a .Mult b pos) (mrep ma mb) :=
  PE_imp (pe_op op_rep ha hb) fun σ H Q ⟨ι, s, h, rs, rh, p⟩ => tM.stepN rs rh p fun dx h1 ι1 x H1 rs1 e1 rh1 rx p1 => tM.stepN rs1 rh1 p1 fun dy h2 ι2 y H2 rs2 e2 rh2 ry p2 => by
    cases z1 : dx.tseq h2 with
    | none => simp only [z1] at p2; exact p2.elim
    | some xs =>
      cases dy with
      | int k =>
        simp only [z1] at p2
        by_cases hz : -(2 ^ 63) ≤ k ∧ k < 2 ^ 63 ∧ xs.length * k.toNat ≤ sizeLine
        · rw [if_pos hz] at p2
          obtain ⟨q, vs, rfl, k1, k2⟩ := tseq_rep rh2 (RepV.ext e2 _ _ rx) z1
          cases ry
          have l1 := k2.length
          exact ⟨q, k, vs, rfl, rfl, k1, hz.1, hz.2.1, by rw [← l1]; exact hz.2.2, new_laid rh2 (k2.rep _) p2⟩
        · rw [if_neg hz] at p2; exact p2.elim
      | _ => simp only [z1] at p2; exact p2.elim
end
end DL
end

section
set_option maxHeartbeats 2000000
/-! what is walked, targets, comprehensions, statements -/
namespace DL
open PySem PySem.Spec PyProof.Rows L2
variable [Tbs]

/-! ### what is walked -/
structure IT where
  get : Nat → DH → Option (Option D)
  n : Nat
def RelI (K : Fg) (ι : Loc) (H : Hp) (it : IT) (J : It) : Prop := ∀ (ι1 : Loc) (H1 : Hp) (h1 : DH) (i : Nat), Ext ι H ι1 H1 → RepH K ι1 H1 h1 → match it.get i h1 with
  | some (some d) => J.go i H1 ∧ ∀ x H2, J.yld i H1 x H2 → Ext ι1 H1 ι1 H2 ∧ RepH K ι1 H2 h1 ∧ RepV K ι1 H2 d x
  | some none => J.stop i H1
  | none => True
abbrev relI (K : Fg) : Loc → Hp → IT → It → Prop := RelI K
abbrev DI (X : Cx) (W : WX) (tg e : Expr) (m : M IT) : Prop := PI X tg e (tM X.K W (relI X.K) m)
theorem PI_imp {X : Cx} {tg e : Expr} {t t' : TI} (h : PI X tg e t) (i : ∀ σ H R, t' σ H R → t σ H R) : PI X tg e t' := ⟨fun pins s σ H R I q => h.run pins s σ H R I (i σ H R q)⟩
theorem PI_or {X : Cx} {tg e : Expr} {t u : TI} (h : PI X tg e t) (g : PI X tg e u) : PI X tg e (fun σ H R => t σ H R ∨ u σ H R) := ⟨fun pins s σ H R I q => q.elim (h.run pins s σ H R I) (g.run pins s σ H R I)⟩
def itVals (ds : List D) : IT := ⟨fun i _ => some ds[i]?, ds.length⟩
def itLive (j n : Nat) : IT := ⟨fun i h => match h[j]? with
  | some (.lst ds) => some ds[i]?
  | _ => none, n⟩
def itRange (lo : Int) (n : Nat) : IT := ⟨fun i _ => some (if i < n then some (.int (lo + i)) else none), n⟩
def signs (z : Str) : List D := z.cps.toList.map fun c => .str ⟨#[c]⟩
section
variable {K : Fg} {ι : Loc} {H : Hp} {h : DH}
theorem relI_seq {ds : List D} {xs : List V} {a : Addr} {J : It} (rx : RepVs K ι H ds xs) (go : ∀ ι1 H1 i x, Ext ι H ι1 H1 → xs[i]? = some x → J.go i H1) (st : ∀ ι1 H1 i, Ext ι H ι1 H1 → xs.length ≤ i → J.stop i H1)
    (yl : ∀ ι1 H1 i x H2, Ext ι H ι1 H1 → J.yld i H1 x H2 → H2 = H1 ∧ xs[i]? = some x) : RelI K ι H (itVals ds) J := by
  intro ι1 H1 h1 i e rh
  show match some ds[i]? with
    | some (some d) => _
    | some none => _
    | none => True
  cases q : ds[i]? with
  | none =>
    have z := List.getElem?_eq_none_iff.mp q
    exact st ι1 H1 i e (by have := rx.length; omega)
  | some d =>
    obtain ⟨v, h1', h2⟩ := rx.get q
    refine ⟨go ι1 H1 i v e h1', fun x H2 hy => ?_⟩
    obtain ⟨rfl, hx⟩ := yl ι1 H1 i x H2 e hy
    rw [h1'] at hx; cases hx
    exact ⟨.refl _ _, rh, RepV.ext e _ _ h2⟩
theorem relI_list {ds : List D} {xs : List V} {a : Addr} (rx : RepVs K ι H ds xs) (k : ∀ ι1 H1, Ext ι H ι1 H1 → SqL K H1 a xs) : RelI K ι H (itVals ds) (Itl K a) :=
  relI_seq (a := a) rx (fun ι1 H1 i x e q => ⟨xs, x, k ι1 H1 e, q⟩) (fun ι1 H1 i e q => ⟨xs, k ι1 H1 e, q⟩) fun ι1 H1 i x H2 e hy => ⟨hy.1, hy.2 xs (k ι1 H1 e)⟩
theorem relI_tup {ds : List D} {xs : List V} {a : Addr} (rx : RepVs K ι H ds xs) (k : ∀ ι1 H1, Ext ι H ι1 H1 → SqT K H1 a xs) : RelI K ι H (itVals ds) (Itt K a) :=
  relI_seq (a := a) rx (fun ι1 H1 i x e q => ⟨xs, x, k ι1 H1 e, q⟩) (fun ι1 H1 i e q => ⟨xs, k ι1 H1 e, q⟩) fun ι1 H1 i x H2 e hy => ⟨hy.1, hy.2 xs (k ι1 H1 e)⟩
theorem relI_live {j n : Nat} {a : Addr} (q : ι.ad[j]? = some a) : RelI K ι H (itLive j n) (Itl K a) := by
  intro ι1 H1 h1 i e rh
  have q1 := e.get q
  obtain ⟨o, k1, k2⟩ := rh.at_ q1
  show match (match h1[j]? with
    | some (.lst ds) => some ds[i]?
    | _ => none) with
    | some (some d) => _
    | some none => _
    | none => True
  rw [k1]
  cases o with
  | dK _ => trivial
  | ins _ _ => trivial
  | lst ds =>
    obtain ⟨xs, k3, k4⟩ := k2
    show match some ds[i]? with
      | some (some d) => _
      | some none => _
      | none => True
    cases q : ds[i]? with
    | none =>
      have z := List.getElem?_eq_none_iff.mp q
      exact ⟨xs, .of k3, by have := k4.length; omega⟩
    | some d =>
      obtain ⟨v, h1', h2⟩ := k4.get q
      refine ⟨⟨xs, v, .of k3, h1'⟩, fun x H2 hy => ?_⟩
      obtain ⟨rfl, hx⟩ := hy
      have hx := hx xs (.of k3)
      rw [h1'] at hx; cases hx
      exact ⟨.refl _ _, rh, h2⟩
theorem relI_range {lo : Int} {n : Nat} : RelI K ι H (itRange lo n) (Itr lo n) := by
  intro ι1 H1 h1 i e rh
  show match some (if i < n then some (D.int (lo + i)) else none) with
    | some (some d) => _
    | some none => _
    | none => True
  by_cases hi : i < n
  · rw [if_pos hi]
    refine ⟨hi, fun x H2 hy => ?_⟩
    obtain ⟨rfl, rfl⟩ := hy
    exact ⟨.refl _ _, rh, rfl⟩
  · rw [if_neg hi]
    exact Nat.le_of_not_lt hi
theorem relI_str {z : Str} : RelI K ι H (itVals (signs z)) (Its z) := by
  intro ι1 H1 h1 i e rh
  show match some (signs z)[i]? with
    | some (some d) => _
    | some none => _
    | none => True
  have q : (signs z)[i]? = (z.cps[i]?).map fun c => D.str ⟨#[c]⟩ := by
    unfold signs
    rw [List.getElem?_map, Array.getElem?_toList]
  rw [q]
  cases e2 : z.cps[i]? with
  | none => exact Array.getElem?_eq_none_iff.mp e2
  | some c =>
    refine ⟨(Array.getElem?_eq_some_iff.mp e2).1, fun x H2 hy => ?_⟩
    obtain ⟨rfl, c', h1', rfl⟩ := hy
    rw [e2] at h1'; cases h1'
    exact ⟨.refl _ _, rh, rfl⟩
end
def itOf (h : DH) : D → Option IT
  | .tup ds => some (itVals ds)
  | .lst ds => some (itVals ds)
  | .fls ds => some (itVals ds)
  | .str z => some (itVals (signs z))
  | .ref j => match h[j]? with
    | some (.lst ds) => some (itLive j ds.length)
    | _ => none
  | _ => none
def mit (a : M D) : M IT := bnd a fun x _ h => ofO (itOf h x) h
def mrange1 (r : M (List D)) : M IT := bnd r fun ds _ h => match ds with
  | [.int j] => if -(2 ^ 62) ≤ j ∧ j < 2 ^ 62 then .ok (itRange 0 j.toNat) h else .bad
  | _ => .bad
def mrange2 (r : M (List D)) : M IT := bnd r fun ds _ h => match ds with
  | [.int i, .int j] => if -(2 ^ 62) ≤ i ∧ i < 2 ^ 62 ∧ -(2 ^ 62) ≤ j ∧ j < 2 ^ 62 then .ok (itRange i (j - i).toNat) h else .bad
  | _ => .bad
section
variable {X : Cx} {W : WX} {tg a b : Expr} {ma mb : M D} {m : M (List D)} {pos p0 : Pos}
theorem d_it (ha : DE X W a ma) : DI X W tg a (mit ma) := by
  refine PI_imp (PI_or (pi_list ha) (PI_or (pi_tup ha) (pi_str ha))) fun σ H R ⟨ι, s, h, rs, rh, p⟩ => ?_
  have p : Post X.K W (relI X.K) ι σ H R ((ma s h).bind fun x h' => ofO (itOf h' x) h') := p
  cases e : ma s h with
  | bad => rw [e] at p; exact p.elim
  | err x h1 =>
    rw [e] at p
    exact .inl ⟨ι, s, h, rs, rh, by rw [e]; exact p⟩
  | ok d h1 =>
    rw [e] at p
    have st : ∀ {Q1 : VK}, (∀ ι1 v H1, Ext ι H ι1 H1 → RepH X.K ι1 H1 h1 → RepV X.K ι1 H1 d v → Q1 v H1) → tM X.K W (relV X.K) ma σ H Q1 := fun {Q1} hq => ⟨ι, s, h, rs, rh, by rw [e]; exact hq⟩
    cases d with
    | tup ds =>
      refine .inr (.inl (st fun ι1 v H1 e1 rh1 rv => ?_))
      obtain ⟨q, xs, rfl, k1, k2⟩ := rv
      exact ⟨q, rfl, ⟨xs, k1.sq⟩, p ι1 _ H1 e1 rh1 (relI_tup k2 fun ι2 H2 e2 => (k1.ext e2).sq)⟩
    | lst ds =>
      refine .inl (st fun ι1 v H1 e1 rh1 rv => ?_)
      obtain ⟨q, xs, rfl, ⟨k1, k3⟩, k2⟩ := rv
      exact ⟨q, rfl, ⟨xs, .of k1⟩, p ι1 _ H1 e1 rh1 (relI_list k2 fun ι2 H2 e2 => .of (e2.get' k1 k3))⟩
    | fls ds =>
      refine .inl (st fun ι1 v H1 e1 rh1 rv => ?_)
      obtain ⟨q, xs, rfl, k1, k2⟩ := rv
      exact ⟨q, rfl, ⟨xs, k1.sq⟩, p ι1 _ H1 e1 rh1 (relI_list k2 fun ι2 H2 e2 => (k1.ext e2).sq)⟩
    | str z =>
      refine .inr (.inr (st fun ι1 v H1 e1 rh1 rv => ?_))
      cases rv
      exact ⟨z, rfl, p ι1 _ H1 e1 rh1 relI_str⟩
    | ref j =>
      simp only [bind_ok, itOf] at p
      split at p
      · rename_i ds k0
        refine .inl (st fun ι1 v H1 e1 rh1 rv => ?_)
        obtain ⟨q, rfl, k1⟩ := rv
        obtain ⟨o, k2, k3⟩ := rh1.at_ k1
        rw [k0] at k2; cases k2
        obtain ⟨xs, k4, k5⟩ := k3
        exact ⟨q, rfl, ⟨xs, .of k4⟩, p ι1 _ H1 e1 rh1 (relI_live k1)⟩
      · exact p.elim
    | non => exact p.elim
    | bl _ => exact p.elim
    | int _ => exact p.elim
    | opq _ => exact p.elim
    | exc _ _ _ => exact p.elim
theorem d_range1 (hg : Gl X "range") (hm : X.mg "range" = none) (ha : DA X W [a] m) (hs : starEach [a] X.env = [(false, eval a X.env)]) : DI X W tg (.Call (.Name "range" p0) [a] [] pos) (mrange1 m) :=
  PI_imp (pi_range1 hg hm ha hs) fun σ H R ⟨ι, s, h, rs, rh, p⟩ => tM.step rs rh p fun ds h1 ι1 xs H1 rs1 e1 rh1 rx p1 => by
    split at p1
    · rename_i j
      obtain ⟨x, rfl, r⟩ := rvs1 rx
      cases r
      split at p1
      · rename_i hj
        exact ⟨j, rfl, hj.1, hj.2, p1 ι1 _ H1 (.refl _ _) rh1 relI_range⟩
      · exact p1.elim
    · exact p1.elim
theorem d_range2 (hg : Gl X "range") (hm : X.mg "range" = none) (ha : DA X W [a, b] m) (hs : starEach [a, b] X.env = [(false, eval a X.env), (false, eval b X.env)]) (hs2 : starEach [b] X.env = [(false, eval b X.env)]) : DI X W tg (.Call (.Name "range" p0) [a, b] [] pos) (mrange2 m) :=
  PI_imp (pi_range2 hg hm ha hs hs2) fun σ H R ⟨ι, s, h, rs, rh, p⟩ => tM.step rs rh p fun ds h1 ι1 xs H1 rs1 e1 rh1 rx p1 => by
    split at p1
    · rename_i i j
      obtain ⟨x, y, rfl, r, r2⟩ := rvs2 rx
      cases r; cases r2
      split at p1
      · rename_i hj
        exact ⟨i, j, rfl, hj, p1 ι1 _ H1 (.refl _ _) rh1 relI_range⟩
      · exact p1.elim
    · exact p1.elim
end

/-! ### targets: names, tuples of such -/
inductive Tg where
  | nm (i : Nat)
  | tp (ts : List Tg)
mutual
def Tg.put : Tg → D → SS → Option SS
  | .nm i, d, s => some (s.set i (some d))
  | .tp ts, .tup ds, s => Tg.puts ts ds s
  | .tp _, _, _ => none
def Tg.puts : List Tg → List D → SS → Option SS
  | [], [], s => some s
  | t :: ts, d :: ds, s => match Tg.put t d s with
    | some s1 => Tg.puts ts ds s1
    | none => none
  | _, _, _ => none
end
mutual
def Tg.sl : Tg → List Nat
  | .nm i => [i]
  | .tp ts => Tg.sls ts
def Tg.sls : List Tg → List Nat
  | [] => []
  | t :: ts => Tg.sl t ++ Tg.sls ts
end
def Off (vs : List Nat) (σ σ' : L2.St) : Prop := σ'.length = σ.length ∧ ∀ i, i ∉ vs → σ'[i]? = σ[i]?
def gT (K : Fg) (t : Tg) : TG := fun v σ H Q => ∃ ι s d, RepS K ι H s σ ∧ RepV K ι H d v ∧ ∃ s', t.put d s = some s' ∧ ∀ σ', RepS K ι H s' σ' → Off t.sl σ σ' → Q σ' H
def gTs (K : Fg) (ts : List Tg) : TGs := fun vs σ H Q => ∃ ι s ds, RepS K ι H s σ ∧ RepVs K ι H ds vs ∧ ∃ s', Tg.puts ts ds s = some s' ∧ ∀ σ', RepS K ι H s' σ' → Off (Tg.sls ts) σ σ' → Q σ' H
theorem puts_len : ∀ {ts : List Tg} {ds : List D} {s s' : SS}, Tg.puts ts ds s = some s' → ds.length = ts.length
  | [], [], _, _, _ => rfl
  | [], _ :: _, _, _, e => nomatch e
  | _ :: _, [], _, _, e => nomatch e
  | t :: ts, d :: ds, s, s', e => by
    unfold Tg.puts at e
    split at e
    · exact congrArg (· + 1) (puts_len (ts := ts) (ds := ds) e)
    · cases e
section
variable {X : Cx} {pos : Pos}
theorem PG_imp {e : Expr} {t t' : TG} (h : PG X e t) (i : ∀ v σ H Q, t' v σ H Q → t v σ H Q) : PG X e t' := ⟨fun pins s σ H v u Q I r q => h.run pins s σ H v u Q I r (i v σ H Q q)⟩
theorem PGs_imp {e : List Expr} {t t' : TGs} (h : PGs X e t) (i : ∀ v σ H Q, t' v σ H Q → t v σ H Q) : PGs X e t' := ⟨fun pins s σ H v u Q I r q => h.run pins s σ H v u Q I r (i v σ H Q q)⟩
theorem g_name {i : Nat} {x : Str} (hN : X.N.Nodup) (hi : X.N[i]? = some x) (hx : L2.Loc X.env.scope x) (hf : X.fn x = true ∨ X.env.scope.names.lookup x = some .local) : PG X (.Name x pos) (gT X.K (.nm i)) :=
  PG_imp (pg_name hN hi hx hf) fun v σ H Q ⟨ι, s, d, rs, rv, s', e, q⟩ => by
    cases e
    refine q _ (rs.set i rv) ⟨by simp, fun j hj => ?_⟩
    have ne : i ≠ j := fun z => hj (by simp [Tg.sl, z])
    rw [List.getElem?_set_ne ne]
theorem gs_nil : PGs X [] (gTs X.K []) :=
  PGs_imp pgs_nil fun v σ H Q ⟨ι, s, ds, rs, rv, s', e, q⟩ => by
    have z := puts_len e
    have z : ds = [] := List.eq_nil_of_length_eq_zero z
    subst z
    cases e
    exact ⟨rv, q σ rs ⟨rfl, fun _ _ => rfl⟩⟩
theorem gs_cons {e : Expr} {es : List Expr} {t : Tg} {ts : List Tg} (h1 : PG X e (gT X.K t)) (h2 : PGs X es (gTs X.K ts))
    (hs : (assignEach (e :: es) X.env).map (·.2) = assign e X.env :: (assignEach es X.env).map (·.2)) : PGs X (e :: es) (gTs X.K (t :: ts)) :=
  PGs_imp (pgs_cons h1 h2 hs) fun vs σ H Q ⟨ι, s, ds, rs, rv, s', e, q⟩ => by
    cases ds with
    | nil => cases e
    | cons d ds =>
      obtain ⟨v, r, rfl, r1, r2⟩ := rv
      unfold Tg.puts at e
      split at e
      · rename_i s1 e1
        refine ⟨v, r, rfl, ι, s, d, rs, r1, s1, e1, fun σ1 rs1 o1 => ⟨ι, s1, ds, rs1, r2, s', e, fun σ2 rs2 o2 => q σ2 rs2 ⟨o2.1.trans o1.1, fun j hj => ?_⟩⟩⟩
        have n1 : j ∉ t.sl := fun z => hj (by simp [Tg.sls, z])
        have n2 : j ∉ Tg.sls ts := fun z => hj (by simp [Tg.sls, z])
        exact (o2.2 j n2).trans (o1.2 j n1)
      · cases e
theorem g_tup {es : List Expr} {k : Nat} {ts : List Tg} (hc : X.calm = true) (h : PGs X es (gTs X.K ts)) (hn : (assignEach es X.env).length = ts.length) (hst : (assignEach es X.env).findIdx? (·.1) = none) : PG X (.Tuple es k pos) (gT X.K (.tp ts)) :=
  PG_imp (pg_tup hc h hn hst) fun v σ H Q ⟨ι, s, d, rs, rv, s', e, q⟩ => by
    cases d with
    | tup ds =>
      obtain ⟨a, xs, rfl, k1, k2⟩ := rv
      have e : Tg.puts ts ds s = some s' := e
      exact ⟨a, xs, rfl, k1.sq, by rw [← k2.length]; exact puts_len e, ι, s, ds, rs, k2, s', e, q⟩
    | _ => cases e
end

/-! ### comprehensions -/
def wipeD (s : SS) : List Nat → SS
  | [] => s
  | v :: vs => (wipeD s vs).set v none
theorem RepS.wipe {K : Fg} {ι : Loc} {H : Hp} {s : SS} {σ : L2.St} (r : RepS K ι H s σ) : ∀ vs, RepS K ι H (wipeD s vs) (L2.wipe σ vs)
  | [] => r
  | v :: vs => (RepS.wipe r vs).forget v
theorem wipe_at {σ : L2.St} {i : Nat} : ∀ {vs : List Nat}, i ∉ vs → (L2.wipe σ vs)[i]? = σ[i]?
  | [], _ => rfl
  | v :: vs, h => by
    have h1 : v ≠ i := fun z => h (by simp [z])
    have h2 : i ∉ vs := fun z => h (by simp [z])
    show ((L2.wipe σ vs).set v none)[i]? = _
    rw [List.getElem?_set_ne h1]
    exact wipe_at h2
theorem wipe_in {σ : L2.St} {i : Nat} (hl : i < σ.length) : ∀ {vs : List Nat}, i ∈ vs → (L2.wipe σ vs)[i]? = some none
  | v :: vs, h => by
    show ((L2.wipe σ vs).set v none)[i]? = _
    by_cases e : v = i
    · subst e
      rw [List.getElem?_set_self (by rw [wipe_length]; exact hl)]
    · rw [List.getElem?_set_ne e]
      rcases List.mem_cons.mp h with z | z
      · exact absurd z.symm e
      · exact wipe_in hl z
theorem wipe_off {σ σ' : L2.St} {sl vs : List Nat} (o : Off sl (L2.wipe σ vs) σ') (hs : ∀ i, i ∈ sl → i ∈ vs) : L2.wipe σ' vs = L2.wipe σ vs := by
  have l : σ'.length = σ.length := by rw [o.1, wipe_length]
  refine List.ext_getElem? fun i => ?_
  by_cases hi : i ∈ vs
  · by_cases hl : i < σ.length
    · rw [wipe_in (by rw [l]; exact hl) hi, wipe_in hl hi]
    · rw [List.getElem?_eq_none (by rw [wipe_length]; omega), List.getElem?_eq_none (by rw [wipe_length]; omega)]
  · rw [wipe_at hi, o.2 i fun z => hi (hs i z)]
def lcG (it : IT) (t : Tg) (tt : M Bool) (te : M D) (s0 : SS) : Nat → Nat → List D → DH → Res (List D)
  | k, i, acc, h => match it.get i h with
    | some none => .ok acc h
    | some (some d) => match k with
      | 0 => .bad
      | k + 1 => match t.put d s0 with
        | none => .bad
        | some s2 => match tt s2 h with
          | .ok false h3 => lcG it t tt te s0 k (i + 1) acc h3
          | .ok true h3 => match te s2 h3 with
            | .ok y h4 => if acc.length < sizeLine then lcG it t tt te s0 k (i + 1) (acc ++ [y]) h4 else .bad
            | _ => .bad
          | _ => .bad
    | none => .bad
def mlc (mi : M IT) (t : Tg) (tt : M Bool) (te : M D) (vs : List Nat) : M (List D) := bnd mi fun it s h => lcG it t tt te (wipeD s vs) it.n 0 [] h
abbrev WNo : WX := fun _ _ _ _ => False
/-- from a base where D is not, D changes -/
theorem Ext.updNew {ι ι' : Loc} {H H' : Hp} {p : Addr} {u : HO} (e : Ext ι H ι' H') (hp : H p = none) (hu : ∀ ps, u ≠ .tbl ps := by intro ps z; cases z) : Ext ι H ι' (upd H' p u) :=
  ⟨e.pre, e.av, e.newd, e.newv, fun a o q n t => by rw [upd_ne (ne_of_none q hp)]; exact e.keep a o q n t, fun a o q t => by
    obtain ⟨o', z, t'⟩ := e.stay a o q t
    exact stay_upd hu a o' z t'⟩
section
variable {X : Cx} {W : WX} {pos : Pos}
theorem d_lc {elt tg iter : Expr} {ifs : List Expr} {scope : Scope} {own : List (Str × Nat)} {mi : M IT} {t : Tg} {tt : M Bool} {te : M D} (hc : X.calm = true) (hN : X.N.Nodup) (hi : DI X W tg iter mi) (ok : BlkOk X.N X.env.scope scope own)
    (hg : ∀ (s : Shared) (H : Hp) (C : Addr) (cl : List (Str × Addr)) (fp : List Addr), PG (X.blk s H scope (compEnvC scope cl C X.env) fp) tg (gT X.K t))
    (ht : ∀ (s : Shared) (H : Hp) (C : Addr) (cl : List (Str × Addr)) (fp : List Addr), PTs (X.blk s H scope (compEnvC scope cl C X.env) fp) ifs (tM X.K WNo relB tt))
    (he : ∀ (s : Shared) (H : Hp) (C : Addr) (cl : List (Str × Addr)) (fp : List Addr), PE (X.blk s H scope (compEnvC scope cl C X.env) fp) elt (tM X.K WNo (relV X.K) te)) (hs : ∀ x, foldedSetIterable iter X.env x = pure x)
    (hsl : ∀ i, i ∈ t.sl → i ∈ own.map (·.2)) : DN X W (.ListComp elt [⟨tg, iter, ifs, 0⟩] scope pos) (mlc mi t tt te (own.map (·.2))) := by
  refine PE_imp (pe_lc hc hN hi ok hg ht he hs) fun σ H Q ⟨ι, s, h, rs, rh, p⟩ => ?_
  refine tM.stepN rs rh p fun it h1 ι1 J H1 rs1 e1 rh1 rj p1 C hC => ?_
  refine ⟨fun i m H => ∃ ι h acc xs, Ext ι1 H1 ι H ∧ RepH X.K ι H h ∧ C ∈ ι.av ∧ H C = some (.lst xs) ∧ RepVs X.K ι H acc xs ∧ PostN X.K W ι1 σ H1 Q (lcG it t tt te (wipeD s (own.map (·.2))) m i acc h),
    ⟨it.n, ι1.with C, h1, [], [], .with hC, rh1.with hC, List.mem_cons_self, upd_same, rfl, p1⟩, ?_⟩
  rintro i m H ⟨ι, h, acc, xs, e, rh, hav, hCx, ra, pn⟩
  have rj' := rj ι H h i e rh
  unfold lcG at pn
  cases eg : it.get i h with
  | none => simp only [eg] at pn; exact pn.elim
  | some o =>
    rw [eg] at rj'
    cases o with
    | none =>
      simp only [eg] at pn
      exact .inl ⟨rj', pn ι C xs H e rh hav (free_of hC) hCx ra⟩
    | some d =>
      simp only [eg] at pn
      cases m with
      | zero => exact pn.elim
      | succ k =>
        cases ep : t.put d (wipeD s (own.map (·.2))) with
        | none => simp only [ep] at pn; exact pn.elim
        | some s2 =>
          simp only [ep] at pn
          refine .inr ⟨rj'.1, fun H' => ∃ ι h acc xs, Ext ι1 H1 ι H' ∧ RepH X.K ι H' h ∧ C ∈ ι.av ∧ H' C = some (.lst xs) ∧ RepVs X.K ι H' acc xs ∧ PostN X.K W ι1 σ H1 Q (lcG it t tt te (wipeD s (own.map (·.2))) k (i + 1) acc h),
            fun H' z => ⟨k, Nat.lt_succ_self k, z⟩, fun x H' hy => ?_⟩
          obtain ⟨eY, rhY, rvY⟩ := rj'.2 x H' hy
          have e' := e.trans eY
          have nC : ∀ {ι2 : Loc} {H2 : Hp}, Ext ι H ι2 H2 → C ∈ ι2.av ∧ H2 C = some (.lst xs) := fun {ι2 H2} q => ⟨q.av C hav, q.keep C _ hCx (fun z => rh.dis C z hav) (by intro ps z; cases z)⟩
          refine ⟨ι, wipeD s (own.map (·.2)), d, (RepS.wipe (rs1.ext e') _), rvY, s2, ep, fun σ2 rs2 off => ⟨wipe_off off hsl, ?_⟩⟩
          refine ⟨ι, s2, h, rs2, rhY, ?_⟩
          cases et : tt s2 h with
          | bad => simp only [et] at pn; exact pn.elim
          | err _ _ => simp only [et] at pn; exact pn.elim
          | ok b h3 =>
            simp only [et] at pn
            intro ι3 b' H3 e3 rh3 (rb : b = b')
            subst rb
            cases b with
            | false =>
              refine iteF ?_
              have z := nC (eY.trans e3)
              exact ⟨ι3, h3, acc, xs, e'.trans e3, rh3, z.1, z.2, RepVs.ext (eY.trans e3) _ _ ra, pn⟩
            | true =>
              refine iteT ⟨ι3, s2, h3, rs2.ext e3, rh3, ?_⟩
              cases ee : te s2 h3 with
              | bad => simp only [ee] at pn; exact pn.elim
              | err _ _ => simp only [ee] at pn; exact pn.elim
              | ok y h4 =>
                simp only [ee] at pn
                intro ι4 v H4 e4 rh4 rv4
                by_cases hz : acc.length < sizeLine
                · rw [if_pos hz] at pn
                  have z := nC ((eY.trans e3).trans e4)
                  have ra4 := RepVs.ext ((eY.trans e3).trans e4) _ _ ra
                  refine ⟨xs, z.2, by rw [← ra4.length]; exact hz, ?_⟩
                  refine ⟨ι4, h4, acc ++ [y], xs ++ [v], ((e'.trans e3).trans e4).updNew hC, rh4.writeA z.1, z.1, upd_same, ?_, pn⟩
                  exact RepVs.sub (Subl.writeA z.1) _ _ (ra4.append (.one rv4))
                · rw [if_neg hz] at pn; exact pn.elim
end
end DL
end

section
set_option maxHeartbeats 2000000
/-! statements -/
namespace DL
open PySem PySem.Spec PyProof.Rows L2
variable [Tbs]

/-- a comprehension's reading -/
theorem lc_imp {K : Fg} {W : WX} {mi : M IT} {t : Tg} {tt : M Bool} {te : M D} {vs : List Nat} (hsl : ∀ i, i ∈ t.sl → i ∈ vs) {σ : L2.St} {H : Hp} {Q : VK} (q : tN K W (mlc mi t tt te vs) σ H Q) :
    tLc (tM K W (relI K) mi) (gT K t) (tM K WNo relB tt) (tM K WNo (relV K) te) vs σ H Q := by
  obtain ⟨ι, s, h, rs, rh, p⟩ := q
  refine tM.stepN rs rh p fun it h1 ι1 J H1 rs1 e1 rh1 rj p1 C hC => ?_
  refine ⟨fun i m H => ∃ ι h acc xs, Ext ι1 H1 ι H ∧ RepH K ι H h ∧ C ∈ ι.av ∧ H C = some (.lst xs) ∧ RepVs K ι H acc xs ∧ PostN K W ι1 σ H1 Q (lcG it t tt te (wipeD s vs) m i acc h),
    ⟨it.n, ι1.with C, h1, [], [], .with hC, rh1.with hC, List.mem_cons_self, upd_same, rfl, p1⟩, ?_⟩
  rintro i m H ⟨ι, h, acc, xs, e, rh, hav, hCx, ra, pn⟩
  have rj' := rj ι H h i e rh
  unfold lcG at pn
  cases eg : it.get i h with
  | none => simp only [eg] at pn; exact pn.elim
  | some o =>
    rw [eg] at rj'
    cases o with
    | none =>
      simp only [eg] at pn
      exact .inl ⟨rj', pn ι C xs H e rh hav (free_of hC) hCx ra⟩
    | some d =>
      simp only [eg] at pn
      cases m with
      | zero => exact pn.elim
      | succ k =>
        cases ep : t.put d (wipeD s vs) with
        | none => simp only [ep] at pn; exact pn.elim
        | some s2 =>
          simp only [ep] at pn
          refine .inr ⟨rj'.1, fun H' => ∃ ι h acc xs, Ext ι1 H1 ι H' ∧ RepH K ι H' h ∧ C ∈ ι.av ∧ H' C = some (.lst xs) ∧ RepVs K ι H' acc xs ∧ PostN K W ι1 σ H1 Q (lcG it t tt te (wipeD s vs) k (i + 1) acc h),
            fun H' z => ⟨k, Nat.lt_succ_self k, z⟩, fun x H' hy => ?_⟩
          obtain ⟨eY, rhY, rvY⟩ := rj'.2 x H' hy
          have e' := e.trans eY
          have nC : ∀ {ι2 : Loc} {H2 : Hp}, Ext ι H ι2 H2 → C ∈ ι2.av ∧ H2 C = some (.lst xs) := fun {ι2 H2} q => ⟨q.av C hav, q.keep C _ hCx (fun z => rh.dis C z hav) (by intro ps z; cases z)⟩
          refine ⟨ι, wipeD s vs, d, (RepS.wipe (rs1.ext e') _), rvY, s2, ep, fun σ2 rs2 off => ⟨wipe_off off hsl, ?_⟩⟩
          refine ⟨ι, s2, h, rs2, rhY, ?_⟩
          cases et : tt s2 h with
          | bad => simp only [et] at pn; exact pn.elim
          | err _ _ => simp only [et] at pn; exact pn.elim
          | ok b h3 =>
            simp only [et] at pn
            intro ι3 b' H3 e3 rh3 (rb : b = b')
            subst rb
            cases b with
            | false =>
              refine iteF ?_
              have z := nC (eY.trans e3)
              exact ⟨ι3, h3, acc, xs, e'.trans e3, rh3, z.1, z.2, RepVs.ext (eY.trans e3) _ _ ra, pn⟩
            | true =>
              refine iteT ⟨ι3, s2, h3, rs2.ext e3, rh3, ?_⟩
              cases ee : te s2 h3 with
              | bad => simp only [ee] at pn; exact pn.elim
              | err _ _ => simp only [ee] at pn; exact pn.elim
              | ok y h4 =>
                simp only [ee] at pn
                intro ι4 v H4 e4 rh4 rv4
                by_cases hz : acc.length < sizeLine
                · rw [if_pos hz] at pn
                  have z := nC ((eY.trans e3).trans e4)
                  have ra4 := RepVs.ext ((eY.trans e3).trans e4) _ _ ra
                  refine ⟨xs, z.2, by rw [← ra4.length]; exact hz, ?_⟩
                  refine ⟨ι4, h4, acc ++ [y], xs ++ [v], ((e'.trans e3).trans e4).updNew hC, rh4.writeA z.1, z.1, upd_same, ?_, pn⟩
                  exact RepVs.sub (Subl.writeA z.1) _ _ (ra4.append (.one rv4))
                · rw [if_neg hz] at pn; exact pn.elim

/-! ### results of statements -/
inductive SRes where
  | nx (s : SS) (h : DH)
  | rt (d : D) (h : DH)
  | bk (s : SS) (h : DH)
  | ct (s : SS) (h : DH)
  | err (x : Exn) (s : SS) (h : DH)
  | bad
abbrev MS := SS → DH → SRes
def PostS (K : Fg) (W : WX) (ι : Loc) (H : Hp) (E : Ends) : SRes → Prop
  | .nx s h => ∀ ι' σ' H', Ext ι H ι' H' → RepS K ι' H' s σ' → RepH K ι' H' h → E.nx σ' H'
  | .rt d h => ∀ ι' v H', Ext ι H ι' H' → RepH K ι' H' h → RepV K ι' H' d v → E.rt v H'
  | .bk s h => ∀ ι' σ' H', Ext ι H ι' H' → RepS K ι' H' s σ' → RepH K ι' H' h → E.bk σ' H'
  | .ct s h => ∀ ι' σ' H', Ext ι H ι' H' → RepS K ι' H' s σ' → RepH K ι' H' h → E.ct σ' H'
  | .err x s h => ∀ ι' σ' cls dx H', Ext ι H ι' H' → RepS K ι' H' s σ' → RepH K ι' H' h → RepX K ι' H' cls dx x → W cls dx σ' H'
  | .bad => False
def tS (K : Fg) (W : WX) (m : MS) : TS := fun E σ H => ∃ ι s h, RepS K ι H s σ ∧ RepH K ι H h ∧ PostS K W ι H E (m s h)
abbrev DS (X : Cx) (W : WX) (st : Stmt) (m : MS) : Prop := PS X st (tS X.K W m)
abbrev DSs (X : Cx) (W : WX) (st : List Stmt) (m : MS) : Prop := PSs X st (tS X.K W m)
def Res.toS {α : Type} (r : Res α) (s : SS) (k : α → DH → SRes) : SRes := match r with
  | .ok a h => k a h
  | .err x h => .err x s h
  | .bad => .bad
@[simp] theorem toS_ok {α : Type} (a : α) (h : DH) (s : SS) (k : α → DH → SRes) : (Res.ok a h).toS s k = k a h := rfl
@[simp] theorem toS_err {α : Type} (x : Exn) (h : DH) (s : SS) (k : α → DH → SRes) : (Res.err x h : Res α).toS s k = .err x s h := rfl
@[simp] theorem toS_bad {α : Type} (s : SS) (k : α → DH → SRes) : (Res.bad : Res α).toS s k = .bad := rfl
section
variable {K : Fg} {W : WX} {ι ι1 : Loc} {σ : L2.St} {H H1 : Hp} {E : Ends}
theorem PostS.ext (e : Ext ι H ι1 H1) : ∀ {r : SRes}, PostS K W ι H E r → PostS K W ι1 H1 E r
  | .nx _ _, p => fun ι2 s H2 e2 => p ι2 s H2 (e.trans e2)
  | .rt _ _, p => fun ι2 s H2 e2 => p ι2 s H2 (e.trans e2)
  | .bk _ _, p => fun ι2 s H2 e2 => p ι2 s H2 (e.trans e2)
  | .ct _ _, p => fun ι2 s H2 e2 => p ι2 s H2 (e.trans e2)
  | .err _ _ _, p => fun ι2 s c d H2 e2 => p ι2 s c d H2 (e.trans e2)
  | .bad, p => p
theorem PostS.step {α β : Type} {rel : Loc → Hp → α → β → Prop} {r : Res α} {s : SS} {k : α → DH → SRes} {Q1 : β → Hp → Prop} (rs : RepS K ι H s σ) (p : PostS K W ι H E (r.toS s k))
    (hq : ∀ a h1 ι1 b H1, RepS K ι1 H1 s σ → Ext ι H ι1 H1 → RepH K ι1 H1 h1 → rel ι1 H1 a b → PostS K W ι1 H1 E (k a h1) → Q1 b H1) : Post K W rel ι σ H Q1 r := by
  cases r with
  | ok a h => exact fun ι1 b H1 e r q => hq a h ι1 b H1 (rs.ext e) e r q (PostS.ext e p)
  | err x h => exact fun ι1 c d H1 e r q => p ι1 σ c d H1 e (rs.ext e) r q
  | bad => exact p
theorem tM.stepS {α β : Type} {rel : Loc → Hp → α → β → Prop} {m : M α} {s : SS} {h : DH} {k : α → DH → SRes} {Q1 : β → Hp → Prop} (rs : RepS K ι H s σ) (rh : RepH K ι H h) (p : PostS K W ι H E ((m s h).toS s k))
    (hq : ∀ a h1 ι1 b H1, RepS K ι1 H1 s σ → Ext ι H ι1 H1 → RepH K ι1 H1 h1 → rel ι1 H1 a b → PostS K W ι1 H1 E (k a h1) → Q1 b H1) : tM K W rel m σ H Q1 :=
  ⟨ι, s, h, rs, rh, PostS.step rs p hq⟩
end
/-! ### the statements -/
def snext : MS := fun s h => .nx s h
def sseq (a b : MS) : MS := fun s h => match a s h with
  | .nx s1 h1 => b s1 h1
  | r => r
def sret (m : M D) : MS := fun s h => (m s h).toS s fun d h1 => .rt d h1
def sretN : MS := fun s h => .rt .non h
def sbreak : MS := fun s h => .bk s h
def scont : MS := fun s h => .ct s h
def sdrop (m : M D) : MS := fun s h => (m s h).toS s fun _ h1 => .nx s h1
def sif (c : M Bool) (a b : MS) : MS := fun s h => (c s h).toS s fun k h1 => if k = true then a s h1 else b s h1
def sasg (m : M D) (t : Tg) : MS := fun s h => (m s h).toS s fun d h1 => match t.put d s with
  | some s1 => .nx s1 h1
  | none => .bad
def spar2 (i j : Nat) (m : M (List D)) : MS := fun s h => (m s h).toS s fun ds h1 => match ds with
  | [a, b] => .nx ((s.set i (some a)).set j (some b)) h1
  | _ => .bad
def spar3 (i j l : Nat) (m : M (List D)) : MS := fun s h => (m s h).toS s fun ds h1 => match ds with
  | [a, b, c] => .nx (((s.set i (some a)).set j (some b)).set l (some c)) h1
  | _ => .bad
/-- a dict behind d[k] = v -/
def dPut (kvs : List (Key × D)) (k : Key) (v : D) : List (Key × D) :=
  if (kvs.any fun kv => decide (kv.1 = k)) = true then kvs.map (fun kv => if kv.1 = k then (kv.1, v) else kv) else kvs ++ [(k, v)]
/-- o[i] = v -/
def setD (h : DH) (o i v : D) : Option DH := match o with
  | .ref j => match h[j]? with
    | some (.lst ds) => match i with
      | .int k => (ixN ds.length k).map fun m => h.set j (.lst (ds.set m v))
      | _ => none
    | some (.dK kvs) => match i.key with
      | some k => if kvs.length < sizeLine then some (h.set j (.dK (dPut kvs k v))) else none
      | none => none
    | _ => none
  | _ => none
def ssub (m o i : M D) : MS := fun s h => (m s h).toS s fun v h1 => (o s h1).toS s fun a h2 => (i s h2).toS s fun x h3 => match setD h3 a x v with
  | some h4 => .nx s h4
  | none => .bad
def iopD : Operator → F2
  | .Add => fOr (fI0 fun i j => .int (i + j)) fAddS
  | .Sub => subD
  | .Mult => fI CMul fun i j => .int (i * j)
  | .FloorDiv => fI CDiv fun i j => .int (i / j)
  | .Mod => modD
  | .LShift => shlD
  | .RShift => shrD
  | .BitAnd => andD
  | .BitOr => orD
  | .BitXor => xorD
  | _ => fun _ _ _ => none
theorem iop_ok (X : Cx) (op : Operator) : ∃ r, OpR X (inplaceOp op) r ∧ Snd2 X.K (iopD op) r := by
  have none_ : ∀ op', ∃ r, OpR X (inplaceOp op') r ∧ Snd2 X.K (fun _ _ _ => none) r := fun op' => ⟨fun _ _ _ _ => False, fun _ _ _ _ _ _ _ _ _ _ _ _ h => h.elim, fun _ _ _ _ _ _ _ _ _ _ _ _ e _ => nomatch e⟩
  cases op with
  | Add => exact ⟨_, iop_add.or iop_add_str, (snd_I0 (by intros; rfl)).or snd_addS⟩
  | Sub => exact ⟨_, iop_sub, snd_I0 (by intros; rfl)⟩
  | Mult => exact ⟨_, iop_mul, snd_I (by intros; rfl)⟩
  | FloorDiv => exact ⟨_, iop_fdiv, snd_I (by intros; rfl)⟩
  | Mod => exact ⟨_, iop_mod, snd_I (by intros; rfl)⟩
  | LShift => exact ⟨_, iop_shl, snd_I (by intros; rfl)⟩
  | RShift => exact ⟨_, iop_shr, snd_I (by intros; rfl)⟩
  | BitAnd => exact ⟨_, iop_and, snd_I0 (by intros; rfl)⟩
  | BitOr => exact ⟨_, iop_or, snd_I0 (by intros; rfl)⟩
  | BitXor => exact ⟨_, iop_xor, snd_I0 (by intros; rfl)⟩
  | Pow => exact none_ _
  | MatMult => exact none_ _
  | Div => exact none_ _
def saug (i : Nat) (op : Operator) (m : M D) : MS := fun s h => match s[i]? with
  | some (some x) => (m s h).toS s fun y h1 => match iopD op h1 x y with
    | some z => .nx (s.set i (some z)) h1
    | none => .bad
  | _ => .bad
/-- o[i], of lists and dicts -/
def getD (h : DH) (o i : D) : Option D := match o with
  | .ref j => match h[j]? with
    | some (.lst ds) => match i with
      | .int k => if 0 ≤ k then ds[k.toNat]? else none
      | _ => none
    | some (.dK kvs) => i.key.bind (dLook kvs)
    | _ => none
  | _ => none
def saugS (op : Operator) (o i m : M D) : MS := fun s h => (o s h).toS s fun a h1 => (i s h1).toS s fun x h2 => match getD h2 a x with
  | none => .bad
  | some old => (m s h2).toS s fun y h3 => match iopD op h3 old y with
    | none => .bad
    | some z => match setD h3 a x z with
      | some h4 => .nx s h4
      | none => .bad
def forG (it : IT) (t : Tg) (body : MS) : Nat → Nat → MS
  | k, i, s, h => match it.get i h with
    | some none => .nx s h
    | some (some d) => match k with
      | 0 => .bad
      | k + 1 => match t.put d s with
        | none => .bad
        | some s2 => match body s2 h with
          | .nx s3 h3 => forG it t body k (i + 1) s3 h3
          | .ct s3 h3 => forG it t body k (i + 1) s3 h3
          | .bk s3 h3 => .nx s3 h3
          | .rt d h3 => .rt d h3
          | .err x s3 h3 => .err x s3 h3
          | .bad => .bad
    | none => .bad
def sfor (mi : M IT) (t : Tg) (body : MS) : MS := fun s h => (mi s h).toS s fun it h1 => forG it t body it.n 0 s h1
def whG (c : M Bool) (body : MS) : Nat → MS
  | k, s, h => (c s h).toS s fun b h1 => if b = true then (match k with
      | 0 => .bad
      | k + 1 => match body s h1 with
        | .nx s3 h3 => whG c body k s3 h3
        | .ct s3 h3 => whG c body k s3 h3
        | .bk s3 h3 => .nx s3 h3
        | .rt d h3 => .rt d h3
        | .err x s3 h3 => .err x s3 h3
        | .bad => .bad) else .nx s h1

section
variable {X : Cx} {W : WX} {pos : Pos} {a b c e : Expr} {ma mb mc m : M D} {tc : M Bool}
theorem s_nil : DSs X W [] snext := PSs_imp pss_nil fun E σ H ⟨ι, s, h, rs, rh, p⟩ => p ι σ H (.refl _ _) rs rh
theorem s_cons {st : Stmt} {rest : List Stmt} {m1 m2 : MS} (h1 : DS X W st m1) (h2 : DSs X W rest m2) : DSs X W (st :: rest) (sseq m1 m2) :=
  PSs_imp (pss_cons h1 h2) fun E σ H ⟨ι, s, h, rs, rh, p⟩ => by
    refine ⟨ι, s, h, rs, rh, ?_⟩
    unfold sseq at p
    cases e : m1 s h with
    | nx s1 h1 =>
      simp only [e] at p
      exact fun ι1 σ1 H1 e1 rs1 rh1 => ⟨ι1, s1, h1, rs1, rh1, PostS.ext e1 p⟩
    | rt _ _ => simp only [e] at p; exact p
    | bk _ _ => simp only [e] at p; exact p
    | ct _ _ => simp only [e] at p; exact p
    | err _ _ _ => simp only [e] at p; exact p
    | bad => simp only [e] at p; exact p
theorem s_ret (ha : DE X W a ma) : DS X W (.Return (some a) pos) (sret ma) :=
  PS_imp (ps_ret ha) fun E σ H ⟨ι, s, h, rs, rh, p⟩ => tM.stepS rs rh p fun d h1 ι1 v H1 rs1 e1 rh1 rv p1 => p1 ι1 v H1 (.refl _ _) rh1 rv
theorem s_retN : DS X W (.Return none pos) sretN := PS_imp ps_retN fun E σ H ⟨ι, s, h, rs, rh, p⟩ => p ι _ H (.refl _ _) rh rfl
theorem s_pass : DS X W (.Pass pos) snext := PS_imp ps_pass fun E σ H ⟨ι, s, h, rs, rh, p⟩ => p ι σ H (.refl _ _) rs rh
theorem s_break : DS X W (.Break pos) sbreak := PS_imp ps_break fun E σ H ⟨ι, s, h, rs, rh, p⟩ => p ι σ H (.refl _ _) rs rh
theorem s_cont : DS X W (.Continue pos) scont := PS_imp ps_continue fun E σ H ⟨ι, s, h, rs, rh, p⟩ => p ι σ H (.refl _ _) rs rh
theorem s_expr (ha : DE X W a ma) (hs : swapsWith a none pos.line X.env = pure false) : DS X W (.Expr a pos) (sdrop ma) :=
  PS_imp (ps_expr ha hs) fun E σ H ⟨ι, s, h, rs, rh, p⟩ => tM.stepS rs rh p fun d h1 ι1 v H1 rs1 e1 rh1 rv p1 => p1 ι1 σ H1 (.refl _ _) rs1 rh1
theorem s_if {p q : List Stmt} {m1 m2 : MS} (hc : DT X W c tc) (h1 : DSs X W p m1) (h2 : DSs X W q m2) : DS X W (.If c p q pos) (sif tc m1 m2) :=
  PS_imp (ps_if hc h1 h2) fun E σ H ⟨ι, s, h, rs, rh, p⟩ => tM.stepS rs rh p fun k h1 ι1 x H1 rs1 e1 rh1 (rx : k = x) p1 => by
    subst rx
    cases k with
    | true => exact iteT ⟨ι1, s, h1, rs1, rh1, p1⟩
    | false => exact iteF ⟨ι1, s, h1, rs1, rh1, p1⟩
/-- the store of an assignment -/
theorem asg_end {K : Fg} {ι : Loc} {σ : L2.St} {H : Hp} {E : Ends} {s : SS} {h : DH} {d : D} {v : V} {t : Tg} (rs : RepS K ι H s σ) (rh : RepH K ι H h) (rv : RepV K ι H d v)
    (p : PostS K W ι H E (match t.put d s with
      | some s1 => .nx s1 h
      | none => .bad)) : gT K t v σ H E.nx := by
  cases q : t.put d s with
  | none => rw [q] at p; exact p.elim
  | some s1 =>
    rw [q] at p
    exact ⟨ι, s, d, rs, rv, s1, q, fun σ' rs' _ => p ι σ' H (.refl _ _) rs' rh⟩
theorem s_asg {tg : Expr} {t : Tg} (ha : DE X W a ma) (hg : PG X tg (gT X.K t)) (hs : swapsWithSole [tg] a pos.line X.env = pure false) (hw : swappedStores [tg] a X.env = pure none)
    (h1 : (assignEach [tg] X.env).map (·.2) = [assign tg X.env]) : DS X W (.Assign [tg] a pos) (sasg ma t) :=
  PS_imp (ps_asg ha hg hs hw h1) fun E σ H ⟨ι, s, h, rs, rh, p⟩ => tM.stepS rs rh p fun d h1 ι1 v H1 rs1 e1 rh1 rv p1 => asg_end rs1 rh1 rv p1
/-- name = [.. for ..] on one line -/
theorem s_setLc {i : Nat} {y : Str} {py spos : Pos} {elt tg iter : Expr} {ifs : List Expr} {scope : Scope} {own : List (Str × Nat)} {mi : M IT} {t : Tg} {tt : M Bool} {te : M D} (r : Bool) (hc : X.calm = true) (hN : X.N.Nodup) (hy : X.N[i]? = some y) (hyl : X.env.scope.names.lookup y = some .local)
    (hsw : swapsWith (.ListComp elt [⟨tg, iter, ifs, 0⟩] scope pos) (some (.Name y py)) spos.line X.env = pure true) (hi : DI X W tg iter mi) (ok : BlkOk X.N X.env.scope scope own)
    (hg : ∀ (s : Shared) (H : Hp) (C : Addr) (cl : List (Str × Addr)) (fp : List Addr), PG (X.blk s H scope (compEnvC scope cl C X.env) fp) tg (gT X.K t))
    (ht : ∀ (s : Shared) (H : Hp) (C : Addr) (cl : List (Str × Addr)) (fp : List Addr), PTs (X.blk s H scope (compEnvC scope cl C X.env) fp) ifs (tM X.K WNo relB tt))
    (he : ∀ (s : Shared) (H : Hp) (C : Addr) (cl : List (Str × Addr)) (fp : List Addr), PE (X.blk s H scope (compEnvC scope cl C X.env) fp) elt (tM X.K WNo (relV X.K) te)) (hs : ∀ x, foldedSetIterable iter X.env x = pure x)
    (hsl : ∀ i, i ∈ t.sl → i ∈ own.map (·.2)) : DS X W (.Assign [.Name y py] (.ListComp elt [⟨tg, iter, ifs, 0⟩] scope pos) spos) (sasg (if r = true then mnew (mlc mi t tt te (own.map (·.2))) else mval (mlc mi t tt te (own.map (·.2)))) (.nm i)) := by
  refine PS_imp (ps_setLc hc hN hy hyl hsw hi ok hg ht he hs) fun E σ H ⟨ι, s, h, rs, rh, p⟩ => lc_imp hsl ⟨ι, s, h, rs, rh, ?_⟩
  have fin : ∀ {ι1 : Loc} {H1 : Hp} {d : D} {v : V} {h1 : DH}, RepS X.K ι1 H1 s σ → RepH X.K ι1 H1 h1 → RepV X.K ι1 H1 d v → PostS X.K W ι1 H1 E (.nx (s.set i (some d)) h1) → gName i v σ H1 E.nx := fun {ι1 H1 d v h1} rs1 rh1 rv p1 =>
    p1 ι1 _ H1 (.refl _ _) (rs1.set i rv) rh1
  cases r with
  | true =>
    refine post_ref rh (PostS.step rs (show PostS X.K W ι H E (((mlc mi t tt te (own.map (·.2)) s h).bind fun ds h => .ok (.ref h.length) (h ++ [.lst ds])).toS s fun d h1 => .nx (s.set i (some d)) h1) from p) fun d h1 ι1 v H1 rs1 e1 rh1 rv p1 => fin rs1 rh1 rv p1)
  | false =>
    refine post_val rh (PostS.step rs (show PostS X.K W ι H E (((mlc mi t tt te (own.map (·.2)) s h).bind fun ds h => .ok (.lst ds) h).toS s fun d h1 => .nx (s.set i (some d)) h1) from p) fun d h1 ι1 v H1 rs1 e1 rh1 rv p1 => fin rs1 rh1 rv p1)
theorem s_par2 {i j : Nat} {x y : Str} {mm : M (List D)} {px py pt : Pos} {kt k2 pt2} (hc : X.calm = true) (hN : X.N.Nodup) (hi : X.N[i]? = some x) (hj : X.N[j]? = some y) (hij : i ≠ j)
    (hx : X.env.scope.names.lookup x = some .local) (hy : X.env.scope.names.lookup y = some .local) (ha : DA X W [a, b] mm)
    (hw : swappedStores [.Tuple [.Name x px, .Name y py] kt pt] (.Tuple [a, b] k2 pt2) X.env = pure (some [x, y]))
    (hs : swapsWithSole [.Tuple [.Name x px, .Name y py] kt pt] (.Tuple [a, b] k2 pt2) pos.line X.env = pure false) :
    DS X W (.Assign [.Tuple [.Name x px, .Name y py] kt pt] (.Tuple [a, b] k2 pt2) pos) (spar2 i j mm) :=
  PS_imp (ps_par hc hN hi hj hij hx hy ha hw hs) fun E σ H ⟨ι, s, h, rs, rh, p⟩ => tM.stepS rs rh p fun ds h1 ι1 vs H1 rs1 e1 rh1 rv p1 => by
    split at p1
    · rename_i d1 d2
      obtain ⟨v, w, rfl, r1, r2⟩ := rvs2 rv
      exact ⟨v, w, rfl, p1 ι1 _ H1 (.refl _ _) ((rs1.set i r1).set j r2) rh1⟩
    · exact p1.elim
theorem s_par3 {i j l : Nat} {x y z : Str} {mm : M (List D)} {px py pz pt : Pos} {kt k2 pt2} (hc : X.calm = true) (hN : X.N.Nodup) (hi : X.N[i]? = some x) (hj : X.N[j]? = some y) (hl : X.N[l]? = some z) (hij : i ≠ j) (hil : i ≠ l) (hjl : j ≠ l)
    (hx : X.env.scope.names.lookup x = some .local) (hy : X.env.scope.names.lookup y = some .local) (hz : X.env.scope.names.lookup z = some .local) (ha : DA X W [a, b, c] mm)
    (hw : swappedStores [.Tuple [.Name x px, .Name y py, .Name z pz] kt pt] (.Tuple [a, b, c] k2 pt2) X.env = pure (some [x, y, z]))
    (hs : swapsWithSole [.Tuple [.Name x px, .Name y py, .Name z pz] kt pt] (.Tuple [a, b, c] k2 pt2) pos.line X.env = pure false) :
    DS X W (.Assign [.Tuple [.Name x px, .Name y py, .Name z pz] kt pt] (.Tuple [a, b, c] k2 pt2) pos) (spar3 i j l mm) :=
  PS_imp (ps_par3 hc hN hi hj hl hij hil hjl hx hy hz ha hw hs) fun E σ H ⟨ι, s, h, rs, rh, p⟩ => tM.stepS rs rh p fun ds h1 ι1 vs H1 rs1 e1 rh1 rv p1 => by
    split at p1
    · rename_i d1 d2 d3
      obtain ⟨v, t, rfl, r1, r4⟩ := rv
      obtain ⟨w, u, rfl, r2, r3⟩ := rvs2 r4
      exact ⟨v, w, u, rfl, p1 ι1 _ H1 (.refl _ _) (((rs1.set i r1).set j r2).set l r3) rh1⟩
    · exact p1.elim
/-! ### stores to o[i] -/
theorem PSet_or {t u : TSet} (h : PSet X t) (g : PSet X u) : PSet X (fun o i v H Q => t o i v H Q ∨ u o i v H Q) := by
  intro pins s σ H o i v ov iv w Q I r1 r2 r3 q
  rcases q with q | q
  · exact h pins s σ H o i v ov iv w Q I r1 r2 r3 q
  · exact g pins s σ H o i v ov iv w Q I r1 r2 r3 q
def rSetK : TSet := fun o i v H Q => ∃ a H', o = .ref a ∧ DPut H a i v H' ∧ Q H'
theorem set_dict (hu : X.A.units + 1 < cLine) : PSet X rSetK := by
  intro pins s σ H o i v ov iv u Q I ro ri rv h
  obtain ⟨a, H', rfl, g, q⟩ := h
  obtain rfl : ov = Value.ref a := ro
  exact d_setItem hu I g ri rv fun s' I' => ⟨H', I', q⟩
theorem dPut_rep {K : Fg} {ι : Loc} {H : Hp} (k : Key) {d : D} {v : V} (rv : RepV K ι H d v) {kvs : List (Key × D)} {ws : List (Key × V)} (e : ws.map (·.1) = kvs.map (·.1)) (r : RepVs K ι H (kvs.map (·.2)) (ws.map (·.2))) :
    (putK ws k v).map (·.1) = (dPut kvs k d).map (·.1) ∧ RepVs K ι H ((dPut kvs k d).map (·.2)) ((putK ws k v).map (·.2)) := by
  have an : ∀ {kvs : List (Key × D)} {ws : List (Key × V)}, ws.map (·.1) = kvs.map (·.1) → (ws.any fun kv => decide (kv.1 = k)) = (kvs.any fun kv => decide (kv.1 = k)) := by
    intro kvs
    induction kvs with
    | nil =>
      intro ws e
      have z : ws = [] := by simpa using e
      subst z; rfl
    | cons p r ih =>
      intro ws e
      cases ws with
      | nil => simp at e
      | cons w ws =>
        simp only [List.map_cons, List.cons.injEq] at e
        rw [List.any_cons, List.any_cons, e.1, ih e.2]
  have mp : ∀ {kvs : List (Key × D)} {ws : List (Key × V)}, ws.map (·.1) = kvs.map (·.1) → RepVs K ι H (kvs.map (·.2)) (ws.map (·.2)) →
      ((ws.map fun kv => if kv.1 = k then (kv.1, v) else kv).map (·.1) = (kvs.map fun kv => if kv.1 = k then (kv.1, d) else kv).map (·.1) ∧
        RepVs K ι H ((kvs.map fun kv => if kv.1 = k then (kv.1, d) else kv).map (·.2)) ((ws.map fun kv => if kv.1 = k then (kv.1, v) else kv).map (·.2))) := by
    intro kvs
    induction kvs with
    | nil =>
      intro ws e _
      have z : ws = [] := by simpa using e
      subst z; exact ⟨rfl, rfl⟩
    | cons p r ih =>
      intro ws e q
      cases ws with
      | nil => simp at e
      | cons w ws =>
        simp only [List.map_cons, List.cons.injEq] at e
        obtain ⟨x, t, ex, h2, h3⟩ := q
        simp only [List.map_cons, List.cons.injEq] at ex
        obtain ⟨ex1, ex2⟩ := ex
        subst ex1; subst ex2
        obtain ⟨i1, i2⟩ := ih e.2 h3
        by_cases hk : p.1 = k
        · have hk' : w.1 = k := e.1.trans hk
          simp only [List.map_cons, if_pos hk, if_pos hk', i1, e.1, true_and]
          exact ⟨v, _, rfl, rv, i2⟩
        · have hk' : ¬ w.1 = k := fun z => hk (e.1.symm.trans z)
          simp only [List.map_cons, if_neg hk, if_neg hk', i1, e.1, true_and]
          exact ⟨_, _, rfl, h2, i2⟩
  unfold putK dPut
  rw [an e]
  by_cases z : (kvs.any fun kv => decide (kv.1 = k)) = true
  · rw [if_pos z, if_pos z]
    exact mp e r
  · rw [if_neg z, if_neg z]
    refine ⟨by simp [e], ?_⟩
    rw [List.map_append, List.map_append]
    exact r.append (.one rv)
theorem set_end {K : Fg} {ι : Loc} {H : Hp} {h h' : DH} {o i v : V} {dob di dv : D} {Q : Hp → Prop} (rh : RepH K ι H h) (ro : RepV K ι H dob o) (ri : RepV K ι H di i) (rv : RepV K ι H dv v) (e : setD h dob di dv = some h')
    (q : ∀ H', Ext ι H ι H' → RepH K ι H' h' → Q H') : rSetL o i v H Q ∨ rSetK o i v H Q := by
  unfold setD at e
  split at e
  · rename_i j
    obtain ⟨a, rfl, k1⟩ := ro
    have mem : a ∈ ι.ad := List.mem_of_getElem? k1
    split at e
    · rename_i ds k2
      have ro := rh.obj j _ a k2 k1
      obtain ⟨xs, k3, k4⟩ := ro
      split at e
      · rename_i k
        cases ri
        cases z : ixN ds.length k with
        | none => rw [z] at e; cases e
        | some m =>
          rw [z] at e; cases e
          refine .inl ⟨a, xs, k, m, rfl, rfl, k3, by rw [← k4.length]; exact z, q _ (.write mem) (rh.write k1 ⟨_, upd_same, ?_⟩)⟩
          exact (RepVs.ext (.write mem) _ _ k4).set m (RepV.ext (.write mem) _ _ rv)
      · cases e
    · rename_i kvs k2
      have ro := rh.obj j _ a k2 k1
      obtain ⟨ws, k3, k4, k5⟩ := ro
      split at e
      · rename_i k ek
        split at e
        · rename_i hz
          cases e
          have := key_rep ri ek
          subst this
          have l : ws.length = kvs.length := by have := congrArg List.length k4; simpa using this
          refine .inr ⟨a, _, rfl, DPut.k k3 (by omega), q _ (.write mem) (rh.write k1 ?_)⟩
          obtain ⟨z1, z2⟩ := dPut_rep k (RepV.ext (.write (u := .dK (putK ws k v)) mem) _ _ rv) k4 (RepVs.ext (.write (u := .dK (putK ws k v)) mem) _ _ k5)
          exact ⟨_, upd_same, z1, z2⟩
        · cases e
      · cases e
    · cases e
  · cases e
theorem s_sub {o i : Expr} {mo mi : M D} {tpos : Pos} (hu : X.A.units + 1 < cLine) (ha : DE X W a ma) (ho : DE X W o mo) (hi : DE X W i mi)
    (hv : ∀ v, assign (.Subscript o i tpos) X.env v = (do
      let ov ← holding [v] (eval o X.env)
      let iv ← holding [v, ov] (eval i X.env)
      standAt tpos
      holding [v, ov, iv] (setItem ov iv v)
      release [v, ov, iv] []))
    (hs : swapsWithSole [.Subscript o i tpos] a pos.line X.env = pure false) (hw : swappedStores [.Subscript o i tpos] a X.env = pure none)
    (h1 : (assignEach [.Subscript o i tpos] X.env).map (·.2) = [assign (.Subscript o i tpos) X.env]) : DS X W (.Assign [.Subscript o i tpos] a pos) (ssub ma mo mi) :=
  PS_imp (ps_asg ha (pg_sub ho hi (PSet_or set_list (set_dict hu)) hv) hs hw h1) fun E σ H ⟨ι, s, h, rs, rh, p⟩ => tM.stepS rs rh p fun dv h1 ι1 v H1 rs1 e1 rh1 rv p1 =>
    tM.stepS rs1 rh1 p1 fun dob h2 ι2 ov H2 rs2 e2 rh2 ro p2 => tM.stepS rs2 rh2 p2 fun di h3 ι3 iv H3 rs3 e3 rh3 ri p3 => by
      cases z : setD h3 dob di dv with
      | none => rw [z] at p3; exact p3.elim
      | some h4 =>
        rw [z] at p3
        exact set_end rh3 (RepV.ext e3 _ _ ro) ri (RepV.ext (e2.trans e3) _ _ rv) z fun H4 e4 rh4 => p3 ι3 σ H4 e4 (rs3.ext e4) rh4
/-! ### op= -/
theorem s_aug {i : Nat} {x : Str} {op : Operator} {p0 : Pos} (hN : X.N.Nodup) (hi : X.N[i]? = some x) (hx : L2.Loc X.env.scope x) (ha : DE X W a ma) (hf : X.fn x = true ∨ X.env.scope.names.lookup x = some .local) : DS X W (.AugAssign (.Name x p0) op a pos) (saug i op ma) := by
  obtain ⟨r, ho, hs⟩ := iop_ok X op
  refine PS_imp (ps_aug (ti := r) hN hi hx ha ho hf) fun E σ H ⟨ι, s, h, rs, rh, p⟩ => ?_
  unfold saug at p
  cases e0 : s[i]? with
  | none => simp only [e0] at p; exact p.elim
  | some o0 =>
    cases o0 with
    | none => simp only [e0] at p; exact p.elim
    | some dx =>
      simp only [e0] at p
      obtain ⟨vx, k1, k2⟩ := rs.2 i dx e0
      refine ⟨vx, k1, tM.stepS rs rh p fun dy h1 ι1 y H1 rs1 e1 rh1 ry p1 => ?_⟩
      cases z : iopD op h1 dx dy with
      | none => simp only [z] at p1; exact p1.elim
      | some w =>
        simp only [z] at p1
        exact hs ι1 H1 h1 vx y dx dy w _ rh1 (RepV.ext e1 _ _ k2) ry z fun v ι2 H2 e2 rh2 rv => p1 ι2 _ H2 e2 ((rs1.ext e2).set i rv) rh2
/-- o[i], read by op= -/
def rGetL (K : Fg) : V → V → Hp → VK → Prop := fun o i H Q => ∃ a xs k v, o = .ref a ∧ i = .int k ∧ H a = some (.lst xs) ∧ 0 ≤ k ∧ xs[k.toNat]? = some v ∧ Q v H
theorem get_list : PGet X (rGetL X.K) := by
  intro pins s σ H o i ov iv Q I ro ri h
  obtain ⟨a, xs, k, v, rfl, rfl, hH, h0, hx, q⟩ := h
  cases ro
  obtain ⟨t, rfl⟩ := ri
  obtain ⟨its, r, pl, hz⟩ := I.list (.of hH)
  obtain ⟨w, ew, rw'⟩ := r.get hx
  have hl := r.length
  have hn := line63
  have hk : k.toNat < xs.length := (List.getElem?_eq_some_iff.mp hx).1
  exact wpAny_getItem_list pl.isList h0 (by omega) (by simpa using ew) ⟨v, H, I, rw', q⟩
def rGetK : V → V → Hp → VK → Prop := fun o i H Q => ∃ a v, o = .ref a ∧ DGet H a i (some v) ∧ Q v H
theorem get_dict (hu : X.A.units + 1 < cLine) : PGet X rGetK := by
  intro pins s σ H o i ov iv Q I ro ri h
  obtain ⟨a, v, rfl, g, q⟩ := h
  obtain rfl : ov = Value.ref a := ro
  exact d_getItem hu I g ri fun w s' I' rw' => ⟨v, H, I', rw', q⟩
theorem PGet_or {t u : V → V → Hp → VK → Prop} (h : PGet X t) (g : PGet X u) : PGet X (fun o i H Q => t o i H Q ∨ u o i H Q) := by
  intro pins s σ H o i ov iv Q I r1 r2 q
  rcases q with q | q
  · exact h pins s σ H o i ov iv Q I r1 r2 q
  · exact g pins s σ H o i ov iv Q I r1 r2 q
theorem get_end {K : Fg} {ι : Loc} {H : Hp} {h : DH} {o i : V} {dob di z : D} {Q : VK} (rh : RepH K ι H h) (ro : RepV K ι H dob o) (ri : RepV K ι H di i) (e : getD h dob di = some z)
    (q : ∀ v, RepV K ι H z v → Q v H) : rGetL K o i H Q ∨ rGetK o i H Q := by
  unfold getD at e
  split at e
  · rename_i j
    obtain ⟨a, rfl, k1⟩ := ro
    split at e
    · rename_i ds k2
      have ro := rh.obj j _ a k2 k1
      obtain ⟨xs, k3, k4⟩ := ro
      split at e
      · rename_i k
        cases ri
        split at e
        · rename_i h0
          obtain ⟨v, k5, k6⟩ := k4.get e
          exact .inl ⟨a, xs, k, v, rfl, rfl, k3, h0, k5, q v k6⟩
        · cases e
      · cases e
    · rename_i kvs k2
      have ro := rh.obj j _ a k2 k1
      obtain ⟨ws, k3, k4, k5⟩ := ro
      cases ek : di.key with
      | none => rw [ek] at e; cases e
      | some k =>
        rw [ek] at e
        have e : dLook kvs k = some z := e
        have := key_rep ri ek
        subst this
        have lk := dict_look (K := K) (ι := ι) (H := H) k k4 k5
        rw [e] at lk
        obtain ⟨v, k6, k7⟩ := lk
        refine .inr ⟨a, v, rfl, ?_, q v k7⟩
        rw [← k6]
        exact DGet.k k3
    · cases e
  · cases e
theorem s_augS {op : Operator} {o i : Expr} {mo mi : M D} {tpos : Pos} (hu : X.A.units + 1 < cLine) (ho : DE X W o mo) (hi : DE X W i mi) (ha : DE X W a ma)
    (hv : ∀ ov iv new, augStore i ov iv new = (do holding [new, ov, iv] (setItem ov iv new); release [new, ov, iv] []; pure .next)) : DS X W (.AugAssign (.Subscript o i tpos) op a pos) (saugS op mo mi ma) := by
  obtain ⟨r, hop, hs⟩ := iop_ok X op
  refine PS_imp (ps_augS (tip := r) ho hi (PGet_or get_list (get_dict hu)) ha hop (PSet_or set_list (set_dict hu)) hv) fun E σ H ⟨ι, s, h, rs, rh, p⟩ => ?_
  refine tM.stepS rs rh p fun dob h1 ι1 ov H1 rs1 e1 rh1 ro p1 => tM.stepS rs1 rh1 p1 fun di h2 ι2 iv H2 rs2 e2 rh2 ri p2 => ?_
  cases z : getD h2 dob di with
  | none => rw [z] at p2; exact p2.elim
  | some old =>
    rw [z] at p2
    refine get_end rh2 (RepV.ext e2 _ _ ro) ri z fun w rw' => tM.stepS rs2 rh2 p2 fun dy h3 ι3 y H3 rs3 e3 rh3 ry p3 => ?_
    cases z2 : iopD op h3 old dy with
    | none => simp only [z2] at p3; exact p3.elim
    | some nw =>
      simp only [z2] at p3
      refine hs ι3 H3 h3 w y old dy nw _ rh3 (RepV.ext e3 _ _ rw') ry z2 fun v ι4 H4 e4 rh4 rv => ?_
      cases z3 : setD h3 dob di nw with
      | none => simp only [z3] at p3; exact p3.elim
      | some h4 =>
        simp only [z3] at p3
        exact set_end rh4 (RepV.ext ((e2.trans e3).trans e4) _ _ ro) (RepV.ext (e3.trans e4) _ _ ri) rv z3 fun H5 e5 rh5 => p3 ι4 σ H5 (e4.trans e5) ((rs3.ext e4).ext e5) rh5
/-! ### loops -/
theorem s_for {tg iter : Expr} {body : List Stmt} {mi : M IT} {t : Tg} {mb : MS} (hp : PassesOwn (model X.prog X.w) X.A X.env X.xe) (hc : X.calm = true) (hi : DI X W tg iter mi) (hg : PG X tg (gT X.K t)) (hb : DSs X W body mb)
    (hs : ∀ x, foldedSetIterable iter X.env x = pure x) : DS X W (.For tg iter body [] pos) (sfor mi t mb) := by
  refine PS_imp (ps_for hp hc hi hg hb hs) fun E σ H ⟨ι, s, h, rs, rh, p⟩ => tM.stepS rs rh p fun it h1 ι1 J H1 rs1 e1 rh1 rj p1 => ?_
  refine ⟨fun i m σ H => ∃ ι s h, Ext ι1 H1 ι H ∧ RepS X.K ι H s σ ∧ RepH X.K ι H h ∧ PostS X.K W ι1 H1 E (forG it t mb m i s h), ⟨it.n, ι1, s, h1, .refl _ _, rs1, rh1, p1⟩, ?_⟩
  rintro i m σ H ⟨ι, s, h, e, rs, rh, pn⟩
  have rj' := rj ι H h i e rh
  unfold forG at pn
  cases eg : it.get i h with
  | none => simp only [eg] at pn; exact pn.elim
  | some o =>
    rw [eg] at rj'
    cases o with
    | none =>
      simp only [eg] at pn
      exact .inl ⟨rj', pn ι σ H e rs rh⟩
    | some d =>
      simp only [eg] at pn
      cases m with
      | zero => exact pn.elim
      | succ k =>
        cases ep : t.put d s with
        | none => simp only [ep] at pn; exact pn.elim
        | some s2 =>
          simp only [ep] at pn
          refine .inr ⟨rj'.1, fun σ H => ∃ ι s h, Ext ι1 H1 ι H ∧ RepS X.K ι H s σ ∧ RepH X.K ι H h ∧ PostS X.K W ι1 H1 E (forG it t mb k (i + 1) s h), fun σ' H' z => ⟨k, Nat.lt_succ_self k, z⟩, fun x H' hy => ?_⟩
          obtain ⟨eY, rhY, rvY⟩ := rj'.2 x H' hy
          refine ⟨ι, s, d, rs.ext eY, rvY, s2, ep, fun σ2 rs2 off => ⟨ι, s2, h, rs2, rhY, ?_⟩⟩
          have e' := e.trans eY
          cases em : mb s2 h with
          | nx s3 h3 => simp only [em] at pn; exact fun ι3 σ3 H3 e3 rs3 rh3 => ⟨ι3, s3, h3, e'.trans e3, rs3, rh3, pn⟩
          | ct s3 h3 => simp only [em] at pn; exact fun ι3 σ3 H3 e3 rs3 rh3 => ⟨ι3, s3, h3, e'.trans e3, rs3, rh3, pn⟩
          | bk s3 h3 => simp only [em] at pn; exact fun ι3 σ3 H3 e3 rs3 rh3 => pn ι3 σ3 H3 (e'.trans e3) rs3 rh3
          | rt d3 h3 => simp only [em] at pn; exact fun ι3 v3 H3 e3 rh3 rv3 => pn ι3 v3 H3 (e'.trans e3) rh3 rv3
          | err x3 s3 h3 => simp only [em] at pn; exact fun ι3 σ3 c3 d3 H3 e3 rs3 rh3 rx3 => pn ι3 σ3 c3 d3 H3 (e'.trans e3) rs3 rh3 rx3
          | bad => simp only [em] at pn; exact pn.elim
theorem s_while {body : List Stmt} {mb : MS} (k0 : Nat) (hp : PassesOwn (model X.prog X.w) X.A X.env X.xe) (hc : DT X W c tc) (hb : DSs X W body mb) : DS X W (.While c body [] pos) (whG tc mb k0) := by
  refine PS_imp (ps_while hp hc hb) fun E σ H ⟨ι1, s1, h1, rs1, rh1, p1⟩ => ?_
  refine ⟨fun m σ' H' => ∃ ι s h, RepS X.K ι H' s σ' ∧ RepH X.K ι H' h ∧ PostS X.K W ι H' E (whG tc mb m s h), ⟨k0, ι1, s1, h1, rs1, rh1, p1⟩, ?_⟩
  rintro m σ' H' ⟨ι, s, h, rs, rh, pn⟩
  unfold whG at pn
  refine tM.stepS rs rh pn fun b h2 ι2 x H2 rs2 e2 rh2 (rx : b = x) p2 => ?_
  subst rx
  cases b with
  | false => exact iteF (p2 ι2 σ' H2 (.refl _ _) rs2 rh2)
  | true =>
    refine iteT ?_
    simp only [if_true] at p2
    cases m with
    | zero => exact p2.elim
    | succ k =>
      simp only at p2
      refine ⟨fun σ H => ∃ ι s h, RepS X.K ι H s σ ∧ RepH X.K ι H h ∧ PostS X.K W ι H E (whG tc mb k s h), fun σ' H' z => ⟨k, Nat.lt_succ_self k, z⟩, ι2, s, h2, rs2, rh2, ?_⟩
      cases em : mb s h2 with
      | nx s3 h3 => simp only [em] at p2; exact fun ι3 σ3 H3 e3 rs3 rh3 => ⟨ι3, s3, h3, rs3, rh3, PostS.ext e3 p2⟩
      | ct s3 h3 => simp only [em] at p2; exact fun ι3 σ3 H3 e3 rs3 rh3 => ⟨ι3, s3, h3, rs3, rh3, PostS.ext e3 p2⟩
      | bk s3 h3 => simp only [em] at p2; exact fun ι3 σ3 H3 e3 rs3 rh3 => p2 ι3 σ3 H3 e3 rs3 rh3
      | rt d3 h3 => simp only [em] at p2; exact fun ι3 v3 H3 e3 rh3 rv3 => p2 ι3 v3 H3 e3 rh3 rv3
      | err x3 s3 h3 => simp only [em] at p2; exact fun ι3 σ3 c3 d3 H3 e3 rs3 rh3 rx3 => p2 ι3 σ3 c3 d3 H3 e3 rs3 rh3 rx3
      | bad => simp only [em] at p2; exact p2.elim
end
end DL
end

section
set_option maxHeartbeats 2000000
/-! the reader of the text: what it computes, and that it does -/
namespace DL
open PySem PySem.Spec PyProof.Rows L2
variable [Tbs]

/-! ### looks at the text -/
def notStar : Expr → Bool
  | .Starred .. => false
  | _ => true
theorem star_ok {e : Expr} (h : notStar e = true) (es : List Expr) (env : Env) : starEach (e :: es) env = (false, eval e env) :: starEach es env := by
  cases e <;> first | rfl | cases h
def noStars (es : List Expr) : Bool := es.all notStar
theorem stars_any {es : List Expr} (h : noStars es = true) (env : Env) (pos : Pos) : (backTo pos (starEach es env)).any (·.1) = false := by
  induction es with
  | nil => rfl
  | cons e es ih =>
    unfold noStars at h
    rw [List.all_cons, Bool.and_eq_true] at h
    rw [star_ok h.1]
    show (false || (backTo pos (starEach es env)).any (·.1)) = false
    rw [ih h.2]; rfl
def plainHead : Expr → Bool
  | .UnaryOp .Not _ _ => false
  | .BoolOp .. => false
  | .IfExp .. => false
  | .Compare .. => false
  | _ => true
theorem head_ok {e : Expr} (h : plainHead e = true) (env : Env) : ∀ whole, isTrue e env whole = (do let v ← whole; standAt e.pos; holding [v] (truthy v)) := by
  intro whole
  cases e <;> first | rfl | cases h | skip
  rename_i op x p
  cases op <;> first | rfl | cases h
def notSet : Expr → Bool
  | .Set .. => false
  | _ => true
theorem set_ok {e : Expr} (h : notSet e = true) (op : CmpOp) : behindInMarks op e = false := by
  cases e <;> first | rfl | cases h
theorem fold_ok {e : Expr} (h : notSet e = true) (env : Env) : ∀ x, foldedSetIterable e env x = pure x := by
  intro x
  cases e <;> first | rfl | cases h
def notSlice : Expr → Bool
  | .Slice .. => false
  | _ => true
theorem ixp_ok {e : Expr} (h : notSlice e = true) : PlainIx e := by
  intro o i
  cases e <;> first | rfl | cases h
def notComp : Expr → Bool
  | .ListComp .. => false
  | .SetComp .. => false
  | .DictComp .. => false
  | _ => true
theorem comp_ok {e : Expr} (h : notComp e = true) (t : Option Expr) (l : Nat) (env : Env) : swapsWith e t l env = pure false := by
  cases e <;> first | rfl | cases h
theorem swapSole {t e : Expr} {l : Nat} {env : Env} : swapsWithSole [t] e l env = swapsWith e (some t) l env := rfl
def isTup : Expr → Bool
  | .Tuple .. => true
  | _ => false
def isNameE : Expr → Bool
  | .Name .. => true
  | _ => false
theorem stores_name {x : Str} {p : Pos} {e : Expr} {env : Env} : swappedStores [.Name x p] e env = pure none := by
  unfold swappedStores
  cases e <;> rfl
theorem stores_sub {o i : Expr} {p : Pos} {e : Expr} {env : Env} : swappedStores [.Subscript o i p] e env = pure none := by
  unfold swappedStores
  cases e <;> rfl
theorem stores_tup {ts : List Expr} {k : Nat} {p : Pos} {e : Expr} {env : Env} (h : isTup e = false) : swappedStores [.Tuple ts k p] e env = pure none := by
  unfold swappedStores
  cases e <;> first | rfl | cases h
theorem stores_len {ts vs : List Expr} {k k2 : Nat} {p p2 : Pos} {env : Env} (h : (ts.length == 2 || ts.length == 3) = false) : swappedStores [.Tuple ts k p] (.Tuple vs k2 p2) env = pure none := by
  unfold swappedStores
  simp only [h]
  rfl
theorem assign_sub {o i : Expr} {p : Pos} {env : Env} (h : notSlice i = true) : ∀ v, assign (.Subscript o i p) env v = (do
      let ov ← holding [v] (eval o env)
      let iv ← holding [v, ov] (eval i env)
      standAt p
      holding [v, ov, iv] (setItem ov iv v)
      release [v, ov, iv] []) := by
  intro v
  cases i <;> first | rfl | cases h
theorem aug_sub {i : Expr} (h : notSlice i = true) : ∀ ov iv new, augStore i ov iv new = (do holding [new, ov, iv] (setItem ov iv new); release [new, ov, iv] []; pure .next) := by
  intro ov iv new
  cases i <;> first | rfl | cases h
theorem each_one {t : Expr} (h : notStar t = true) (env : Env) : (assignEach [t] env).map (·.2) = [assign t env] := by
  cases t <;> first | rfl | cases h
theorem each_cons {t : Expr} (h : notStar t = true) (ts : List Expr) (env : Env) : assignEach (t :: ts) env = (false, assign t env) :: assignEach ts env := by
  cases t <;> first | rfl | cases h
theorem each_len {ts : List Expr} (h : noStars ts = true) (env : Env) : (assignEach ts env).length = ts.length ∧ (assignEach ts env).findIdx? (·.1) = none := by
  induction ts with
  | nil => exact ⟨rfl, rfl⟩
  | cons t ts ih =>
    unfold noStars at h
    rw [List.all_cons, Bool.and_eq_true] at h
    rw [each_cons h.1]
    obtain ⟨h1, h2⟩ := ih h.2
    refine ⟨by rw [List.length_cons, List.length_cons, h1], ?_⟩
    rw [List.findIdx?_cons]
    simp [h2]
/-- a, b = x, y whose stores are turned round -/
def parOk (sc : Scope) (xs : List (Str × Pos)) (vs : List Expr) : Bool :=
  (xs.length == 2 || xs.length == 3) && (vs.length == xs.length) && noStars vs && (xs.all fun p => sc.names.lookup p.1 == some .local && p.2.line == (xs.head?.map (·.2.line)).getD 0) &&
    ((xs.map (·.1)).eraseDups.length == xs.length) && !(vs.all (foldedForSure 8)) && !(vs.all (constantsAlone 8))
theorem blockKind_fn {env : Env} (h : env.scope.kind = .function) : env.blockKind = .function := by unfold Env.blockKind; rw [h]; rfl
theorem noStar_any {vs : List Expr} (h : noStars vs = true) : (vs.any fun | .Starred .. => true | _ => false) = false := by
  induction vs with
  | nil => rfl
  | cons v vs ih =>
    unfold noStars at h
    rw [List.all_cons, Bool.and_eq_true] at h
    rw [List.any_cons, ih h.2]
    cases v <;> first | rfl | cases h.1

theorem ns_mem {a : Expr} {es : List Expr} (h : noStars es = true) (m : a ∈ es) : notStar a = true := List.all_eq_true.mp h a m
theorem par2_ok {x y : Str} {px py pt pt2 : Pos} {a b : Expr} {k k2 : Nat} {env : Env} (hk : env.scope.kind = .function) (hx : env.scope.names.lookup x = some .local) (hy : env.scope.names.lookup y = some .local)
    (hl : (py.line == px.line) = true) (hxy : (y == x) = false) (hs : noStars [a, b] = true) (hf : ([a, b].all (foldedForSure 8)) = false) (hc : ([a, b].all (constantsAlone 8)) = false) :
    swappedStores [.Tuple [.Name x px, .Name y py] k pt] (.Tuple [a, b] k2 pt2) env = pure (some [x, y]) := by
  have hb := blockKind_fn hk
  have kx : env.kindOf x = some .local := hx
  have ky : env.kindOf y = some .local := hy
  have hl' : py.line = px.line := by simpa using hl
  unfold swappedStores
  have h1 := noStar_any hs
  simp only [List.length_cons, List.length_nil, hb, h1, hf, hc, List.head?_cons, Option.map_some, Option.getD_some, List.filterMap_cons, List.filterMap_nil, kx, ky, Expr.pos, hl']
  simp [List.eraseDups, List.eraseDupsBy, List.eraseDupsBy.loop, hxy]
  intro q
  rcases q with q | q
  · have z : notStar a = true := ns_mem hs (by simp)
    cases a <;> first | (cases z; done) | (cases q; done)
  · have z : notStar b = true := ns_mem hs (by simp)
    cases b <;> first | (cases z; done) | (cases q; done)
theorem par3_ok {x y z : Str} {px py pz pt pt2 : Pos} {a b c : Expr} {k k2 : Nat} {env : Env} (hk : env.scope.kind = .function) (hx : env.scope.names.lookup x = some .local) (hy : env.scope.names.lookup y = some .local) (hz : env.scope.names.lookup z = some .local)
    (hl : (py.line == px.line) = true) (hl2 : (pz.line == px.line) = true) (hxy : (y == x) = false) (hxz : (z == x) = false) (hyz : (z == y) = false) (hs : noStars [a, b, c] = true) (hf : ([a, b, c].all (foldedForSure 8)) = false) (hc : ([a, b, c].all (constantsAlone 8)) = false) :
    swappedStores [.Tuple [.Name x px, .Name y py, .Name z pz] k pt] (.Tuple [a, b, c] k2 pt2) env = pure (some [x, y, z]) := by
  have hb := blockKind_fn hk
  have kx : env.kindOf x = some .local := hx
  have ky : env.kindOf y = some .local := hy
  have kz : env.kindOf z = some .local := hz
  have hl' : py.line = px.line := by simpa using hl
  have hl2' : pz.line = px.line := by simpa using hl2
  unfold swappedStores
  have h1 := noStar_any hs
  simp only [List.length_cons, List.length_nil, hb, h1, hf, hc, List.head?_cons, Option.map_some, Option.getD_some, List.filterMap_cons, List.filterMap_nil, kx, ky, kz, Expr.pos, hl', hl2']
  simp [List.eraseDups, List.eraseDupsBy, List.eraseDupsBy.loop, hxy, hxz, hyz]
  intro q
  rcases q with q | q | q
  · have z : notStar a = true := ns_mem hs (by simp)
    cases a <;> first | (cases z; done) | (cases q; done)
  · have z : notStar b = true := ns_mem hs (by simp)
    cases b <;> first | (cases z; done) | (cases q; done)
  · have z : notStar c = true := ns_mem hs (by simp)
    cases c <;> first | (cases z; done) | (cases q; done)
/-- a tuple of all-constant texts is stored in order -/
theorem par_const {ts vs : List Expr} {k k2 : Nat} {p p2 : Pos} {env : Env} (hs : noStars vs = true) (hf : (vs.all (foldedForSure 8)) = true) : swappedStores [.Tuple ts k p] (.Tuple vs k2 p2) env = pure none := by
  unfold swappedStores
  have h1 := noStar_any hs
  simp only [h1, hf]
  repeat (first | rfl | split)
def dbg (x : Str) : Bool := !(x == ("__debug__" : Str)) && !(x == ("__classdict__" : Str)) && !(x == ("__name__" : Str))
theorem dbg_ok {x : Str} (h : dbg x = true) : (x == ("__debug__" : Str)) = false ∧ (x == ("__classdict__" : Str)) = false ∧ x ≠ ("__name__" : Str) := by
  unfold dbg at h
  simp only [Bool.and_eq_true, Bool.not_eq_true'] at h
  refine ⟨h.1.1, h.1.2, fun z => ?_⟩
  have := h.2
  rw [z] at this
  simp at this
end DL
end

section
set_option maxHeartbeats 2000000
/-! list(zip(a, b)) -/
namespace DLZ
open PySem
open Sem (wp)
theorem zip_no_len : typeLookup (.type "zip") "__len__" = pure none := am_miss_of_fast (by decide +kernel)
theorem zip_no_hint : typeLookup (.type "zip") "__length_hint__" = pure none := am_miss_of_fast (by decide +kernel)
section
variable {prog : Program} {w : World} {A : Around} {E : Value → Shared → Prop} {s : Shared} {z TI TO i1 i2 : Addr} {fp1 fp2 : List Addr} {n1 n2 i : Nat} {P1 P2 : Nat → Value → Prop} {St1 St2 : Nat → Heap → Prop} {a1 a2 : Value}
/-- next, the tuple given out before still there -/
theorem held_item {T : Addr} {f : Bool} {oT : Obj} {Q : Value → Shared → Prop} (S : ZipSep2 z TI TO i1 i2 fp1 fp2) (D1 : Draws prog w A i1 fp1 n1 P1 St1) (D2 : Draws prog w A i2 fp2 n2 P2 St2)
    (hz : IsZipHeld s.heap z TI TO T f) (hT : s.heap.get? T = some oT) (hTI : IsTupOf2 s.heap TI (.ref i1) (.ref i2)) (st1 : St1 i s.heap) (st2 : St2 i s.heap) (hlt1 : i < n1) (hlt2 : i < n2)
    (hQ : ∀ x1 x2 h' tk, P1 i x1 → P2 i x2 → IsZipHeld h' z TI TO T true → St1 (i + 1) h' → St2 (i + 1) h' → IsTupOf2 h' s.heap.objs.size x1 x2 → h'.objs.size = s.heap.objs.size + 1 →
      (∀ c o, c ≠ z → c ≠ i1 → c ≠ i2 → s.heap.get? c = some o → h'.get? c = some o) → Q (.ref s.heap.objs.size) { s with heap := h', toks := tk }) :
    wpAny (model prog w) A (Builtin.«zip.__next__» ⟨[.ref z], []⟩) (fun fin s' => ∃ v, fin = .done (.ret v) ∧ Q v s') E s := by
  obtain ⟨hp, g, d, tk0, os⟩ := s
  show wpAny _ _ (field (.ref z) 2 >>= _) _ _ _
  refine wpAny_bind (wpAny_field hz rfl (x := .bool false) rfl ?_)
  show wpAny _ _ (field (.ref z) 3 >>= _) _ _ _
  refine wpAny_bind (wpAny_field hz rfl (x := .ref TI) rfl ?_)
  refine wpAny_bind (wpAny_seqItems hTI rfl ?_)
  show wpAny _ _ (Builtin.SmallTypes.ownedTupleIsFree (.ref z) >>= _) _ _ _
  refine wpAny_bind (wpAny_tupleHeld_zip hz hT fun h₁ hz₁ hs₁ => ?_)
  replace hs₁ : Heap.SameBut z hp h₁ := hs₁
  simp only [Bool.false_eq_true, if_false]
  refine wpAny_bind ?_
  rw [← Array.forIn_toList]
  simp only [List.forIn_cons, List.forIn_nil]
  refine wpAny_bind (wpAny_bind (wpAny_holding ?_))
  show wpAny _ _ (Builtin.SmallTypes.nextOf (.ref i1) >>= _) _ _ ⟨h₁, g, d, tk0, os⟩
  refine wpAny_bind (D1.item i _ _ _ hlt1 (D1.over st1 hs₁ S.zf1) fun x1 p1 tk1 hx1 sn1 hp1 => wpAny_pure ?_)
  replace hp1 : Heap.SameBut i1 h₁ p1 := hp1
  refine wpAny_pure ?_
  refine wpAny_bind (wpAny_bind (wpAny_holding ?_))
  show wpAny _ _ (Builtin.SmallTypes.nextOf (.ref i2) >>= _) _ _ ⟨p1, g, d, tk1, os⟩
  refine wpAny_bind (D2.item i _ _ _ hlt2 (D2.over (D2.over st2 hs₁ S.zf2) hp1 S.sep1_2) fun x2 p2 tk2 hx2 sn2 hp2 => wpAny_pure ?_)
  replace hp2 : Heap.SameBut i2 p1 p2 := hp2
  refine wpAny_pure (wpAny_pure ?_)
  show wpAny _ _ (newTuple [x1, x2] >>= _) _ _ ⟨p2, g, d, tk2, os⟩
  refine wpAny_bind (wpAny_newTuple ?_)
  have hsz : p2.objs.size = hp.objs.size := by rw [hp2.1, hp1.1, hs₁.1]
  have hz3 : IsZipHeld p2 z TI TO T true := hp2.extBut _ _ S.zi2 (hp1.extBut _ _ S.zi1 hz₁)
  have hk : ∀ c o, c ≠ z → c ≠ i1 → c ≠ i2 → hp.get? c = some o → p2.get? c = some o := fun c o c1 c2 c3 e => hp2.extBut _ _ c3 (hp1.extBut _ _ c2 (hs₁.extBut _ _ c1 e))
  have hj1 : St1 (i + 1) p2 := D1.over sn1 hp2 S.sep2_1
  refine wpAny_pure ⟨_, rfl, ?_⟩
  show Q (.ref p2.objs.size) _
  have hpp : IsTupOf2 (p2.push { cls := .type "tuple", data := .seq #[x1, x2] }) p2.objs.size x1 x2 := Heap.get?_push_size _ rfl
  have hz4 : (p2.push { cls := .type "tuple", data := .seq #[x1, x2] }).objs.size = p2.objs.size + 1 := Heap.size_push ..
  rw [hsz] at hpp hz4 ⊢
  exact hQ x1 x2 _ tk2 hx1 hx2 (Heap.get?_push_of_some _ hz3) (D1.frame _ _ _ hj1 fun b hb o e => Heap.get?_push_of_some _ e) (D2.frame _ _ _ sn2 fun b hb o e => Heap.get?_push_of_some _ e) hpp hz4 fun c o c1 c2 c3 e => Heap.get?_push_of_some _ (hk c o c1 c2 c3 e)
theorem held_end {T : Addr} {f : Bool} {oT : Obj} {Q : Fin → Shared → Prop} (S : ZipSep2 z TI TO i1 i2 fp1 fp2) (D1 : Draws prog w A i1 fp1 n1 P1 St1) (D2 : Draws prog w A i2 fp2 n2 P2 St2)
    (hz : IsZipHeld s.heap z TI TO T f) (hT : s.heap.get? T = some oT) (hTI : IsTupOf2 s.heap TI (.ref i1) (.ref i2)) (st1 : St1 i s.heap) (st2 : St2 i s.heap) (hle1 : i ≤ n1) (hle2 : i ≤ n2) (hend : i = n1 ∨ i = n2)
    (hE : ∀ h' tk e, (∀ c o, c ≠ z → c ≠ i1 → c ≠ i2 → s.heap.get? c = some o → h'.get? c = some o) → (∃ o, h'.get? e = some o ∧ o.cls = .type "StopIteration") → E (.ref e) { s with heap := h', toks := tk }) :
    wpAny (model prog w) A (Builtin.«zip.__next__» ⟨[.ref z], []⟩) Q E s := by
  obtain ⟨hp, g, d, tk0, os⟩ := s
  show wpAny _ _ (field (.ref z) 2 >>= _) _ _ _
  refine wpAny_bind (wpAny_field hz rfl (x := .bool false) rfl ?_)
  show wpAny _ _ (field (.ref z) 3 >>= _) _ _ _
  refine wpAny_bind (wpAny_field hz rfl (x := .ref TI) rfl ?_)
  refine wpAny_bind (wpAny_seqItems hTI rfl ?_)
  show wpAny _ _ (Builtin.SmallTypes.ownedTupleIsFree (.ref z) >>= _) _ _ _
  refine wpAny_bind (wpAny_tupleHeld_zip hz hT fun h₁ hz₁ hs₁ => ?_)
  replace hs₁ : Heap.SameBut z hp h₁ := hs₁
  simp only [Bool.false_eq_true, if_false]
  refine wpAny_bind ?_
  rw [← Array.forIn_toList]
  simp only [List.forIn_cons, List.forIn_nil]
  refine wpAny_bind (wpAny_bind (wpAny_holding ?_))
  show wpAny _ _ (Builtin.SmallTypes.nextOf (.ref i1) >>= _) _ _ ⟨h₁, g, d, tk0, os⟩
  by_cases hlt1 : i < n1
  · refine wpAny_bind (D1.item i _ _ _ hlt1 (D1.over st1 hs₁ S.zf1) fun x1 p1 tk1 hx1 sn1 hp1 => wpAny_pure ?_)
    replace hp1 : Heap.SameBut i1 h₁ p1 := hp1
    refine wpAny_pure ?_
    have hi2 : i = n2 := by omega
    refine wpAny_bind (wpAny_bind (wpAny_holding ?_))
    show wpAny _ _ (Builtin.SmallTypes.nextOf (.ref i2) >>= _) _ _ ⟨p1, g, d, tk1, os⟩
    refine wpAny_bind (D2.done ⟨p1, g, d, tk1, os⟩ _ _ (by rw [← hi2]; exact D2.over (D2.over st2 hs₁ S.zf2) hp1 S.sep1_2) fun q e hq he => ?_)
    replace hq : Heap.ExtBut i2 p1 q := hq
    exact hE q tk1 e (fun c o c1 c2 c3 x => hq _ _ c3 (hp1.extBut _ _ c2 (hs₁.extBut _ _ c1 x))) he
  · have hi1 : i = n1 := by omega
    refine wpAny_bind (D1.done ⟨h₁, g, d, tk0, os⟩ _ _ (by rw [← hi1]; exact D1.over st1 hs₁ S.zf1) fun q e hq he => ?_)
    replace hq : Heap.ExtBut i1 h₁ q := hq
    exact hE q tk0 e (fun c o c1 c2 _ x => hq _ _ c2 (hs₁.extBut _ _ c1 x)) he
theorem next_held_item {T : Addr} {f : Bool} {oT : Obj} {Q : Option Value → Shared → Prop} (S : ZipSep2 z TI TO i1 i2 fp1 fp2) (D1 : Draws prog w A.in1 i1 fp1 n1 P1 St1) (D2 : Draws prog w A.in1 i2 fp2 n2 P2 St2)
    (hz : IsZipHeld s.heap z TI TO T f) (hT : s.heap.get? T = some oT) (hTI : IsTupOf2 s.heap TI (.ref i1) (.ref i2)) (st1 : St1 i s.heap) (st2 : St2 i s.heap) (hlt1 : i < n1) (hlt2 : i < n2)
    (hQ : ∀ x1 x2 h' tk, P1 i x1 → P2 i x2 → IsZipHeld h' z TI TO T true → St1 (i + 1) h' → St2 (i + 1) h' → IsTupOf2 h' s.heap.objs.size x1 x2 → h'.objs.size = s.heap.objs.size + 1 →
      (∀ c o, c ≠ z → c ≠ i1 → c ≠ i2 → s.heap.get? c = some o → h'.get? c = some o) → Q (some (.ref s.heap.objs.size)) { s with heap := h', toks := tk }) :
    wpAny (model prog w) A (pyNext (.ref z)) Q E s := by
  have hTy : s.TypeIs (.ref z) "zip" := ⟨_, hz, rfl⟩
  unfold pyNext
  exact wpAny_bind (wpAny_attempt (wpAny_callSpecial?_slot (name := Str.ofString "__next__") hTy F.slot_zip_next
    (wpAny_call_entry F.slot_zip_next hTy F.entry_zip_next
      (held_item S D1 D2 hz hT hTI st1 st2 hlt1 hlt2 fun x1 x2 h' tk y1 y2 b1 b2 d1 d2 b5 b6 => wpAny_pure (hQ x1 x2 h' tk y1 y2 b1 b2 d1 d2 b5 b6)) (F.args_zip_next_1 _))))
theorem next_held_end {T : Addr} {f : Bool} {oT : Obj} {Q : Option Value → Shared → Prop} (S : ZipSep2 z TI TO i1 i2 fp1 fp2) (D1 : Draws prog w A.in1 i1 fp1 n1 P1 St1) (D2 : Draws prog w A.in1 i2 fp2 n2 P2 St2)
    (hz : IsZipHeld s.heap z TI TO T f) (hT : s.heap.get? T = some oT) (hTI : IsTupOf2 s.heap TI (.ref i1) (.ref i2)) (st1 : St1 i s.heap) (st2 : St2 i s.heap) (hle1 : i ≤ n1) (hle2 : i ≤ n2) (hend : i = n1 ∨ i = n2)
    (hQ : ∀ h' tk, (∀ c o, c ≠ z → c ≠ i1 → c ≠ i2 → s.heap.get? c = some o → h'.get? c = some o) → Q none { s with heap := h', toks := tk }) : wpAny (model prog w) A (pyNext (.ref z)) Q E s := by
  have hTy : s.TypeIs (.ref z) "zip" := ⟨_, hz, rfl⟩
  unfold pyNext
  refine wpAny_bind (wpAny_attempt (wpAny_callSpecial?_slot (name := Str.ofString "__next__") hTy F.slot_zip_next
    (wpAny_call_entry F.slot_zip_next hTy F.entry_zip_next (held_end S D1 D2 hz hT hTI st1 st2 hle1 hle2 hend fun h' tk e hk he => ?_) (F.args_zip_next_1 _))))
  obtain ⟨o, ho, hc⟩ := he
  refine wpAny_bind (wpAny_isInstance (T := "StopIteration") (b := true) ⟨o, ho, hc⟩ isSubtype_stop ?_)
  exact wpAny_pure (hQ _ _ hk)
/-- the zip between two turns -/
def ZSt (z TI TO i1 i2 : Addr) (h : Heap) : Prop := IsTupOf2 h TI (.ref i1) (.ref i2) ∧ ((IsZip h z TI TO .none ∧ ∃ a1 a2, IsTupOf2 h TO a1 a2) ∨ ∃ T f oT, IsZipHeld h z TI TO T f ∧ h.get? T = some oT ∧ T ≠ z ∧ T ≠ i1 ∧ T ≠ i2 ∧ T ∉ [TI, TO])
/-- one turn -/
theorem zst_item {Q : Option Value → Shared → Prop} (S : ZipSep2 z TI TO i1 i2 fp1 fp2) (D1 : Draws prog w A.in1 i1 fp1 n1 P1 St1) (D2 : Draws prog w A.in1 i2 fp2 n2 P2 St2)
    (hz : ZSt z TI TO i1 i2 s.heap) (st1 : St1 i s.heap) (st2 : St2 i s.heap) (hlt1 : i < n1) (hlt2 : i < n2)
    (hlo : z < s.heap.objs.size ∧ TI < s.heap.objs.size ∧ TO < s.heap.objs.size ∧ i1 < s.heap.objs.size ∧ i2 < s.heap.objs.size)
    (hQ : ∀ x1 x2 h' tk, P1 i x1 → P2 i x2 → ZSt z TI TO i1 i2 h' → St1 (i + 1) h' → St2 (i + 1) h' → IsTupOf2 h' s.heap.objs.size x1 x2 → h'.objs.size = s.heap.objs.size + 1 →
      (∀ c o, c ≠ z → c ≠ TO → c ≠ i1 → c ≠ i2 → s.heap.get? c = some o → h'.get? c = some o) → Q (some (.ref s.heap.objs.size)) { s with heap := h', toks := tk }) :
    wpAny (model prog w) A (pyNext (.ref z)) Q E s := by
  obtain ⟨hTI, hz | ⟨T, f, oT, hz, hT, t1, t2, t3, t4⟩⟩ := hz
  · obtain ⟨hz, a1, a2, hTO⟩ := hz
    refine wpAny_pyNext_zipD2_item S D1 D2 hz hTI hTO st1 st2 hlt1 hlt2 fun x1 x2 h' tk y1 y2 b1 b2 d1 d2 b5 b6 b7 => hQ x1 x2 h' tk y1 y2 ⟨b7 _ _ S.TIz S.TITO S.TIi1 S.TIi2 hTI, .inr ⟨s.heap.objs.size, false, _, b1, b5, Nat.ne_of_gt hlo.1, Nat.ne_of_gt hlo.2.2.2.1, Nat.ne_of_gt hlo.2.2.2.2, ?_⟩⟩ d1 d2 b5 b6 b7
    simp only [List.mem_cons, List.not_mem_nil, or_false, not_or]
    exact ⟨Nat.ne_of_gt hlo.2.1, Nat.ne_of_gt hlo.2.2.1⟩
  · refine next_held_item S D1 D2 hz hT hTI st1 st2 hlt1 hlt2 fun x1 x2 h' tk y1 y2 b1 d1 d2 b5 b6 b7 => hQ x1 x2 h' tk y1 y2 ⟨b7 _ _ S.TIz S.TIi1 S.TIi2 hTI, .inr ⟨T, true, oT, b1, b7 _ _ t1 t2 t3 hT, t1, t2, t3, t4⟩⟩ d1 d2 b5 b6 fun c o c1 c2 c3 c4 e => b7 c o c1 c3 c4 e
theorem zst_end {Q : Option Value → Shared → Prop} (S : ZipSep2 z TI TO i1 i2 fp1 fp2) (D1 : Draws prog w A.in1 i1 fp1 n1 P1 St1) (D2 : Draws prog w A.in1 i2 fp2 n2 P2 St2)
    (hz : ZSt z TI TO i1 i2 s.heap) (st1 : St1 i s.heap) (st2 : St2 i s.heap) (hle1 : i ≤ n1) (hle2 : i ≤ n2) (hend : i = n1 ∨ i = n2)
    (hQ : ∀ h' tk, (∀ c o, c ≠ z → c ≠ TO → c ≠ i1 → c ≠ i2 → s.heap.get? c = some o → h'.get? c = some o) → Q none { s with heap := h', toks := tk }) : wpAny (model prog w) A (pyNext (.ref z)) Q E s := by
  obtain ⟨hTI, hz | ⟨T, f, oT, hz, hT, t1, t2, t3, t4⟩⟩ := hz
  · obtain ⟨hz, a1, a2, hTO⟩ := hz
    exact wpAny_pyNext_zipD2_end S D1 D2 hz hTI hTO st1 st2 hle1 hle2 hend hQ
  · exact next_held_end S D1 D2 hz hT hTI st1 st2 hle1 hle2 hend fun h' tk k => hQ h' tk fun c o c1 c2 c3 c4 e => k c o c1 c3 c4 e
end
end DLZ
end

section
set_option maxHeartbeats 2000000
/-! list(zip(a, b)): the loop, the call -/
namespace DLZ
open PySem
open Sem (wp)
structure ZG (P1 P2 : Nat → Value → Prop) (lo : Nat) (h : Heap) (as : List Addr) : Prop where
  rise : as.Pairwise (· < ·)
  above : ∀ a ∈ as, lo ≤ a
  pairs : ∀ (j : Nat) (a : Addr), as[j]? = some a → ∃ x y, P1 j x ∧ P2 j y ∧ IsTupOf2 h a x y
theorem ZG.there {P1 P2 : Nat → Value → Prop} {lo : Nat} {h : Heap} {as : List Addr} (g : ZG P1 P2 lo h as) {a : Addr} (ha : a ∈ as) : a < h.objs.size := by
  obtain ⟨j, hj⟩ := List.mem_iff_getElem?.mp ha
  obtain ⟨_, _, _, _, e⟩ := g.pairs j a hj
  exact Heap.lt_size e
structure Lows (lo : Nat) (S z TI TO i1 i2 : Addr) (fp1 fp2 : List Addr) : Prop where
  lS : S < lo
  lz : z < lo
  lTI : TI < lo
  lTO : TO < lo
  li1 : i1 < lo
  li2 : i2 < lo
  Sz : S ≠ z
  STI : S ≠ TI
  STO : S ≠ TO
  Sf1 : S ∉ fp1
  Sf2 : S ∉ fp2
section
variable {prog : Program} {w : World} {A : Around} {E : Value → Shared → Prop} {s : Shared} {z TI TO i1 i2 S : Addr} {fp1 fp2 : List Addr} {n1 n2 lo : Nat} {P1 P2 : Nat → Value → Prop} {St1 St2 : Nat → Heap → Prop} {R : Result → Shared → Prop}
theorem ZSt.write {h h' : Heap} (L : Lows lo S z TI TO i1 i2 fp1 fp2) (k : ∀ b o, b ≠ S → h.get? b = some o → h'.get? b = some o) (kS : ∀ o, h.get? S = some o → ∃ o', h'.get? S = some o') (g : ZSt z TI TO i1 i2 h) : ZSt z TI TO i1 i2 h' := by
  obtain ⟨hTI, hz | ⟨T, f, oT, hz, hT, t⟩⟩ := g
  · exact ⟨k _ _ L.STI.symm hTI, .inl ⟨k _ _ L.Sz.symm hz.1, hz.2.choose, hz.2.choose_spec.choose, k _ _ L.STO.symm hz.2.choose_spec.choose_spec⟩⟩
  · by_cases e : T = S
    · subst e
      obtain ⟨o', q⟩ := kS _ hT
      exact ⟨k _ _ L.STI.symm hTI, .inr ⟨T, f, o', k _ _ L.Sz.symm hz, q, t⟩⟩
    · exact ⟨k _ _ L.STI.symm hTI, .inr ⟨T, f, oT, k _ _ L.Sz.symm hz, k _ _ e hT, t⟩⟩
theorem zl_loop (hh : A.handled = none) (Sp : ZipSep2 z TI TO i1 i2 fp1 fp2) (D1 : Draws prog w A.in1.in1 i1 fp1 n1 P1 St1) (D2 : Draws prog w A.in1.in1 i2 fp2 n2 P2 St2) (L : Lows lo S z TI TO i1 i2 fp1 fp2) (hn : min n1 n2 ≤ sizeLine) (res : Value) {h₁ : Heap}
    (hR : ∀ h' tk acc c as, (∀ b o, b ≠ S → b ≠ z → b ≠ TO → b ≠ i1 → b ≠ i2 → h₁.get? b = some o → h'.get? b = some o) → h'.get? S = some { cls := .type "list", dict := none, data := .seq acc c, slots := #[] } → as.length = min n1 n2 → ZG P1 P2 lo h' as →
      acc.toList = as.map Value.ref → R (.ok (.ret res)) { s with heap := h', toks := tk }) :
    ∀ (k i : Nat) (h : Heap) (tk c : Nat) (acc : Array Value) (as : List Addr), min n1 n2 - i = k → i ≤ min n1 n2 → ZSt z TI TO i1 i2 h → St1 i h → St2 i h → (∀ b o, b ≠ S → b ≠ z → b ≠ TO → b ≠ i1 → b ≠ i2 → h₁.get? b = some o → h.get? b = some o) →
      h.get? S = some { cls := .type "list", dict := none, data := .seq acc c, slots := #[] } → acc.toList = as.map Value.ref → as.length = i → ZG P1 P2 lo h as → lo ≤ h.objs.size →
      codeAny (model prog w) A (.builtin "list.extend.loop" ⟨[.ref S, .ref z, res], []⟩) R { s with heap := h, toks := tk } := by
  intro k
  have m1 : min n1 n2 ≤ n1 := Nat.min_le_left _ _
  have m2 : min n1 n2 ≤ n2 := Nat.min_le_right _ _
  have Si1 : S ≠ i1 := fun e => L.Sf1 (e ▸ Sp.mem1)
  have Si2 : S ≠ i2 := fun e => L.Sf2 (e ▸ Sp.mem2)
  have old : ∀ {h : Heap} {as : List Addr}, ZG P1 P2 lo h as → ∀ a ∈ as, a ≠ S ∧ a ≠ z ∧ a ≠ TO ∧ a ≠ i1 ∧ a ≠ i2 := fun {h as} g a ha => by
    have q := g.above a ha
    exact ⟨Nat.ne_of_gt (Nat.lt_of_lt_of_le L.lS q), Nat.ne_of_gt (Nat.lt_of_lt_of_le L.lz q), Nat.ne_of_gt (Nat.lt_of_lt_of_le L.lTO q), Nat.ne_of_gt (Nat.lt_of_lt_of_le L.li1 q), Nat.ne_of_gt (Nat.lt_of_lt_of_le L.li2 q)⟩
  induction k with
  | zero =>
    intro i h tk c acc as hk hi hst h1 h2 hkeep hS hacc hal hG hlo
    have hin : i = min n1 n2 := by omega
    refine codeAny_builtin PySem.F.entry_extend_loop ?_
    rw [Around.under_plainId PySem.F.plain_extend_loop _]
    show wpAny _ A.in1 (pyNext (.ref z) >>= _) _ _ _
    refine wpAny_bind (zst_end (s := { s with heap := h, toks := tk }) (A := A.in1) Sp D1 D2 hst h1 h2 (by omega) (by omega) (by omega) fun h' tk' he => ?_)
    refine wpAny_pure (hR h' tk' acc c as (fun b o b1 b2 b3 b4 b5 e => he b o b2 b3 b4 b5 (hkeep b o b1 b2 b3 b4 b5 e)) (he S _ L.Sz L.STO Si1 Si2 hS) (by omega) ⟨hG.rise, hG.above, fun j a hj => ?_⟩ hacc)
    obtain ⟨x, y, e1, e2, e3⟩ := hG.pairs j a hj
    obtain ⟨q0, q1, q2, q3, q4⟩ := old hG a (List.mem_of_getElem? hj)
    exact ⟨x, y, e1, e2, he a _ q1 q2 q3 q4 e3⟩
  | succ k ih =>
    intro i h tk c acc as hk hi hst h1 h2 hkeep hS hacc hal hG hlo
    have hlt : i < min n1 n2 := by omega
    have hsz : acc.size = i := by rw [← Array.length_toList, hacc, List.length_map, hal]
    refine codeAny_builtin PySem.F.entry_extend_loop ?_
    rw [Around.under_plainId PySem.F.plain_extend_loop _]
    show wpAny _ A.in1 (pyNext (.ref z) >>= _) _ _ _
    have up0 : ∀ {a : Nat}, a < lo → a < h.objs.size := fun {a} q => Nat.lt_of_lt_of_le q hlo
    refine wpAny_bind (zst_item (s := { s with heap := h, toks := tk }) (A := A.in1) Sp D1 D2 hst h1 h2 (by omega) (by omega) ⟨up0 L.lz, up0 L.lTI, up0 L.lTO, up0 L.li1, up0 L.li2⟩ fun x y h' tk' hx hy hst' h1' h2' ht hz hkp => ?_)
    dsimp only at ht hz hkp ⊢
    have hS' := hkp S _ L.Sz L.STO Si1 Si2 hS
    have up : ∀ b o, b ≠ S → h'.get? b = some o → (h'.update S (Obj.mapSeq (·.push (Value.ref h.objs.size)))).get? b = some o := fun b o hb e => (Heap.get?_update_other _ _ (Ne.symm hb)).trans e
    have hSl : S < h.objs.size := Heap.lt_size hS
    have hS2 := Heap.get?_update_self (Obj.mapSeq (·.push (Value.ref h.objs.size))) hS' rfl
    have hz2 : h.objs.size < (h'.update S (Obj.mapSeq (·.push (Value.ref h.objs.size)))).objs.size := Heap.lt_size (up _ _ (Nat.ne_of_gt hSl) ht)
    show wpAny _ A.in1 (updateSeq S (·.push (Value.ref h.objs.size)) >>= _) _ _ _
    refine wpAny_bind ?_
    refine wpAny_updateSeq hS' rfl (wpAny_pure ⟨plainId_quiet PySem.F.plain_extend_loop _, ih (i + 1) _ tk' _ (acc.push (Value.ref h.objs.size)) (as ++ [h.objs.size]) (by omega) hlt (hst'.write L up fun o _ => ⟨_, hS2⟩)
      (D1.frame _ _ _ h1' fun b hb o e => up b o (fun z => L.Sf1 (z ▸ hb)) e) (D2.frame _ _ _ h2' fun b hb o e => up b o (fun z => L.Sf2 (z ▸ hb)) e)
      (fun b o b1 b2 b3 b4 b5 e => up b o b1 (hkp b o b2 b3 b4 b5 (hkeep b o b1 b2 b3 b4 b5 e))) hS2 (by rw [Array.toList_push, hacc, List.map_append]; rfl) (by rw [List.length_append, hal]; rfl) ⟨?_, ?_, ?_⟩ (Nat.le_trans hlo (Nat.le_of_lt hz2))⟩) (by rw [hsz]; omega) (by show (acc.push (Value.ref h.objs.size)).size ≤ sizeLine + 1; rw [Array.size_push, hsz]; omega)
    · refine List.pairwise_append.mpr ⟨hG.rise, List.pairwise_singleton _ _, fun a ha b hb => ?_⟩
      rw [List.mem_singleton.mp hb]
      exact hG.there ha
    · intro a ha
      rcases List.mem_append.mp ha with ha | ha
      · exact hG.above a ha
      · rw [List.mem_singleton.mp ha]; exact hlo
    · intro j b hj
      rcases Nat.lt_trichotomy j as.length with q1 | q1 | q1
      · rw [List.getElem?_append_left q1] at hj
        obtain ⟨x', y', e1, e2, e3⟩ := hG.pairs j b hj
        obtain ⟨w0, w1, w2, w3, w4⟩ := old hG b (List.mem_of_getElem? hj)
        exact ⟨x', y', e1, e2, up b _ w0 (hkp b _ w1 w2 w3 w4 e3)⟩
      · subst q1
        have hb : h.objs.size = b := by simpa using hj
        subst hb
        exact ⟨x, y, by rw [hal]; exact hx, by rw [hal]; exact hy, up _ _ (Nat.ne_of_gt hSl) ht⟩
      · have hnone : (as ++ [h.objs.size])[j]? = none := List.getElem?_eq_none (by rw [List.length_append, List.length_singleton]; omega)
        rw [hnone] at hj; cases hj
theorem zl_hint (hT : s.TypeIs (.ref z) "zip") {Q : Bool → Shared → Prop} (h : Q true s) : wpAny (model prog w) A (Builtin.List.listLengthHint (.ref z)) Q E s := by
  unfold Builtin.List.listLengthHint
  refine wpAny_bind (wpAny_specialOf hT zip_no_len ?_)
  refine wpAny_ite_split (fun hab => absurd hab (by decide)) (fun _ => ?_)
  refine wpAny_ite_split (fun hab => absurd hab (by decide)) (fun _ => ?_)
  refine wpAny_bind (wpAny_specialOf hT zip_no_hint ?_)
  exact wpAny_pure h
end
end DLZ
end

section
set_option maxHeartbeats 2000000
/-! list(zip(a, b)): the rule -/
namespace DLZ
open PySem
open Sem (wp)
section
variable {prog : Program} {w : World} {A : Around} {E : Value → Shared → Prop} {s : Shared} {z TI TO i1 i2 S : Addr} {fp1 fp2 : List Addr} {n1 n2 : Nat} {P1 P2 : Nat → Value → Prop} {St1 St2 : Nat → Heap → Prop} {R : Result → Shared → Prop}
theorem zl_extend (hh : A.handled = none) (Sp : ZipSep2 z TI TO i1 i2 fp1 fp2) (D1 : ∀ A : Around, A.handled = none → Draws prog w A i1 fp1 n1 P1 St1) (D2 : ∀ A : Around, A.handled = none → Draws prog w A i2 fp2 n2 P2 St2) (L : Lows s.heap.objs.size S z TI TO i1 i2 fp1 fp2) (hn : min n1 n2 ≤ sizeLine)
    (hst : IsZip s.heap z TI TO .none) (hTI : IsTupOf2 s.heap TI (.ref i1) (.ref i2)) {a1 a2 : Value} (hTO : IsTupOf2 s.heap TO a1 a2) (st1 : St1 0 s.heap) (st2 : St2 0 s.heap) (res : Value) (c₀ : Nat) (hS : s.heap.get? S = some { cls := .type "list", data := .seq #[] c₀ })
    (hR : ∀ h' tk acc c as, (∀ b o, b ≠ S → b ≠ z → b ≠ TO → b ≠ i1 → b ≠ i2 → s.heap.get? b = some o → h'.get? b = some o) → h'.get? S = some { cls := .type "list", dict := none, data := .seq acc c, slots := #[] } → as.length = min n1 n2 → ZG P1 P2 s.heap.objs.size h' as →
      acc.toList = as.map Value.ref → R (.ok (.ret res)) { s with heap := h', toks := tk }) :
    wpAny (model prog w) A.in1 (Builtin.List.listExtendWith (.ref S) (.ref z) res)
      (fun fin s' => match fin with | .done f => R (.ok f) s' | .again c' => c'.quiet = true ∧ codeAny (model prog w) A c' R s') (fun e s' => R (.error e) s') s := by
  have hSz := L.Sz
  unfold Builtin.List.listExtendWith
  refine wpAny_bind (wpAny_typeOf (T := "zip") (show s.TypeIs (.ref z) "zip" from ⟨_, hst, rfl⟩) ?_)
  have h1 : Builtin.List.listSameRef (.ref S) (.ref z) = false := by simp [Builtin.List.listSameRef, hSz]
  have h2 : (Value.type "zip" == Value.type "list") = false := by decide
  have h3 : (Value.type "zip" == Value.type "tuple") = false := by decide
  simp only [h1, h2, h3, Bool.or_false, Bool.false_eq_true, if_false]
  refine wpAny_bind (wpAny_pyIter_zip hst ?_)
  refine wpAny_bind (wpAny_holding (zl_hint (show s.TypeIs (.ref z) "zip" from ⟨_, hst, rfl⟩) ?_))
  refine wpAny_ite_split (fun _ => ?_) (fun hab => absurd rfl hab)
  refine wpAny_bind (wpAny_rule ?_)
  refine wpAny_bind ?_
  show wpAny _ _ (updateSeq S (·.push .none) >>= fun _ => updateSeq S (·.pop)) _ _ _
  refine wpAny_bind (wpAny_updateSeq hS rfl ?_)
  have hS₂ := Heap.get?_update_self (Obj.mapSeq (·.push Value.none)) hS rfl
  refine wpAny_updateSeq (hz := by seq_fits) hS₂ rfl ?_
  have hS₃ := Heap.get?_update_self (Obj.mapSeq (·.pop)) hS₂ rfl
  have kp : ∀ b o, b ≠ S → s.heap.get? b = some o → ((s.heap.update S (Obj.mapSeq (·.push Value.none))).update S (Obj.mapSeq (·.pop))).get? b = some o := fun b o hb e =>
    (Heap.get?_update_other _ _ (Ne.symm hb)).trans ((Heap.get?_update_other _ _ (Ne.symm hb)).trans e)
  refine wpAny_pure ⟨plainId_quiet PySem.F.plain_extend_loop _, ?_⟩
  refine zl_loop (s := s) (h₁ := s.heap) (lo := s.heap.objs.size) hh Sp (D1 _ hh) (D2 _ hh) L hn res (fun h' tk acc c as k hS' hl hG hacc => hR h' tk acc c as k hS' hl hG hacc) (min n1 n2) 0 _ s.toks _ #[] [] (Nat.sub_zero _) (Nat.zero_le _)
    (ZSt.write (h := s.heap) L kp (fun o _ => ⟨_, hS₃⟩) ⟨hTI, .inl ⟨hst, a1, a2, hTO⟩⟩) ((D1 A.in1 hh).frame _ _ _ st1 fun b hb o e => kp b o (fun q => L.Sf1 (q ▸ hb)) e) ((D2 A.in1 hh).frame _ _ _ st2 fun b hb o e => kp b o (fun q => L.Sf2 (q ▸ hb)) e)
    (fun b o b1 _ _ _ _ e => kp b o b1 e) hS₃ rfl rfl ⟨List.Pairwise.nil, (fun _ ha => nomatch ha), (fun j a hj => by simp at hj)⟩ ?_
  rw [Heap.size_update, Heap.size_update] <;> exact Nat.le_refl _
theorem zl_init (hh : A.handled = none) (Sp : ZipSep2 z TI TO i1 i2 fp1 fp2) (D1 : ∀ A : Around, A.handled = none → Draws prog w A i1 fp1 n1 P1 St1) (D2 : ∀ A : Around, A.handled = none → Draws prog w A i2 fp2 n2 P2 St2) (L : Lows s.heap.objs.size S z TI TO i1 i2 fp1 fp2) (hn : min n1 n2 ≤ sizeLine)
    (hst : IsZip s.heap z TI TO .none) (hTI : IsTupOf2 s.heap TI (.ref i1) (.ref i2)) {a1 a2 : Value} (hTO : IsTupOf2 s.heap TO a1 a2) (st1 : St1 0 s.heap) (st2 : St2 0 s.heap) (hS : s.heap.get? S = some { cls := .type "list", data := .seq #[] })
    (hR : ∀ h' tk acc c as, (∀ b o, b ≠ S → b ≠ z → b ≠ TO → b ≠ i1 → b ≠ i2 → s.heap.get? b = some o → h'.get? b = some o) → h'.get? S = some { cls := .type "list", dict := none, data := .seq acc c, slots := #[] } → as.length = min n1 n2 → ZG P1 P2 s.heap.objs.size h' as →
      acc.toList = as.map Value.ref → R (.ok (.ret .none)) { s with heap := h', toks := tk }) :
    wpAny (model prog w) A.in1 (Builtin.«list.__init__» ⟨[.ref S, .ref z], []⟩)
      (fun fin s' => match fin with | .done f => R (.ok f) s' | .again c' => c'.quiet = true ∧ codeAny (model prog w) A c' R s') (fun e s' => R (.error e) s') s := by
  show wpAny _ _ (do let old ← Builtin.List.listItems (.ref S); Builtin.List.listUpdate (.ref S) (fun _ => #[]); letGo old.toList.reverse; Builtin.List.listExtendWith (.ref S) (.ref z) .none) _ _ s
  refine wpAny_bind ?_
  unfold Builtin.List.listItems
  refine wpAny_bind (wpAny_seqItems hS rfl (wpAny_pure ?_))
  show wpAny _ _ (updateSeq S (fun _ => #[]) >>= fun _ => letGo (#[] : Array Value).toList.reverse >>= fun _ => Builtin.List.listExtendWith (.ref S) (.ref z) .none) _ _ s
  refine wpAny_bind (wpAny_updateSeq hS rfl ?_)
  have hS₂ := Heap.get?_update_self (Obj.mapSeq (fun _ => (#[] : Array Value))) hS rfl
  have oth : ∀ b o, b ≠ S → s.heap.get? b = some o → (s.heap.update S (Obj.mapSeq (fun _ => (#[] : Array Value)))).get? b = some o :=
    fun b o hb e => (Heap.get?_update_other _ _ (Ne.symm hb)).trans e
  have sz : (s.heap.update S (Obj.mapSeq (fun _ => (#[] : Array Value)))).objs.size = s.heap.objs.size := by rw [Heap.size_update]
  refine wpAny_bind (wpAny_letGo ?_)
  refine zl_extend (s := { s with heap := s.heap.update S (Obj.mapSeq (fun _ => (#[] : Array Value))) }) hh Sp D1 D2 (by show Lows (s.heap.update S (Obj.mapSeq (fun _ => (#[] : Array Value)))).objs.size _ _ _ _ _ _ _ _; rw [sz]; exact L) hn (oth _ _ L.Sz.symm hst) (oth _ _ L.STI.symm hTI) (oth _ _ L.STO.symm hTO)
    ((D1 A.in1 hh).frame _ _ _ st1 fun b hb o e => oth b o (fun q => L.Sf1 (q ▸ hb)) e) ((D2 A.in1 hh).frame _ _ _ st2 fun b hb o e => oth b o (fun q => L.Sf2 (q ▸ hb)) e) .none _ hS₂ (fun h' tk acc c as hk hS' hl hG hacc => ?_)
  have hG : ZG P1 P2 (s.heap.update S (Obj.mapSeq (fun _ => (#[] : Array Value)))).objs.size h' as := hG
  rw [sz] at hG
  exact hR h' tk acc c as (fun b o b1 b2 b3 b4 b5 e => hk b o b1 b2 b3 b4 b5 (oth b o b1 e)) hS' hl hG hacc
theorem zl_call {Q : Value → Shared → Prop} (hh : A.handled = none) (Sp : ZipSep2 z TI TO i1 i2 fp1 fp2) (D1 : ∀ A : Around, A.handled = none → Draws prog w A i1 fp1 n1 P1 St1) (D2 : ∀ A : Around, A.handled = none → Draws prog w A i2 fp2 n2 P2 St2) (hn : min n1 n2 ≤ sizeLine)
    (hst : IsZip s.heap z TI TO .none) (hTI : IsTupOf2 s.heap TI (.ref i1) (.ref i2)) {a1 a2 : Value} (hTO : IsTupOf2 s.heap TO a1 a2) (st1 : St1 0 s.heap) (st2 : St2 0 s.heap) (l1 : i1 < s.heap.objs.size) (l2 : i2 < s.heap.objs.size) (f1 : s.heap.objs.size ∉ fp1) (f2 : s.heap.objs.size ∉ fp2)
    (hQ : ∀ h' tk acc c as, (∀ b o, b ≠ z → b ≠ TO → b ≠ i1 → b ≠ i2 → s.heap.get? b = some o → h'.get? b = some o) → h'.get? s.heap.objs.size = some { cls := .type "list", dict := none, data := .seq acc c, slots := #[] } → as.length = min n1 n2 → ZG P1 P2 (s.heap.objs.size + 1) h' as →
      acc.toList = as.map Value.ref → Q (.ref s.heap.objs.size) { s with heap := h', toks := tk }) :
    wpAny (model prog w) A (call (.type "list") [.ref z]) Q E s := by
  refine callType_codes (Q₁ := fun obj s₁ => obj = .ref s.heap.objs.size ∧ s₁ = { s with heap := s.heap.push { cls := .type "list", data := .seq #[] } }) PySem.F.called_list (PySem.F.typeCall_list_1 _) PySem.F.entry_list_init
    (code_list_new _ ⟨rfl, rfl⟩) fun obj s₁ h₁ => ?_
  obtain ⟨rfl, rfl⟩ := h₁
  have hS : (s.heap.push { cls := .type "list", data := .seq #[] }).get? s.heap.objs.size = some { cls := .type "list", data := .seq #[] } := Heap.get?_push_size _ rfl
  have lz : z < s.heap.objs.size := Heap.lt_size hst
  have lTI : TI < s.heap.objs.size := Heap.lt_size hTI
  have lTO : TO < s.heap.objs.size := Heap.lt_size hTO
  have sz : (s.heap.push { cls := .type "list", data := .seq #[] }).objs.size = s.heap.objs.size + 1 := Heap.size_push ..
  have up : ∀ {b o}, s.heap.get? b = some o → (s.heap.push { cls := .type "list", data := .seq #[] }).get? b = some o := fun e => Heap.get?_push_of_some _ e
  refine ⟨⟨_, hS, rfl⟩, PySem.F.args_list_init_2 _ _, zl_init (s := { s with heap := s.heap.push { cls := .type "list", data := .seq #[] } }) (A := A.in1) hh Sp D1 D2 ?_ hn (up hst) (up hTI) (up hTO) ((D1 A.in1 hh).frame _ _ _ st1 fun b hb o e => up e) ((D2 A.in1 hh).frame _ _ _ st2 fun b hb o e => up e) hS (fun h' tk acc c as hk hS' hl hG hacc => ?_)⟩
  · show Lows (s.heap.push { cls := .type "list", data := .seq #[] }).objs.size _ _ _ _ _ _ _ _
    rw [sz]
    exact ⟨Nat.lt_succ_self _, Nat.lt_succ_of_lt lz, Nat.lt_succ_of_lt lTI, Nat.lt_succ_of_lt lTO, Nat.lt_succ_of_lt l1, Nat.lt_succ_of_lt l2, Nat.ne_of_gt lz, Nat.ne_of_gt lTI, Nat.ne_of_gt lTO, f1, f2⟩
  · have hG : ZG P1 P2 (s.heap.push { cls := .type "list", data := .seq #[] }).objs.size h' as := hG
    rw [sz] at hG
    exact ⟨rfl, hQ h' tk acc c as (fun b o b2 b3 b4 b5 e => hk b o (Nat.ne_of_lt (Heap.lt_size e)) b2 b3 b4 b5 (up e)) hS' hl hG hacc⟩
end
end DLZ
end

section
set_option maxHeartbeats 2000000
/-! list(zip(a, b)): the rule -/
namespace DLZ
open PySem PySem.Spec PyProof.Rows L2
open LiI (vals_refs paired_ix paired_get)
def putP : Hp → List Addr → List (V × V) → Hp
  | H, a :: as, p :: kvs => putP (upd H a (.tup [p.1, p.2])) as kvs
  | H, _, _ => H
theorem putP_off {b : Addr} : ∀ (as : List Addr) (kvs : List (V × V)) (H : Hp), b ∉ as → putP H as kvs b = H b
  | [], _, _, _ => rfl
  | _ :: _, [], _, _ => rfl
  | a :: as, p :: kvs, H, h => by
    show putP (upd H a (.tup [p.1, p.2])) as kvs b = H b
    rw [putP_off as kvs _ (fun z => h (List.mem_cons_of_mem _ z)), upd_ne (fun z => h (by rw [z]; exact List.mem_cons_self))]
theorem putP_at : ∀ (as : List Addr) (kvs : List (V × V)) (H : Hp), as.length = kvs.length → as.Nodup → Paired (fun (t : Addr) (p : V × V) => putP H as kvs t = some (.tup [p.1, p.2])) as kvs
  | [], [], _, _, _ => .nil
  | [], _ :: _, _, h, _ => by cases h
  | _ :: _, [], _, h, _ => by cases h
  | a :: as, p :: kvs, H, h, hn => by
    have hn' := List.nodup_cons.mp hn
    have ih := putP_at as kvs (upd H a (.tup [p.1, p.2])) (Nat.succ.inj h) hn'.2
    refine .cons ?_ ih
    show putP (upd H a (.tup [p.1, p.2])) as kvs a = some (.tup [p.1, p.2])
    rw [putP_off as kvs _ hn'.1, upd_same]
theorem zip_laid {X : Cx} {pins : List (Addr × Obj)} {σ : L2.St} {H : Hp} {s : Shared} {h' : Heap} {tk : Nat} {xs ys : List V} {us vs : List Value} {acc : Array Value} {c : Nat} {as : List Addr} {p : Addr} (I : Inv X pins σ H s) (rx : Vals xs us) (ry : Vals ys vs)
    (hz : xs.length ≤ sizeLine) (hp : s.heap.objs.size ≤ p)
    (hk : ∀ b o, s.heap.get? b = some o → h'.get? b = some o) (hS : h'.get? p = some { cls := .type "list", dict := none, data := .seq acc c, slots := #[] }) (hl : as.length = min us.length vs.length) (hG : ZG (fun i v => us[i]? = some v) (fun i v => vs[i]? = some v) (p + 1) h' as) (hacc : acc.toList = as.map Value.ref) :
    ∃ H' : Hp, (∀ b o, H b = some o → H' b = some o) ∧ H p = none ∧ (∀ t ∈ as, H t = none) ∧ p ∉ as ∧ H' p = some (.lst (as.map V.ref)) ∧ Paired (fun (t : Addr) (q : V × V) => H' t = some (.tup [q.1, q.2])) as (xs.zip ys) ∧ Inv X pins σ H' { s with heap := h', toks := tk } := by
  have lx := rx.length
  have ly := ry.length
  have lz : as.length = (xs.zip ys).length := by rw [List.length_zip, lx, ly, hl]
  have hSn : p ∉ as := fun z => Nat.lt_irrefl _ (hG.above _ z)
  have nd : as.Nodup := List.Pairwise.imp (fun {a b} (h : a < b) => Nat.ne_of_lt h) hG.rise
  have ge : ∀ t ∈ as, s.heap.objs.size ≤ t := fun t ht => Nat.le_trans hp (Nat.le_of_lt (hG.above t ht))
  have new : ∀ t ∈ as, H t = none := fun t ht => I.hok.fresh (ge t ht)
  have newS : H p = none := I.hok.fresh hp
  have atP := putP_at as (xs.zip ys) (upd H p (.lst (as.map V.ref))) lz nd
  have off : ∀ b, b ∉ as → b ≠ p → putP (upd H p (.lst (as.map V.ref))) as (xs.zip ys) b = H b := fun b h1 h2 => by rw [putP_off as _ _ h1, upd_ne h2]
  have low : ∀ b o, s.heap.get? b = some o → b ∉ as ∧ b ≠ p := fun b o e => ⟨fun z => absurd (Heap.lt_size e) (Nat.not_lt.mpr (ge b z)), Nat.ne_of_lt (Nat.lt_of_lt_of_le (Heap.lt_size e) hp)⟩
  have kp : ∀ b u, H b = some u → (putP (upd H p (.lst (as.map V.ref))) as (xs.zip ys)) b = some u := fun b u e => by
    rw [off b (fun z => by rw [new b z] at e; cases e) (fun z => by rw [z, newS] at e; cases e)]
    exact e
  have eS : putP (upd H p (.lst (as.map V.ref))) as (xs.zip ys) p = some (.lst (as.map V.ref)) := by rw [putP_off as _ _ hSn, upd_same]
  refine ⟨putP (upd H p (.lst (as.map V.ref))) as (xs.zip ys), kp, newS, new, hSn, eS, atP, ?_⟩
  refine I.call' (ch := []) rfl ⟨fun b o q _ _ _ => hk b o q, fun b o q _ _ _ => ⟨o.slots, hk b o q⟩, fun b o q n _ => ?_, fun b o q _ => ⟨o, hk b o q⟩, fun b xs q => kp b _ q, fun b o u q => kp b _ q, fun b ps q => ⟨#[], by rw [kp b _ q]; simp⟩⟩ (fun b u q => ?_) I.bare fun b z => by simp at z
  · obtain ⟨z1, z2⟩ := low b o q
    rw [off b z1 z2]
    exact n
  · by_cases hb : b ∈ as
    · obtain ⟨j, pk, e1, e2, e3⟩ := paired_ix atP hb
      rw [e3] at q
      cases q
      obtain ⟨x, y, f1, f2, f3⟩ := hG.pairs j b e1
      obtain ⟨g1, g2⟩ := List.getElem?_zip_eq_some.mp e2
      obtain ⟨x', k1, r1⟩ := rx.get g1
      obtain ⟨y', k2, r2⟩ := ry.get g2
      rw [f1] at k1
      rw [f2] at k2
      cases k1; cases k2
      exact ⟨by show 2 ≤ sizeLine; decide, [x, y], .cons r1 (.cons r2 .nil), ⟨_, f3, rfl, _, rfl⟩⟩
    · by_cases hb2 : b = p
      · rw [hb2] at q ⊢
        rw [eS] at q
        cases q
        have mm : min us.length vs.length ≤ us.length := Nat.min_le_left _ _
        refine ⟨by rw [List.length_map]; omega, acc.toList, c, by rw [hacc]; exact vals_refs as, ?_⟩
        rw [Array.toArray_toList]
        exact hS
      · rw [off b hb hb2] at q
        exact (I.hok b u q).stay (fun d v _ y => hk d v y) (fun d y => kp d _ y) fun d xs y => kp d _ y
/-- what zip walks -/
def SrcOk (prog : Program) (w : World) (h : Heap) (a : Addr) (its : List Value) : Prop := ∃ (o : Obj) (Hh : Heap → Prop) (St : Addr → Nat → Heap → Prop), Begins (.ref a) o Hh ∧ Hh h ∧ a < h.objs.size ∧
  (∀ (it : Addr) (A : Around), A.handled = none → a ≠ it → Draws prog w A it [it, a] its.length (fun i v => its[i]? = some v) (St it)) ∧ ∀ (it : Addr) (h' : Heap), h'.get? it = some o → (∀ c u, h.get? c = some u → h'.get? c = some u) → St it 0 h'
theorem src_list {prog : Program} {w : World} {h : Heap} {a : Addr} {its : List Value} (q : h.IsList a its.toArray) : SrcOk prog w h a its := by
  refine ⟨_, _, fun it i h => h.IsListIter it a i ∧ h.IsList a its.toArray, begins_list a its.toArray, q, (by obtain ⟨o, e, _⟩ := q; exact Heap.lt_size e), fun it A hh hne => ?_, fun it h' e k => ⟨⟨_, e, rfl, rfl⟩, q.at fun o e => k a o e⟩⟩
  have d := Draws.list (prog := prog) (w := w) hh it a hne its.toArray
  simpa using d
theorem src_tuple {prog : Program} {w : World} {h : Heap} {a : Addr} {its : List Value} (q : h.IsTuple a its.toArray) : SrcOk prog w h a its := by
  refine ⟨_, _, fun it i h => h.IsTupleIter it a i ∧ h.IsTuple a its.toArray, begins_tuple a its.toArray, q, (by obtain ⟨o, e, _⟩ := q; exact Heap.lt_size e), fun it A hh hne => ?_, fun it h' e k => ⟨⟨_, e, rfl, rfl⟩, q.at fun o e => k a o e⟩⟩
  have d := Draws.tuple (prog := prog) (w := w) hh it a hne its.toArray
  simpa using d
def SqA (K : PySem.W.Frag) (H : Hp) (a : Addr) (xs : List V) : Prop := SqL K H a xs ∨ SqT K H a xs
theorem src_of {X : Cx} {pins : List (Addr × Obj)} {σ : L2.St} {H : Hp} {s : Shared} {a : Addr} {xs : List V} (I : Inv X pins σ H s) (q : SqA X.K H a xs) : ∃ its, Vals xs its ∧ xs.length ≤ sizeLine ∧ SrcOk X.prog X.w s.heap a its := by
  rcases q with q | q
  · obtain ⟨its, rv, p, hz⟩ := I.list q
    exact ⟨its, rv, hz, src_list p.isList⟩
  · obtain ⟨its, rv, p, hz⟩ := I.tuple q
    exact ⟨its, rv, hz, src_tuple p⟩
def tZipL (K : PySem.W.Frag) (ta : TA) : TE := fun σ H Q => ta σ H fun vs H1 => ∃ a b xs ys, vs = [.ref a, .ref b] ∧ SqA K H1 a xs ∧ SqA K H1 b ys ∧
  ∀ (H' : Hp) (p : Addr) (ts : List Addr), (∀ b o, H1 b = some o → H' b = some o) → H1 p = none → (∀ t ∈ ts, H1 t = none) → p ∉ ts → H' p = some (.lst (ts.map V.ref)) → Paired (fun (t : Addr) (q : V × V) => H' t = some (.tup [q.1, q.2])) ts (xs.zip ys) → Q (.ref p) H'
section
variable {X : Cx} {e e2 : Expr} {ta : TA} {p apos cpos pos : Pos}
theorem pe_listZip (hc : X.calm = true) (ha : PA X [e, e2] ta) (hgL : Gl X "list") (hmL : X.mg "list" = none) (hg : Gl X "zip") (hm : X.mg "zip" = none) (h1 : DL.notStar e = true) (h2 : DL.notStar e2 = true) :
    PE X (.Call (.Name "list" p) [.Call (.Name "zip" apos) [e, e2] [] cpos] [] pos) (tZipL X.K ta) := by
  have hs : starEach [e, e2] X.env = (false, eval e X.env) :: starEach [e2] X.env := DL.star_ok h1 [e2] X.env
  have hpl : (backTo cpos (starEach [e2] X.env)).any (·.1) = false := DL.stars_any (by unfold DL.noStars; simp [h2]) X.env cpos
  have hs0 : starEach [.Call (.Name "zip" apos) [e, e2] [] cpos] X.env = (false, eval (.Call (.Name "zip" apos) [e, e2] [] cpos) X.env) :: starEach [] X.env := DL.star_ok rfl [] X.env
  refine ⟨fun pins s σ H Q I hq => ?_⟩
  refine wpAny_Call_Name_kw (ld_blt I hgL hmL (u := .type "list") (by decide +kernel) ?_)
  refine PyProof.Rows.callWith_type1 ?_ hs0 rfl
  rw [hs0]
  show wpAny _ _ (spliced ((false, eval (.Call (.Name "zip" apos) [e, e2] [] cpos) X.env) :: backTo pos (starEach [] X.env))) _ _ s
  refine Calls.spliced_cons ?_
  refine Call_ (ld_blt I hg hm PyProof.Rows.boot_zip (PyProof.Rows.callWith_type1 (thn (ha.run cpos pins s σ H _ I hq) fun us s1 ⟨vs, H1, I1, r1, q1⟩ => ?_) hs hpl))
  obtain ⟨a, b, xs, ys, ex, hqx, hqy, q⟩ := q1
  subst ex
  cases r1 with
  | cons r rr =>
    cases rr with
    | cons r' rr =>
      cases rr
      cases r
      cases r'
      obtain ⟨us, rx, zx, o1, Hh1, St1, B1, b1, l1, D1, s1'⟩ := src_of I1 hqx
      obtain ⟨vs, ry, zy, o2, Hh2, St2, B2, b2, l2, D2, s2'⟩ := src_of I1 hqy
      refine zip_begins2 B1 B2 b1 b2 fun h' hz hTI hTO g1 g2 hsz hk => ?_
      refine Calls.spliced_nil ?_
      have n1 : a ≠ s1.heap.objs.size := Nat.ne_of_lt l1
      have n2 : b ≠ s1.heap.objs.size + 1 := Nat.ne_of_lt (Nat.lt_succ_of_lt l2)
      have lu := rx.length
      have hh : X.A.handled = none := I1.ok.hd hc
      refine zl_call (s := { s1 with heap := h' }) hh (zip_sep2 (N := s1.heap.objs.size) (fp1 := [a]) (fp2 := [b]) (by intro b hb; rw [List.mem_singleton.mp hb]; exact l1) (by intro c hb; rw [List.mem_singleton.mp hb]; exact l2)) (fun A h => D1 _ A h n1) (fun A h => D2 _ A h n2) ?_ hz hTI hTO (s1' _ h' g1 hk) (s2' _ h' g2 hk) ?_ ?_ ?_ ?_ fun h'' tk acc c as k2 hS hl hG hacc => ?_
      · exact Nat.le_trans (Nat.min_le_left _ _) (by omega)
      · show s1.heap.objs.size < h'.objs.size
        rw [hsz]; exact Nat.lt_add_of_pos_right (by decide)
      · show s1.heap.objs.size + 1 < h'.objs.size
        rw [hsz]; exact Nat.add_lt_add_left (by decide) _
      · show h'.objs.size ∉ _
        rw [hsz]
        simp only [List.mem_cons, List.not_mem_nil, or_false, not_or]
        exact ⟨Nat.ne_of_gt (Nat.lt_add_of_pos_right (by decide)), Nat.ne_of_gt (Nat.lt_of_lt_of_le l1 (Nat.le_add_right _ _))⟩
      · show h'.objs.size ∉ _
        rw [hsz]
        simp only [List.mem_cons, List.not_mem_nil, or_false, not_or]
        exact ⟨Nat.ne_of_gt (Nat.add_lt_add_left (by decide) _), Nat.ne_of_gt (Nat.lt_of_lt_of_le l2 (Nat.le_add_right _ _))⟩
      · have lt : ∀ {b : Addr} {o : Obj}, s1.heap.get? b = some o → ∀ j : Nat, b ≠ s1.heap.objs.size + j := fun e j => Nat.ne_of_lt (Nat.lt_of_lt_of_le (Heap.lt_size e) (Nat.le_add_right _ _))
        have k3 : ∀ b o, s1.heap.get? b = some o → h''.get? b = some o := fun b o e => k2 b o (lt e 4) (lt e 3) (lt e 0) (lt e 1) (hk b o e)
        obtain ⟨H', m1, m2, m3, m4, m5, m6, J⟩ := zip_laid (tk := tk) (p := h'.objs.size) I1 rx ry zx (by rw [hsz]; exact Nat.le_add_right _ _) k3 hS hl hG hacc
        exact ⟨.ref _, H', J, rfl, q H' _ as m1 m2 m3 m4 m5 m6⟩
end
end DLZ
namespace DL
open PySem PySem.Spec PyProof.Rows L2
variable [Tbs]
theorem tseq_sqa {K : Fg} {ι : Loc} {H : Hp} {h : DH} (rh : RepH K ι H h) {d : D} {v : V} {ds : List D} (r : RepV K ι H d v) (e : d.seq h = some ds) : ∃ a xs, v = .ref a ∧ DLZ.SqA K H a xs ∧ RepVs K ι H ds xs := by
  obtain ⟨q, ys, rfl, h2, h3⟩ := seq_rep rh r e
  exact ⟨q, ys, rfl, h2, h3⟩
def pairsD : List D → List D → List D
  | x :: xs, y :: ys => .tup [x, y] :: pairsD xs ys
  | _, _ => []
def mlistZip (r : M (List D)) : M (List D) := bnd r fun ds _ h => match ds with
  | [x, y] => match x.seq h, y.seq h with
    | some xs, some ys => .ok (pairsD xs ys) h
    | _, _ => .bad
  | _ => .bad
theorem pairs_rep {K : Fg} {ι : Loc} {H : Hp} : ∀ {ds es : List D} {xs ys : List V} {ts : List Addr}, RepVs K ι H ds xs → RepVs K ι H es ys → (∀ t ∈ ts, t ∉ ι) → Paired (fun (t : Addr) (q : V × V) => H t = some (.tup [q.1, q.2])) ts (xs.zip ys) → RepVs K ι H (pairsD ds es) (ts.map V.ref)
  | [], es, xs, ys, ts, h, g, n, p => by
    have h : xs = [] := h
    subst h
    cases p
    rfl
  | d :: ds, [], xs, ys, ts, h, g, n, p => by
    have g : ys = [] := g
    subst g
    rw [List.zip_nil_right] at p
    cases p
    rfl
  | d :: ds, e :: es, xs, ys, ts, h, g, n, p => by
    obtain ⟨x, r, rfl, h2, h3⟩ := h
    obtain ⟨y, u, rfl, g2, g3⟩ := g
    rw [List.zip_cons_cons] at p
    cases p with
    | cons q p' =>
      exact ⟨_, _, rfl, ⟨_, _, rfl, .inl ⟨q, n _ List.mem_cons_self⟩, _, _, rfl, h2, _, _, rfl, g2, rfl⟩, pairs_rep h3 g3 (fun t ht => n t (List.mem_cons_of_mem _ ht)) p'⟩
section
variable {X : Cx} {W : WX} {a b : Expr} {m : M (List D)} {p apos cpos pos : Pos}
theorem d_listZip (hc : X.calm = true) (ha : DA X W [a, b] m) (hgL : Gl X "list") (hmL : X.mg "list" = none) (hg : Gl X "zip") (hm : X.mg "zip" = none) (h1 : notStar a = true) (h2 : notStar b = true) :
    DN X W (.Call (.Name "list" p) [.Call (.Name "zip" apos) [a, b] [] cpos] [] pos) (mlistZip m) :=
  PE_imp (DLZ.pe_listZip hc ha hgL hmL hg hm h1 h2) fun σ H Q ⟨ι, s, h, rs, rh, p⟩ => tM.stepN rs rh p fun ds h1 ι1 xs H1 rs1 e1 rh1 rx p1 => by
    split at p1
    · rename_i x y
      obtain ⟨v, w, rfl, r1, r2⟩ := rvs2 rx
      cases z1 : x.seq h1 with
      | none => simp only [z1] at p1; exact p1.elim
      | some es =>
        cases z2 : y.seq h1 with
        | none => simp only [z1, z2] at p1; exact p1.elim
        | some fs =>
          simp only [z1, z2] at p1
          obtain ⟨q, us, rfl, k1, k2⟩ := tseq_sqa rh1 r1 z1
          obtain ⟨q', vs, rfl, k3, k4⟩ := tseq_sqa rh1 r2 z2
          refine ⟨q, q', us, vs, rfl, k1, k3, fun H' p ts m1 m2 m3 m4 m5 m6 => ?_⟩
          have ext : Ext ι1 H1 (ι1.with p) H' := ⟨⟨[], by simp⟩, fun _ q => List.mem_cons_of_mem _ q, fun a q => .inl q, fun a q => by
            rcases List.mem_cons.mp q with e | q
            · subst e; exact .inr (free_of m2)
            · exact .inl q, fun a o q _ _ => m1 a o q, fun a o q t => ⟨o, m1 a o q, t⟩⟩
          have np := rh1.fresh m2
          have rh' : RepH X.K (ι1.with p) H' h1 := ⟨rh1.nd, rh1.len, fun i o a q1 q2 => by
            have w := rh1.obj i o a q1 q2
            obtain ⟨u, hu⟩ := w.some
            exact w.move ext (by rw [m1 a u hu, hu]), fun a ha z => by
            rcases List.mem_cons.mp z with e | z
            · subst e; exact np (.inl ha)
            · exact rh1.dis a ha z, fun a ha => by
            rcases List.mem_cons.mp ha with e | z
            · subst e; exact ⟨_, m5, ord_lst⟩
            · obtain ⟨u, hu, ht⟩ := rh1.avs a z
              exact ⟨u, m1 a u hu, ht⟩, tabs_go rh1.tbs fun b u hb _ => m1 b u hb⟩
          refine p1 (ι1.with p) p _ H' ext rh' List.mem_cons_self (free_of m2) m5 (pairs_rep (RepVs.ext ext _ _ k2) (RepVs.ext ext _ _ k4) (fun t ht z => ?_) m6)
          rcases z with z | z
          · exact rh1.fresh (m3 t ht) (.inl z)
          · rcases List.mem_cons.mp z with e | z
            · subst e; exact m4 ht
            · exact rh1.fresh (m3 t ht) (.inr z)
    · exact p1.elim
end
end DL
end

section
set_option maxHeartbeats 2000000
/-! methods of lists; dicts made -/
namespace DL
open PySem PySem.Spec PyProof.Rows L2
variable [Tbs]

inductive MI where
  | append | extend | pop0
def MI.nm : MI → Str
  | .append => "append" | .extend => "extend" | .pop0 => "pop"
/-- a list that changes -/
def D.live (h : DH) : D → Option (Nat × List D)
  | .ref j => match h[j]? with
    | some (.lst ds) => some (j, ds)
    | _ => none
  | _ => none
def fAppend (h : DH) (o : D) : List D → Option (D × DH)
  | [y] => match o.live h with
    | some (j, ds) => if ds.length < sizeLine then some (.non, h.set j (.lst (ds ++ [y]))) else none
    | none => none
  | _ => none
def fExtend (h : DH) (o : D) : List D → Option (D × DH)
  | [y] => match o.live h, y.tseq h with
    | some (j, ds), some es => if ds.length + es.length ≤ sizeLine then some (.non, h.set j (.lst (ds ++ es))) else none
    | _, _ => none
  | _ => none
def fPop0 (h : DH) (o : D) : List D → Option (D × DH)
  | [.int 0] => match o.live h with
    | some (j, d :: ds) => some (d, h.set j (.lst ds))
    | _ => none
  | _ => none
def MI.f : MI → DH → D → List D → Option (D × DH)
  | .append => fAppend
  | .extend => fExtend
  | .pop0 => fPop0
def mmeth (m : MI) (a : M D) (r : M (List D)) : M D := bnd a fun o s h => match o.live h with
  | some _ => (bnd r fun ds _ h' => match m.f h' o ds with
    | some (d, h2) => .ok d h2
    | none => .bad) s h
  | none => .bad
theorem live_rep {K : Fg} {ι : Loc} {H : Hp} {h : DH} (rh : RepH K ι H h) {d : D} {v : V} {j : Nat} {ds : List D} (r : RepV K ι H d v) (e : d.live h = some (j, ds)) : ∃ a xs, d = .ref j ∧ v = .ref a ∧ ι.ad[j]? = some a ∧ H a = some (.lst xs) ∧ RepVs K ι H ds xs := by
  cases d with
  | ref i =>
    obtain ⟨a, h1, h2⟩ := r
    obtain ⟨o, h3, h4⟩ := rh.at_ h2
    simp only [D.live, h3] at e
    cases o with
    | lst es =>
      cases e
      obtain ⟨xs, q, k⟩ := h4
      exact ⟨a, xs, rfl, h1, h2, q, k⟩
    | dK es => cases e
    | ins _ _ => cases e
  | _ => cases e
def notCall : Expr → Bool
  | .Call .. => false
  | _ => true
theorem base_ok {o : Expr} (h : notCall o = true) (attr : Str) (env : Env) (w : Sem Value) : attributeBase o attr env w = w := by
  cases o <;> first | rfl | cases h
theorem stars_all {es : List Expr} (h : noStars es = true) (env : Env) (pos : Pos) : ((backTo pos (starEach es env)).all fun x => !x.1) = true := by
  induction es with
  | nil => rfl
  | cons e es ih =>
    unfold noStars at h
    rw [List.all_cons, Bool.and_eq_true] at h
    rw [star_ok h.1]
    show ((!false) && (backTo pos (starEach es env)).all fun x => !x.1) = true
    rw [ih h.2]; rfl
section
variable {X : Cx} {W : WX} {o e : Expr} {es : List Expr} {mo : M D} {m : M (List D)} {apos cpos : Pos} {T id : String} {name : Str} {r : V → List V → Hp → VK → Prop}
theorem few_ok (h : noStars (e :: es) = true) (hl : (e :: es).length < 29) : ((backTo cpos (starEach (e :: es) X.env)).all (fun x => !x.1) && (backToKw cpos (keywordEach [] X.env)).all (fun x => x.1.isSome)
      && decide ((e :: es).length + ([] : List Keyword).length + (if ([] : List Keyword).isEmpty then 0 else 1) < 30)) = true := by
  rw [stars_all h, Bool.true_and]
  have z : (backToKw cpos (keywordEach [] X.env)).all (fun x => x.1.isSome) = true := rfl
  rw [z, Bool.true_and, decide_eq_true_eq]
  have e1 : ([] : List Keyword).length = 0 := rfl
  have e2 : (if ([] : List Keyword).isEmpty = true then 0 else 1) = 0 := rfl
  rw [e1, e2]; omega
theorem d_meth {k : MI} (ho : DE X W o mo) (ha : DA X W (e :: es) m) (hb : notCall o = true) (hl : (apos.endLine == cpos.line) = true) (hs : noStars (e :: es) = true) (hn : (e :: es).length < 29) :
    DE X W (.Call (.Attribute o k.nm apos) (e :: es) [] cpos) (mmeth k mo m) := by
  have hse : notStar e = true := by
    unfold noStars at hs
    rw [List.all_cons, Bool.and_eq_true] at hs
    exact hs.1
  have hs2 : noStars es = true := by
    unfold noStars at hs ⊢
    rw [List.all_cons, Bool.and_eq_true] at hs
    exact hs.2
  have go : ∀ (id : String) (r : V → List V → Hp → VK → Prop), Slot "list" k.nm id → typeOf (.builtin id) = pure (.type "method_descriptor") → MtR X id r →
      (∀ (ι : Loc) (σ : L2.St) (H : Hp) (h : DH) (d : D) (ds : List D) (x : V) (xs : List V) (Q : VK), RepH X.K ι H h → RepV X.K ι H d x → RepVs X.K ι H ds xs → Post X.K W (relV X.K) ι σ H Q (match k.f h d ds with
        | some (d, h2) => .ok d h2
        | none => .bad) → r x xs H Q) → DE X W (.Call (.Attribute o k.nm apos) (e :: es) [] cpos) (mmeth k mo m) := by
    intro id r sl ty mt fin
    refine PE_imp (pe_bm PySem.F.plainAttrs_list sl ty mt ho ha (base_ok hb _ _ _) (few_ok hs hn) hl (star_ok hse es X.env) (stars_any hs2 X.env cpos)) fun σ H Q ⟨ι, s, h, rs, rh, p⟩ => tM.step rs rh p fun d h1 ι1 x H1 rs1 e1 rh1 rx p1 => ?_
    cases z : d.live h1 with
    | none => simp only [z] at p1; exact p1.elim
    | some y =>
      obtain ⟨j, es'⟩ := y
      simp only [z] at p1
      obtain ⟨a, xs, rfl, rfl, k1, k2, k3⟩ := live_rep rh1 rx z
      exact ⟨.inl ⟨rfl, xs, .of k2⟩, tM.step rs1 rh1 p1 fun ds h2 ι2 ys H2 rs2 e2 rh2 ry p2 => fin ι2 σ H2 h2 _ ds _ ys Q rh2 (RepV.ext e2 _ _ rx) ry p2⟩
  cases k with
  | append =>
    refine go "list.append" rAppend F.slot_list_append F.type_list_append mt_append fun ι σ H h d ds x xs Q rh rx rxs p => ?_
    cases ds with
    | nil => exact p.elim
    | cons y ds =>
      cases ds with
      | cons _ _ => exact p.elim
      | nil =>
        obtain ⟨v, rfl, ry⟩ := rvs1 rxs
        simp only [MI.f, fAppend, fExtend] at p
        cases z : d.live h with
        | none => simp only [z] at p; exact p.elim
        | some q =>
          obtain ⟨j, es'⟩ := q
          simp only [z] at p
          obtain ⟨a, us, rfl, rfl, k1, k2, k3⟩ := live_rep rh rx z
          have l := k3.length
          by_cases hz : es'.length < sizeLine
          · simp only [hz, if_true] at p
            have mem : a ∈ ι.ad := List.mem_of_getElem? k1
            exact ⟨a, us, v, rfl, rfl, k2, by omega, p ι .non _ (.write mem) (rh.write k1 ⟨_, upd_same, (RepVs.ext (.write mem) _ _ k3).append (.one (RepV.ext (.write mem) _ _ ry))⟩) rfl⟩
          · simp only [hz, if_false] at p; exact p.elim
  | extend =>
    refine go "list.extend" rExtend F.slot_list_extend F.type_list_extend mt_extend fun ι σ H h d ds x xs Q rh rx rxs p => ?_
    cases ds with
    | nil => exact p.elim
    | cons y ds =>
      cases ds with
      | cons _ _ => exact p.elim
      | nil =>
        obtain ⟨v, rfl, ry⟩ := rvs1 rxs
        simp only [MI.f, fAppend, fExtend] at p
        cases z : d.live h with
        | none => simp only [z] at p; exact p.elim
        | some q =>
          obtain ⟨j, es'⟩ := q
          cases z2 : y.tseq h with
          | none => simp only [z, z2] at p; exact p.elim
          | some fs =>
            simp only [z, z2] at p
            obtain ⟨a, us, rfl, rfl, k1, k2, k3⟩ := live_rep rh rx z
            obtain ⟨b, vs, rfl, k4, k5⟩ := tseq_rep rh ry z2
            have l := k3.length
            have l2 := k5.length
            by_cases hz : es'.length + fs.length ≤ sizeLine
            · simp only [hz, if_true] at p
              have mem : a ∈ ι.ad := List.mem_of_getElem? k1
              exact ⟨a, b, us, vs, rfl, rfl, k2, k4, by omega, p ι .non _ (.write mem) (rh.write k1 ⟨_, upd_same, (RepVs.ext (.write mem) _ _ k3).append (RepVs.ext (.write mem) _ _ k5)⟩) rfl⟩
            · simp only [hz, if_false] at p; exact p.elim
  | pop0 =>
    refine go "list.pop" rPopAt F.slot_list_pop F.type_list_pop mt_popAt fun ι σ H h d ds x xs Q rh rx rxs p => ?_
    replace p : Post X.K W (relV X.K) ι σ H Q (match fPop0 h d ds with
        | some (d, h2) => .ok d h2
        | none => .bad) := p
    unfold fPop0 at p
    split at p
    · rename_i d2 h2 e2
      split at e2
      · cases z : d.live h with
        | none => simp only [z] at e2; cases e2
        | some q =>
          obtain ⟨j, es'⟩ := q
          cases es' with
          | nil => simp only [z] at e2; cases e2
          | cons f fs =>
            simp only [z] at e2
            cases e2
            obtain ⟨a, us, rfl, rfl, k1, k2, k3⟩ := live_rep rh rx z
            obtain ⟨v, rfl, ry⟩ := rvs1 rxs
            cases ry
            obtain ⟨w, ws, rfl, r1, r2⟩ := k3
            have mem : a ∈ ι.ad := List.mem_of_getElem? k1
            refine ⟨a, _, 0, 0, w, rfl, rfl, k2, by decide, by decide, ?_, rfl, p ι w _ (.write mem) (rh.write k1 ⟨_, upd_same, RepVs.ext (.write mem) _ _ r2⟩) (RepV.ext (.write mem) _ _ r1)⟩
            simp [seqIndex?]
      · cases e2
    · exact p.elim
end
end DL
end

section
set_option maxHeartbeats 2000000
/-! dicts made -/
namespace DL
open PySem PySem.Spec PyProof.Rows L2
variable [Tbs]

theorem snd_lenK {K : Fg} : SndC K fLenK (fun xs H Q => ∃ a kvs, xs = [V.ref a] ∧ H a = some (.dK kvs) ∧ Q (.int kvs.length) H) := by
  intro ι H h xs ds z Q rh rx e hq
  unfold fLenK at e
  split at e
  · rename_i x
    obtain ⟨v, rfl, r⟩ := rvs1 rx
    cases q : x.dict h with
    | none => rw [q] at e; cases e
    | some kvs =>
      rw [q] at e
      cases e
      obtain ⟨i, a, ws, rfl, h1, rfl, h3, h4, h5, h6⟩ := dict_rep rh r q
      have l : ws.length = kvs.length := by have := congrArg List.length h5; simpa using this
      exact ⟨a, ws, rfl, h4, hq _ ι H (.refl _ _) rh (by rw [l]; rfl)⟩
  · cases e
/-! ### new dicts -/
def PostD (K : Fg) (W : WX) (ι : Loc) (σ : L2.St) (H : Hp) (Q : VK) : Res (List (Key × D)) → Prop
  | .ok kvs h' => ∀ ι' p ws H', Ext ι H ι' H' → RepH K ι' H' h' → p ∈ ι'.av → Free H p → H' p = some (.dK ws) → ws.map (·.1) = kvs.map (·.1) → RepVs K ι' H' (kvs.map (·.2)) (ws.map (·.2)) → Q (.ref p) H'
  | .err x h' => ∀ ι' cls dx H', Ext ι H ι' H' → RepH K ι' H' h' → RepX K ι' H' cls dx x → W cls dx σ H'
  | .bad => False
def tD (K : Fg) (W : WX) (m : M (List (Key × D))) : TE := fun σ H Q => ∃ ι s h, RepS K ι H s σ ∧ RepH K ι H h ∧ PostD K W ι σ H Q (m s h)
abbrev DD (X : Cx) (W : WX) (e : Expr) (m : M (List (Key × D))) : Prop := PE X e (tD X.K W m)
section
variable {K : Fg} {W : WX} {ι ι1 : Loc} {σ : L2.St} {H H1 : Hp} {Q : VK}
theorem PostD.ext (e : Ext ι H ι1 H1) : ∀ {r : Res (List (Key × D))}, PostD K W ι σ H Q r → PostD K W ι1 σ H1 Q r
  | .ok a h, p => fun ι2 q xs H2 e2 r hq hn h1 h2 h3 => p ι2 q xs H2 (e.trans e2) r hq (e.back hn) h1 h2 h3
  | .err x h, p => fun ι2 c d H2 e2 r q => p ι2 c d H2 (e.trans e2) r q
  | .bad, p => p
theorem PostD.step {α β : Type} {rel : Loc → Hp → α → β → Prop} {r : Res α} {k : α → DH → Res (List (Key × D))} {Q1 : β → Hp → Prop} (p : PostD K W ι σ H Q (r.bind k))
    (hq : ∀ a h1 ι1 b H1, Ext ι H ι1 H1 → RepH K ι1 H1 h1 → rel ι1 H1 a b → PostD K W ι1 σ H1 Q (k a h1) → Q1 b H1) : Post K W rel ι σ H Q1 r := by
  cases r with
  | ok a h => exact fun ι1 b H1 e r q => hq a h ι1 b H1 e r q (PostD.ext e p)
  | err x h => exact p
  | bad => exact p
theorem tM.stepD {α β : Type} {rel : Loc → Hp → α → β → Prop} {m : M α} {k : α → M (List (Key × D))} {s : SS} {h : DH} {Q1 : β → Hp → Prop} (rs : RepS K ι H s σ) (rh : RepH K ι H h) (p : PostD K W ι σ H Q (bnd m k s h))
    (hq : ∀ a h1 ι1 b H1, RepS K ι1 H1 s σ → Ext ι H ι1 H1 → RepH K ι1 H1 h1 → rel ι1 H1 a b → PostD K W ι1 σ H1 Q (k a s h1) → Q1 b H1) : tM K W rel m σ H Q1 :=
  ⟨ι, s, h, rs, rh, PostD.step p fun a h1 ι1 b H1 e r q p1 => hq a h1 ι1 b H1 (rs.ext e) e r q p1⟩
theorem post_dref {r : Res (List (Key × D))} {hh : DH} (rh0 : RepH K ι H hh) (p : Post K W (relV K) ι σ H Q (r.bind fun ds h => .ok (.ref h.length) (h ++ [.dK ds]))) : PostD K W ι σ H Q r := by
  cases r with
  | bad => exact p
  | err x h => exact p
  | ok ds h =>
    intro ι' q ws H' e rh hq hn h1 h2 h3
    have nq : q ∉ ι.av := fun z => by
      obtain ⟨u, hu, ht⟩ := rh0.avs q z
      obtain ⟨ps, y⟩ := hn u hu
      exact ht.1 ps y
    refine p _ _ H' (ext_outR e hn) (rh.outR e.av hq nq ⟨ws, h1, h2, h3⟩) ⟨q, rfl, ?_⟩
    show (ι'.ad ++ [q])[h.length]? = some q
    rw [← rh.len]
    simp
end
def mnewD (m : M (List (Key × D))) : M D := bnd m fun ds _ h => .ok (.ref h.length) (h ++ [.dK ds])
def dcG (it : IT) (t : Tg) (tt : M Bool) (tk tv : M D) (s0 : SS) : Nat → Nat → List (Key × D) → DH → Res (List (Key × D))
  | k, i, acc, h => match it.get i h with
    | some none => .ok acc h
    | some (some d) => match k with
      | 0 => .bad
      | k + 1 => match t.put d s0 with
        | none => .bad
        | some s2 => match tt s2 h with
          | .ok false h3 => dcG it t tt tk tv s0 k (i + 1) acc h3
          | .ok true h3 => match tk s2 h3 with
            | .ok y h4 => match y.key with
              | some key => match tv s2 h4 with
                | .ok z h5 => if acc.length < sizeLine then dcG it t tt tk tv s0 k (i + 1) (dPut acc key z) h5 else .bad
                | _ => .bad
              | none => .bad
            | _ => .bad
          | _ => .bad
    | none => .bad
def mdc (mi : M IT) (t : Tg) (tt : M Bool) (tk tv : M D) (vs : List Nat) : M (List (Key × D)) := bnd mi fun it s h => dcG it t tt tk tv (wipeD s vs) it.n 0 [] h
theorem dc_imp {K : Fg} {W : WX} {mi : M IT} {t : Tg} {tt : M Bool} {tk tv : M D} {vs : List Nat} (hsl : ∀ i, i ∈ t.sl → i ∈ vs) {σ : L2.St} {H : Hp} {Q : VK} (q : tD K W (mdc mi t tt tk tv vs) σ H Q) :
    tDc (tM K W (relI K) mi) (gT K t) (tM K WNo relB tt) (tM K WNo (relV K) tk) (tM K WNo (relV K) tv) vs σ H Q := by
  obtain ⟨ι, s, h, rs, rh, p⟩ := q
  refine tM.stepD rs rh p fun it h1 ι1 J H1 rs1 e1 rh1 rj p1 C hC => ?_
  refine ⟨fun i m H => ∃ ι h acc ws, Ext ι1 H1 ι H ∧ RepH K ι H h ∧ C ∈ ι.av ∧ H C = some (.dK ws) ∧ ws.map (·.1) = acc.map (·.1) ∧ RepVs K ι H (acc.map (·.2)) (ws.map (·.2)) ∧ PostD K W ι1 σ H1 Q (dcG it t tt tk tv (wipeD s vs) m i acc h),
    ⟨it.n, ι1.with C, h1, [], [], .with hC, rh1.with hC, List.mem_cons_self, upd_same, rfl, (show RepVs K (ι1.with C) (upd H1 C (HO.dK [])) [] [] from rfl), p1⟩, ?_⟩
  rintro i m H ⟨ι, h, acc, ws, e, rh, hav, hCx, ra1, ra, pn⟩
  have rj' := rj ι H h i e rh
  unfold dcG at pn
  cases eg : it.get i h with
  | none => simp only [eg] at pn; exact pn.elim
  | some o =>
    rw [eg] at rj'
    cases o with
    | none =>
      simp only [eg] at pn
      exact .inl ⟨rj', pn ι C ws H e rh hav (free_of hC) hCx ra1 ra⟩
    | some d =>
      simp only [eg] at pn
      cases m with
      | zero => exact pn.elim
      | succ k =>
        cases ep : t.put d (wipeD s vs) with
        | none => simp only [ep] at pn; exact pn.elim
        | some s2 =>
          simp only [ep] at pn
          refine .inr ⟨rj'.1, fun H' => ∃ ι h acc ws, Ext ι1 H1 ι H' ∧ RepH K ι H' h ∧ C ∈ ι.av ∧ H' C = some (.dK ws) ∧ ws.map (·.1) = acc.map (·.1) ∧ RepVs K ι H' (acc.map (·.2)) (ws.map (·.2)) ∧ PostD K W ι1 σ H1 Q (dcG it t tt tk tv (wipeD s vs) k (i + 1) acc h),
            fun H' z => ⟨k, Nat.lt_succ_self k, z⟩, fun x H' hy => ?_⟩
          obtain ⟨eY, rhY, rvY⟩ := rj'.2 x H' hy
          have e' := e.trans eY
          have nC : ∀ {ι2 : Loc} {H2 : Hp}, Ext ι H ι2 H2 → C ∈ ι2.av ∧ H2 C = some (.dK ws) := fun {ι2 H2} q => ⟨q.av C hav, q.keep C _ hCx (fun z => rh.dis C z hav) (by intro ps z; cases z)⟩
          refine ⟨ι, wipeD s vs, d, (RepS.wipe (rs1.ext e') _), rvY, s2, ep, fun σ2 rs2 off => ⟨wipe_off off hsl, ?_⟩⟩
          refine ⟨ι, s2, h, rs2, rhY, ?_⟩
          cases et : tt s2 h with
          | bad => simp only [et] at pn; exact pn.elim
          | err _ _ => simp only [et] at pn; exact pn.elim
          | ok b h3 =>
            simp only [et] at pn
            intro ι3 b' H3 e3 rh3 (rb : b = b')
            subst rb
            cases b with
            | false =>
              refine iteF ?_
              have z := nC (eY.trans e3)
              exact ⟨ι3, h3, acc, ws, e'.trans e3, rh3, z.1, z.2, ra1, RepVs.ext (eY.trans e3) _ _ ra, pn⟩
            | true =>
              refine iteT ⟨ι3, s2, h3, rs2.ext e3, rh3, ?_⟩
              cases ee : tk s2 h3 with
              | bad => simp only [ee] at pn; exact pn.elim
              | err _ _ => simp only [ee] at pn; exact pn.elim
              | ok y h4 =>
                simp only [ee] at pn
                intro ι4 v H4 e4 rh4 rv4
                cases ek : y.key with
                | none => simp only [ek] at pn; exact pn.elim
                | some key =>
                  simp only [ek] at pn
                  have kv := key_rep rv4 ek
                  refine ⟨ι4, s2, h4, (rs2.ext e3).ext e4, rh4, ?_⟩
                  cases ev : tv s2 h4 with
                  | bad => simp only [ev] at pn; exact pn.elim
                  | err _ _ => simp only [ev] at pn; exact pn.elim
                  | ok z h5 =>
                    simp only [ev] at pn
                    intro ι5 u H5 e5 rh5 rv5
                    by_cases hz : acc.length < sizeLine
                    · rw [if_pos hz] at pn
                      have eA := ((eY.trans e3).trans e4).trans e5
                      have q := nC eA
                      have ra5 := RepVs.ext eA _ _ ra
                      have lw : ws.length = acc.length := by have := congrArg List.length ra1; simpa using this
                      refine ⟨ws, key, kv, q.2, by rw [lw]; exact hz, ?_⟩
                      obtain ⟨z1, z2⟩ := dPut_rep key rv5 ra1 ra5
                      refine ⟨ι5, h5, dPut acc key z, putK ws key u, (((e'.trans e3).trans e4).trans e5).updNew hC, rh5.writeA q.1, q.1, upd_same, z1, ?_, pn⟩
                      exact RepVs.sub (Subl.writeA q.1) _ _ z2
                    · rw [if_neg hz] at pn; exact pn.elim
section
variable {X : Cx} {W : WX} {pos : Pos}
theorem d_newD {e : Expr} {m : M (List (Key × D))} (hd : DD X W e m) : DE X W e (mnewD m) := PE_imp hd fun σ H Q ⟨ι, s, h, rs, rh, p⟩ => ⟨ι, s, h, rs, rh, post_dref rh p⟩
theorem d_dc {kx vx tg iter : Expr} {ifs : List Expr} {scope : Scope} {own : List (Str × Nat)} {mi : M IT} {t : Tg} {tt : M Bool} {tk tv : M D} (hc : X.calm = true) (hN : X.N.Nodup) (hi : DI X W tg iter mi) (ok : BlkOk X.N X.env.scope scope own)
    (hg : ∀ (s : Shared) (H : Hp) (C : Addr) (cl : List (Str × Addr)) (fp : List Addr), PG (X.blk s H scope (compEnvC scope cl C X.env) fp) tg (gT X.K t))
    (ht : ∀ (s : Shared) (H : Hp) (C : Addr) (cl : List (Str × Addr)) (fp : List Addr), PTs (X.blk s H scope (compEnvC scope cl C X.env) fp) ifs (tM X.K WNo relB tt))
    (hk : ∀ (s : Shared) (H : Hp) (C : Addr) (cl : List (Str × Addr)) (fp : List Addr), PE (X.blk s H scope (compEnvC scope cl C X.env) fp) kx (tM X.K WNo (relV X.K) tk))
    (he : ∀ (s : Shared) (H : Hp) (C : Addr) (cl : List (Str × Addr)) (fp : List Addr), PE (X.blk s H scope (compEnvC scope cl C X.env) fp) vx (tM X.K WNo (relV X.K) tv)) (hs : ∀ x, foldedSetIterable iter X.env x = pure x)
    (hsl : ∀ i, i ∈ t.sl → i ∈ own.map (·.2)) : DD X W (.DictComp kx vx [⟨tg, iter, ifs, 0⟩] scope pos) (mdc mi t tt tk tv (own.map (·.2))) :=
  PE_imp (pe_dc hc hN hi ok hg ht hk he hs) fun σ H Q q => dc_imp hsl q
theorem d_dempty : DD X W (.Dict [] [] pos) (mret []) := PE_imp pe_dnewK fun σ H Q ⟨ι, s, h, rs, rh, p⟩ => fun q hq => p (ι.with q) q [] _ (.with hq) (rh.with hq) List.mem_cons_self (free_of hq) upd_same rfl rfl
end
end DL
end

section
set_option maxHeartbeats 2000000
/-! an exception class over another one: its __init__ begins with super().__init__(..) -/
namespace DL
open PySem PySem.Spec PyProof.Rows L2

/-- the context of a method that knows its class by a cell -/
def cxK (CX : CXT) (P : Program) (w : World) (K : PySem.W.Frag) (mg : Str → Option Value) (base : Heap) (N : List Str) (qual : Str) (scope : Scope) (f cda cc : Addr) (A : Around) (outer : List Env) (s : Shared) (H : Hp) (E : XK) : Cx where
  prog := P
  w := w
  K := K
  mg := mg
  base := base
  A := A.deeper (PySem.W.ksEnv qual scope s.heap.objs.size f (.ref cda) cc)
  N := N
  s_0 := s
  H_0 := H
  env := PySem.W.ksEnv qual scope s.heap.objs.size f (.ref cda) cc
  outer := outer
  stack := PySem.W.ksEnv qual scope s.heap.objs.size f (.ref cda) cc :: outer
  ex := []
  fn := fun _ => false
  calm := true
  pn := []
  xe := fun e s' => wpAny (model P w) (A.deeper (PySem.W.ksEnv qual scope s.heap.objs.size f (.ref cda) cc)) (leaving (PySem.W.ksEnv qual scope s.heap.objs.size f (.ref cda) cc) e) (fun _ s'' => CX outer H s E e s'') (fun e' s'' => CX outer H s E e' s'') s'
/-- the names of such a method: its parameters, its class -/
structure KScope (N : List Str) (sc : Scope) : Prop where
  kind : sc.kind = .function
  co : sc.isCoroutine = false
  gen : sc.isGenerator = false
  nd : N.Nodup
  par : ∀ x ∈ N, sc.names.lookup x = some .local
  nocell : ∀ y ∈ sc.names, y.2 ≠ .cell
  free : ∀ y ∈ sc.names, y.2 = .free → y.1 = ("__class__" : Str)
theorem look_zip : ∀ {ps : List Str} {us : List Value} {i : Nat} {y : Str} {u : Value}, ps.Nodup → ps[i]? = some y → us[i]? = some u → (ps.zip us).lookup y = some u
  | [], _, _, _, _, _, h, _ => by simp at h
  | p :: ps, [], i, _, _, _, _, h => by simp at h
  | p :: ps, v :: us, 0, y, u, n, h1, h2 => by
    have e1 : p = y := by simpa using h1
    have e2 : v = u := by simpa using h2
    subst e1 e2
    simp [List.lookup]
  | p :: ps, v :: us, i + 1, y, u, n, h1, h2 => by
    obtain ⟨n1, n2⟩ := List.nodup_cons.mp n
    have h1 : ps[i]? = some y := by simpa using h1
    have h2 : us[i]? = some u := by simpa using h2
    have ne : y ≠ p := fun z => n1 (z ▸ List.mem_of_getElem? h1)
    have e : (y == p) = false := by simpa using ne
    rw [List.zip_cons_cons]
    simp only [List.lookup, e]
    exact look_zip n2 h1 h2
theorem look_none : ∀ {l : List (Str × Value)} {y : Str}, (∀ v, (y, v) ∉ l) → l.lookup y = none
  | [], _, _ => rfl
  | (p, v) :: l, y, h => by
    have ne : y ≠ p := fun z => h v (by rw [z]; exact List.mem_cons_self)
    have e : (y == p) = false := by simpa using ne
    simp only [List.lookup, e]
    exact look_none fun v hv => h v (List.mem_cons_of_mem _ hv)
theorem look_app : ∀ {l r : List (Str × Value)} {y : Str}, (l ++ r).lookup y = (l.lookup y).or (r.lookup y)
  | [], r, y => rfl
  | (p, v) :: l, r, y => by
    have ih := look_app (l := l) (r := r) (y := y)
    rw [List.cons_append, List.lookup_cons, List.lookup_cons]
    cases y == p with
    | true => rfl
    | false => exact ih
theorem look_rev : ∀ {ps : List Str} {us : List Value} (y : Str), ps.Nodup → (ps.zip us).reverse.lookup y = (ps.zip us).lookup y
  | [], _, _, _ => rfl
  | p :: ps, [], _, _ => rfl
  | p :: ps, v :: us, y, n => by
    obtain ⟨n1, n2⟩ := List.nodup_cons.mp n
    rw [List.zip_cons_cons, List.reverse_cons, look_app, look_rev y n2]
    by_cases e : y = p
    · subst e
      have z : (ps.zip us).lookup y = none := look_none fun v hv => n1 (List.of_mem_zip hv).1
      rw [z]
      simp [List.lookup]
    · have e' : (y == p) = false := by simpa using e
      have z : List.lookup y [(p, v)] = none := by simp [List.lookup, e']
      rw [z, Option.or_none]
      simp only [List.lookup, e']
section
variable {CX : CXT} {P : Program} {w : World} {K : PySem.W.Frag} {mg : Str → Option Value} {base : Heap} {N : List Str} {qual : Str} {scope : Scope} {f cda cc : Addr} {A : Around} {outer : List Env} {s : Shared} {H : Hp} {E : XK} {us : List Value} {vs : List V}
theorem cxK_inv {h₁ : Heap} {tk : Nat} {cv : Option Value} (S : KScope N scope) (hd : A.handled = none) (e0 : Env0 P w K mg base A outer s H) (hl : vs.length = N.length) (r : Vals vs us)
    (hc : ∃ o, K.lookup cc = some o ∧ o.data = .cell cv) (hns : h₁.Ns s.heap.objs.size fun y => (N.zip us).reverse.lookup y) (kp : ∀ b o, s.heap.get? b = some o → h₁.get? b = some o) :
    Inv (cxK CX P w K mg base N qual scope f cda cc A outer s H E) [] (vs.map some) H { s with heap := h₁, toks := tk } := by
  obtain ⟨oc, lc, dc⟩ := hc
  have bc := e0.mod.kin _ _ lc
  have only : ∀ {y c}, ([("__class__", cc)] : List (Str × Addr)).lookup y = some c → y = ("__class__" : Str) ∧ c = cc := fun {y c} h => by
    unfold List.lookup at h
    split at h
    · rename_i q
      cases h
      exact ⟨by simpa using q, rfl⟩
    · cases h
  have noA : ∀ b : Addr, b ∉ (cxK CX P w K mg base N qual scope f cda cc A outer s H E).ex := fun b z => nomatch (show b ∈ ([] : List Addr) from z)
  refine ⟨⟨e0.mod, S.kind, rfl, rfl, Nat.le_refl _, fun x y c h1 h2 => (only h1).1.trans (only h2).1.symm, ?_, fun y c z _ => ?_, fun _ => hd, Around.frames_deeper e0.frames, .inr ⟨rfl, rfl⟩, fun b z => absurd z (noA b), e0.bs, e0.bsz, fun b _ _ => noA b, fun b z => absurd z (noA b), e0.funs, e0.frf⟩,
    rfl, e0.bare, Un.kept kp, ⟨_, hns, fun i y v e1 e2 e3 => ?_⟩, fun y c e => ?_, e0.hok.fresh (Nat.le_refl _), fun y c e => ?_, fun q hq => (nomatch (show q ∈ ([] : List (Addr × Obj)) ++ [] from hq)), e0.hok.kept kp, ?_⟩
  · intro y hy
    have hy : scope.names.lookup y = some .cell ∨ scope.names.lookup y = some .free := hy
    rcases hy with hy | hy
    · exact absurd rfl (S.nocell _ (PySem.mem_of_lookup hy))
    · have e := S.free _ (PySem.mem_of_lookup hy) rfl
      have e : y = ("__class__" : Str) := e
      subst e
      exact ⟨cc, by show ([("__class__", cc)] : List (Str × Addr)).lookup ("__class__" : Str) = some cc; simp [List.lookup]⟩
  · have z : false = true := z
    cases z
  · have e1 : N[i]? = some y := e1
    have e2 : (vs.map some)[i]? = some (some v) := e2
    rw [List.getElem?_map] at e2
    cases q : vs[i]? with
    | none => rw [q] at e2; cases e2
    | some v' =>
      rw [q] at e2
      have e2 : v' = v := by simpa using e2
      subst e2
      obtain ⟨u, hu, rv⟩ := r.get q
      refine ⟨u, rv, .inl ⟨S.par y (List.mem_of_getElem? e1), ?_⟩⟩
      show (N.zip us).reverse.lookup y = some u
      rw [look_rev y S.nd]
      exact look_zip S.nd e1 hu
  · obtain ⟨_, rfl⟩ := only e
    exact ⟨_, _, kp _ _ (e0.bs _ _ bc).1, dc⟩
  · obtain ⟨_, rfl⟩ := only e
    exact (e0.bs _ _ bc).2
  · show (vs.map some).length = N.length
    rw [List.length_map, hl]
end
end DL
end

section
set_option maxHeartbeats 2000000
/-! super().__init__(..) of such a method -/
namespace DL
open PySem PySem.Spec PyProof.Rows L2

section
variable {X : Cx} {pins : List (Addr × Obj)} {σ : L2.St} {H : Hp} {s : Shared} {A : Around} {E : Value → Shared → Prop}
/-- the wrapper of ValueError.__init__, bound to the exception, called -/
theorem call_mw {u a C : Addr} {us : List Value} {Q : Value → Shared → Prop} (T : OexC X.K C) (I : Inv X pins σ H s) (e : H a = some (exo a C none)) (hu : s.heap.get? u = some (PySem.W.kxs_mw "ValueError.__init__" a)) (hl : us.length ≤ sizeLine)
    (h : ∀ s', Inv X pins σ H s' → Q .none s') : wpAny (model X.prog X.w) A (call (.ref u) us) Q E s := by
  obtain ⟨nm, q, N, bs, bm, sn, sub, ab, col, dd, k0, k1, k2, k3, k5, hC, hbm⟩ := T.cls
  obtain ⟨t1, ho⟩ := exo_at I.hok e
  have eu : upd H a (exo a C none) = H := by
    funext b
    by_cases hb : b = a
    · subst hb; rw [upd_same, e]
    · rw [upd_ne hb]
  have fin : ∀ h', (∀ b o, b ≠ a → s.heap.get? b = some o → h'.get? b = some o) → (∃ t2 : Addr, h'.get? a = some ({ cls := .ref C, dict := none, data := .fields #[.ref t2, .none, .none, .none, .bool false, .none] } : Obj)) → Q .none { s with heap := h' } := fun h' k ⟨t2, hx⟩ => by
    have J := I.write (t' := s.toks) (x := a) (e := a) (o := exo a C none) (by rw [e]; exact True.intro) (.inl rfl) k ⟨_, hx⟩ (exo_ok hx)
    rw [eu] at J
    exact h _ J
  have cK := I.kIn _ _ hC
  obtain ⟨hp, g, d, t, os⟩ := s
  apply wpAny_call
  apply codeAny_of_tree
  show wpAny _ A.in1 (callAny (.ref u) ⟨us, []⟩) _ _ _
  unfold callAny
  apply wpAny_bind
  apply wpAny_load hu
  have c1 : (PySem.W.kxs_mw "ValueError.__init__" a).cls = .type "method-wrapper" := rfl
  simp only [c1]
  refine W.KFB.if_so (by decide) ?_
  refine wpAny_bind (PySem.W.check_bound_init F.excBase_ValueError.toExcCallFacts cK ho rfl ?_)
  refine wpAny_bind (wpAny_pure (wpAny_pure ⟨plainId_quiet F.excBase_ValueError.init.plain _, codeAny_builtin F.excBase_ValueError.initEntry ?_⟩))
  refine PySem.W.exc_init_tree (cls := .ref C) (t0 := t1) (dv := none) (c2 := .none) (c3 := .none) (b4 := .bool false) ho hl fun h' k e' _ => ?_
  exact fin h' k ⟨_, e'⟩
end

/-- what is known of the class at C, of the code and the cell of its __init__ -/
structure SupF (P : Program) (K : PySem.W.Frag) (mg : Str → Option Value) (C cda cc : Addr) : Prop where
  ex : OexC K C
  code : ∃ ccl cdd vs ccs file tf, K.lookup cda = some ⟨ccl, cdd, .fields vs, ccs⟩ ∧ vs[2]? = some (.str file tf) ∧ ((P.main.file : Str) == file) = true
  cell : ∃ cl cld csl, K.lookup cc = some ⟨cl, cld, .cell (some (.ref C)), csl⟩
  sub : PySem.W.mroIn K C (.ref C) = some true
  subV : PySem.W.subIn K (.ref C) (.type "ValueError") = some true
  opq : PySem.W.nsIn K cStatics "thirdparty.any" = some none
  ini : PySem.W.ks_superIn K C C "__init__" = some (some (.builtin "ValueError.__init__"))
  sup : mg "super" = none
  top : (P.main.scope.names.lookup ("super" : Str)).isSome = false
theorem oex_cls {K : PySem.W.Frag} {C : Addr} (T : OexC K C) : ∃ cd, PySem.W.clsIn K C = some cd := by
  obtain ⟨nm, q, N, bs, bm, sn, sub, ab, col, dd, k0, k1, k2, k3, k5, hC, hbm⟩ := T.cls
  unfold PySem.W.clsIn
  rw [hC]
  exact ⟨_, rfl⟩
section
variable {CX : CXT} {P : Program} {w : World} {K : PySem.W.Frag} {mg : Str → Option Value} {base : Heap} {k : Nat} {f cda cc C : Addr} {name qual : Str} {params : Arguments} {scope : Scope} {dV kV doc pm ct oc : Value} {an od : Option Addr} {osl : Array (Option Value)}
  {N : List Str} {e : Expr} {es : List Expr} {rest : List Stmt} {p0 p1 p2 p3 pos : Pos} {ar : Arg} {sp : Sp}
theorem fn_sup (T : SupF P K mg C cda cc)
    (lk : K.lookup f = some ⟨oc, od, .func (PySem.W.fnX name qual params (.Expr (.Call (.Attribute (.Call (.Name "super" p0) [] [] p1) "__init__" p2) (e :: es) [] p3) pos :: rest) scope [("__class__", cc)] dV kV doc pm an (.ref cda) ct), osl⟩)
    (hcd : PySem.W.codeIn K (.ref cda) qual = true) (S : KScope N scope) (hks : scope.names.lookup ("super" : Str) = some .globalImplicit) (hkc : scope.names.lookup ("__class__" : Str) = some .free)
    (hp : (params.posonlyargs ++ params.args).head? = some ar) (hN : N[0]? = some ar.arg) (len : ∀ vs H Q E, sp vs H Q E → vs.length = N.length)
    (hbody : ∀ (A : Around) (outer : List Env) (s : Shared) (H : Hp) (vs : List V) (Q : VK) (E : XK), Room k (A.deeper (PySem.W.ksEnv qual scope s.heap.objs.size f (.ref cda) cc)) → sp vs H Q E →
      ∃ (a : Addr) (ws : List V) (ta : TA) (t : TS), vs = .ref a :: ws ∧ H a = some (exo a C none) ∧ PA (cxK CX P w K mg base N qual scope f cda cc A outer s H E) (e :: es) ta ∧ ta (vs.map some) H (fun us H1 => H1 = H ∧ us.length ≤ 1000) ∧
        PSs (cxK CX P w K mg base N qual scope f cda cc A outer s H E) rest t ∧ t { nx := fun _ H' => Q .non H', rt := Q } (vs.map some) H)
    (h1 : notStar e = true) (h2' : noStars es = true) (hi : ∀ L, interactive (PySem.W.ksEnv qual scope L f (.ref cda) cc) = false)
    (pl : Nat → Sem Bool) (hc : ∀ L, eval (.Call (.Attribute (.Call (.Name "super" p0) [] [] p1) "__init__" p2) (e :: es) [] p3) (PySem.W.ksEnv qual scope L f (.ref cda) cc) = (do
      let ov ← attributeBase (.Call (.Name "super" p0) [] [] p1) "__init__" (PySem.W.ksEnv qual scope L f (.ref cda) cc) (eval (.Call (.Name "super" p0) [] [] p1) (PySem.W.ksEnv qual scope L f (.ref cda) cc))
      standAt p2.atName
      let (g, first) ← holding [ov] (getMethod ov "__init__" (pl L))
      callWith p3 g first (backTo p3 (starEach (e :: es) (PySem.W.ksEnv qual scope L f (.ref cda) cc))) [])) :
    FnOk P w K mg base CX (k + 1) f (PySem.W.fnX name qual params (.Expr (.Call (.Attribute (.Call (.Name "super" p0) [] [] p1) "__init__" p2) (e :: es) [] p3) pos :: rest) scope [("__class__", cc)] dV kV doc pm an (.ref cda) ct) N sp := by
  refine ⟨len, fun A outer s H args us vs Q E hr e0 hb r hsp => ?_⟩
  have hl := len _ _ _ _ hsp
  obtain ⟨ccl, cdd, cvs, ccs, file, tf, kcode, kfile, efile⟩ := T.code
  obtain ⟨cl, cld, csl, kcell⟩ := T.cell
  obtain ⟨cd, hcl⟩ := oex_cls T.ex
  have stay : ∀ b o, base.get? b = some o → s.heap.get? b = some o := fun b o q => (e0.bs b o q).1
  have KX : K.In s.heap := e0.mod.kin.keeps stay
  obtain ⟨a, ws, ta, t, ev, ea, hA, hta, hR, hq⟩ := hbody A outer s H vs Q E (hr.deeper _) hsp
  refine PySem.ks_codeAny_call_defAt (binds := N.zip us) hr.depth (KX _ _ lk) rfl (e0.mod.nolimit.keeps stay) (PySem.W.codeRec_of KX hcd) rfl hb S.nocell (fun x hx => S.par _ (List.of_mem_zip hx).1) (fun h₁ hns hk => ?_) S.co S.gen S.kind
  have I : Inv (cxK CX P w K mg base N qual scope f cda cc A outer s H E) [] (vs.map some) H { s with heap := h₁, toks := s.toks + (N.zip us).length } := cxK_inv S hr.hd e0 hl r ⟨_, kcell, rfl⟩ hns hk
  show _root_.PySem.wpAt (model P w) (A.deeper (PySem.W.ksEnv qual scope s.heap.objs.size f (.ref cda) cc)) (.func _ (PySem.W.ksEnv qual scope s.heap.objs.size f (.ref cda) cc)) (execs _ (PySem.W.ksEnv qual scope s.heap.objs.size f (.ref cda) cc)) _ _ _
  refine ks_wpAt_execs_cons (ks_wpAt_Expr_any (ks_wpAt_MethodCall ?_ (hc _)) (hi _))
  refine ks_wpAt_super_base (cc := cda) hks hkc (by decide) rfl (hk _ _ (KX _ _ lk)) rfl hp rfl (hk _ _ (KX _ _ kcode)) rfl kfile efile T.top ?_
  obtain ⟨mb, hb1, hb2⟩ := I.mod.blt
  refine PySem.W.ks_loadName_global S.kind hks (Calls.loadGlobal_builtin (I.mod.glob.keeps I.bk) T.sup (hb1.keeps I.bk) ((hb2 _ (by decide)).trans (by decide +kernel : bootBuiltins "super" = some (.type "super"))) ⟨rfl, ?_⟩)
  refine wpAny_loadName_free S.kind hkc (c := cc) rfl ⟨_, hk _ _ (KX _ _ kcell), rfl⟩ ?_
  subst ev
  obtain ⟨ua, ur, eu, rfl⟩ : ∃ ua ur, us = ua :: ur ∧ ua = Value.ref a := by
    cases r with
    | cons ra rr => exact ⟨_, _, rfl, ra⟩
  have hself : (N.zip us).reverse.lookup ar.arg = some (.ref a) := by
    rw [look_rev _ S.nd]
    exact look_zip (i := 0) S.nd hN (by rw [eu]; rfl)
  refine wpAny_loadName_local S.kind (S.par _ (List.mem_of_getElem? hN)) hns hself ?_
  obtain ⟨oD, kD, dD⟩ : ∃ oD, K.lookup C = some oD ∧ oD.data = .cls cd := by
    unfold PySem.W.clsIn at hcl
    split at hcl
    · rename_i q
      cases hcl
      exact ⟨_, q, rfl⟩
    · cases hcl
  refine ks_wpAny_isType_cls (hk _ _ (KX _ _ kD)) dD ⟨rfl, ?_⟩
  obtain ⟨t1, ho⟩ := exo_at I.hok ea
  refine ks_wpAny_call_super (hk _ _ (KX _ _ kD)) dD ho rfl (fun c q => by cases q) (PySem.W.looks_mroIn I.kIn T.sub) fun h2 e2 k2 => ?_
  have IA : PySem.W.InstAt h2 a ({ cls := .ref C, dict := none, data := .fields #[.ref t1, .none, .none, .none, .bool false, .none] } : Obj) C none := ⟨k2 _ _ ho, rfl, rfl, trivial⟩
  have K2 : K.In h2 := fun b o q => k2 b o (hk b o (KX b o q))
  have ini := T.ini
  unfold PySem.W.ks_superIn at ini
  rw [hcl] at ini
  refine PySem.W.kxs_getMethod PySem.W.kxs_ValueError e2 (PySem.W.looks_opaque K2 T.opq) (l₀ := cd.mro) ((PySem.W.looks_clsIn K2 hcl).andThen .now) rfl K2 ini (IA.type.andThen (PySem.W.looks_subIn K2 T.subV)) (PySem.W.ks_ne K2 IA hcl) (by decide) ?_
  have hsz : h₁.objs.size ≤ h2.objs.size := by
    have q := Heap.lt_size e2
    exact Nat.le_of_lt q
  have kk : ∀ b o, h₁.get? b = some o → (h2.push (PySem.W.kxs_mw "ValueError.__init__" a)).get? b = some o := fun b o q => Heap.get?_push_of_some _ (k2 b o q)
  have hnew : H h2.objs.size = none := I.hok.fresh hsz
  have I3 : Inv (cxK CX P w K mg base N qual scope f cda cc A outer s H E) [(h2.objs.size, PySem.W.kxs_mw "ValueError.__init__" a)] ((V.ref a :: ws).map some) H { s with heap := h2.push (PySem.W.kxs_mw "ValueError.__init__" a), toks := s.toks + (N.zip us).length + 1 } := by
    refine Inv.pins_of (pins := []) (I.kept kk) fun q hq => ?_
    have hq : q = (h2.objs.size, PySem.W.kxs_mw "ValueError.__init__" a) := by simpa using hq
    subst hq
    refine ⟨Heap.get?_push_size _ rfl, hnew, ?_, I.nofs hsz, fun v z => by cases z⟩
    have := I.lt
    exact Nat.ne_of_gt (Nat.lt_of_lt_of_le this hsz)
  rw [star_ok h1]
  refine PySem.W.kxs_callWith (i := "ValueError.__init__") (x := a) (by show (false || (backTo p3 (starEach es _)).any (·.1)) = false; rw [stars_any h2' _ _]; rfl) (Calls.evalArgs_plain ?_)
  have hrun := hA.run p3 _ _ _ H _ I3 hta
  rw [star_ok h1] at hrun
  refine wpAny_mono hrun (fun us' s4 h4 => ?_) fun _ _ z => z
  obtain ⟨vs', H4, I4, r4, eH, hlen⟩ := h4
  have eH : H4 = H := eH
  subst eH
  have hmw := (I4.pin (h2.objs.size, PySem.W.kxs_mw "ValueError.__init__" a) (List.mem_append_right _ List.mem_cons_self)).1
  refine ⟨hmw, call_mw T.ex I4 ea hmw (by show us'.length ≤ sizeLine; rw [← Paired.length r4, sizeLine_eq]; omega) fun s5 I5 => ?_⟩
  have I5 := I5.pins_of (pins' := []) fun q hq => (nomatch hq)
  refine wpAt_of_wpAny (wpAny_mono (hR.run [] s5 _ _ _ I5 hq) (fun fl s' hs => ?_) fun e s' hs => hs)
  have fin : ∀ {σ' : L2.St} {H' : Hp} {v : V} {u : Value}, Inv (cxK CX P w K mg base N qual scope f cda cc A outer s H4 E) [] σ' H' s' → RelV v u → Q v H' → CE outer P w H4 s Q u s' :=
    fun {σ' H' v u} J rv q => ⟨v, H', J.os, J.bare, J.base, J.hok, rv, q⟩
  cases fl with
  | ret u =>
    obtain ⟨v, σ', H', J, rv, q⟩ := hs
    exact fin J rv q
  | next =>
    obtain ⟨σ', H', J, q⟩ := hs
    exact fin (v := V.non) (u := Value.none) J rfl q
  | brk =>
    obtain ⟨_, _, _, q⟩ := hs
    exact False.elim q
  | cont =>
    obtain ⟨_, _, _, q⟩ := hs
    exact False.elim q
end
end DL
end

section
set_option maxHeartbeats 2000000
/-! raise of an own exception -/
namespace DL
open PySem PySem.Spec PyProof.Rows L2
variable [Tbs]

/-- an exception class: its name, its fields in the order of its parameters -/
structure XEnt where
  name : Str
  fs : List Str
/-- what an exception's __init__ promises -/
def spI (C : Addr) (fl : List Str) : Sp := fun vs H Q _ => ∃ (a : Addr) (ws : List V), vs = .ref a :: ws ∧ ws.length = fl.length ∧ H a = some (exo a C none) ∧
  ∀ (H2 : Hp) (dx : Addr), H dx = none → dx ≠ a → H2 a = some (exo a C (some dx)) → H2 dx = some (exd dx (fl.zip ws).reverse) → (∀ b, b ≠ a → b ≠ dx → H2 b = H b) → Q .non H2
structure XFacts (P : Program) (w : World) (K : PySem.W.Frag) (mg : Str → Option Value) (base : Heap) (k : Nat) (e : XEnt) (C fI : Addr) (fd : FuncData) (ps : List Str) : Prop where
  T : OexC K C
  ini : PySem.W.findIn K (.ref C) "__init__" = some (some (.ref fI))
  ty : PySem.W.typeIn K (.ref fI) = some (.type "function")
  ok : FnOk P w K mg base (L2.CX P w) k fI fd ps (spI C e.fs)
  bd : Binds K fd ps []
  mg : mg e.name = some (.ref C)
  ns : PySem.W.nsIn K mainGlobals e.name = some (some (.ref C))
  few : e.fs.length ≤ 10
  xf : XfC K C
  no : ∀ f ∈ e.fs, PySem.W.findIn K (.ref C) f = some none
  xm : PySem.W.exmOne K (.ref C) (.ref C) = some true
def sraise (x : Str) (fl : List Str) (m : M (List D)) : MS := fun s h => (m s h).toS s fun ds h1 => if ds.length = fl.length then .err ⟨x, (fl.zip ds).reverse⟩ s h1 else .bad
theorem passes_false {X : Cx} : Passes (L2.CX X.prog X.w) X (fun _ _ _ => False) := fun pins σ H s e s' I h => by
  obtain ⟨_, _, _, _, _, _, _, _, _, _, _, _, z⟩ := h
  exact z.elim
theorem zip_snd {α β : Type} {l : List α} {r : List β} (h : r.length = l.length) : (l.zip r).reverse.map (·.2) = r.reverse := by
  rw [List.map_reverse, List.map_snd_zip (by omega)]
theorem zip_fst {α β : Type} {l : List α} {r : List β} (h : r.length = l.length) : (l.zip r).reverse.map (·.1) = l.reverse := by
  rw [List.map_reverse, List.map_fst_zip (by omega)]
section
variable {X : Cx} {W : WX} {a : Expr} {es : List Expr} {m : M (List D)} {pos pos' p0 : Pos}
theorem d_raise {e : XEnt} {C fI : Addr} {fd : FuncData} {ps : List Str} {k : Nat} (hc : X.calm = true) (tk : Takes X W) (F : XFacts X.prog X.w X.K X.mg X.base k e C fI fd ps) (hr : Room (k + 1) X.A) (hg : Gl X e.name) (ha : DA X W (a :: es) m)
    (hdb : (e.name == ("__debug__" : Str)) = false) (he : starEach (a :: es) X.env = (false, eval a X.env) :: starEach es X.env) (hpl : (backTo pos (starEach es X.env)).any (·.1) = false) :
    DS X W (.Raise (some (.Call (.Name e.name p0) (a :: es) [] pos)) none pos') (sraise e.name e.fs m) :=
  PS_imp (ps_raise hc tk (pmk_oex F.T F.ini F.ty F.ok hr F.bd .nil passes_false hg F.mg ha hdb he hpl)) fun E σ H ⟨ι, s, h, rs, rh, p⟩ => tM.stepS rs rh p fun ds h1 ι1 us H1 rs1 e1 rh1 rx p1 => by
    by_cases hl : ds.length = e.fs.length
    · rw [if_pos hl] at p1
      have lu : us.length = e.fs.length := by rw [← rx.length, hl]
      refine ⟨by have := F.few; omega, fun x hx => ⟨x, us, by rw [List.append_nil], lu, upd_same, fun H2 dx n1 n2 q1 q2 q3 => ⟨rfl, dx, _, q1, q2, ?_, ?_⟩⟩⟩
      · rw [upd_ne n2] at n1
        exact n1
      · have hd1 : H1 dx = none := by
          rw [upd_ne n2] at n1
          exact n1
        have eq : upd (del H2 x) dx (.xd (e.fs.zip us).reverse) = upd H1 dx (.xd (e.fs.zip us).reverse) := by
          funext b
          by_cases b1 : b = dx
          · subst b1; rw [upd_same, upd_same]
          · rw [upd_ne b1, upd_ne b1]
            by_cases b2 : b = x
            · subst b2; rw [del_same, hx]
            · rw [del_ne b2, q3 b b2 b1, upd_ne b2]
        rw [eq]
        have ex : Ext ι1 H1 ι1 (upd H1 dx (.xd (e.fs.zip us).reverse)) := .laid hd1
        refine p1 ι1 σ (.ref C) (some dx) _ ex (rs1.ext ex) (rh1.laid hd1) ⟨⟨C, rfl, F.ns⟩, .inr ⟨dx, _, rfl, upd_same, rh1.fresh hd1, ?_, ?_⟩⟩
        · rw [zip_fst lu, zip_fst hl]
        · rw [zip_snd lu, zip_snd hl]
          exact (RepVs.ext ex _ _ rx).reverse
    · rw [if_neg hl] at p1; exact p1.elim
end
end DL
end

section
set_option maxHeartbeats 2000000
/-! the __init__ of an exception with one field, with two -/
namespace DL
open PySem PySem.Spec PyProof.Rows L2
/-- super().__init__(e, ..) -/
abbrev supSt (p0 p1 p2 p3 pos : Pos) (e : Expr) (es : List Expr) : Stmt := .Expr (.Call (.Attribute (.Call (.Name "super" p0) [] [] p1) "__init__" p2) (e :: es) [] p3) pos
/-- self.n = n -/
abbrev ostSt (se n : Str) (p0 p1 p2 p3 : Pos) : Stmt := .Assign [.Attribute (.Name se p0) n p1] (.Name n p2) p3
theorem eval_sup {p0 p1 p2 p3 : Pos} {e : Expr} {es : List Expr} {env : Env} (hl : (p2.endLine == p3.line) = true) (hf : methodCallForm ((e :: es).length + ([] : List Keyword).length) (backTo p3 (starEach (e :: es) env)) (backToKw p3 (keywordEach [] env)) = true) :
    eval (.Call (.Attribute (.Call (.Name "super" p0) [] [] p1) "__init__" p2) (e :: es) [] p3) env = (do
      let ov ← attributeBase (.Call (.Name "super" p0) [] [] p1) "__init__" env (eval (.Call (.Name "super" p0) [] [] p1) env)
      standAt p2.atName
      let (g, first) ← holding [ov] (getMethod ov "__init__" (do return (← importBound (.Call (.Name "super" p0) [] [] p1) env).getD true))
      callWith p3 g first (backTo p3 (starEach (e :: es) env)) []) := by
  show (do
    let ov ← attributeBase (.Call (.Name "super" p0) [] [] p1) "__init__" env (eval (.Call (.Name "super" p0) [] [] p1) env)
    standAt p2.atName
    methodCall (.Call (.Name "super" p0) [] [] p1) "__init__" p2 p3 env ov ((e :: es).length + ([] : List Keyword).length) (backTo p3 (starEach (e :: es) env)) (backToKw p3 (keywordEach [] env))) = _
  unfold methodCall calleeOf methodCallPos
  rw [hf]
  simp only [hl, Bool.not_true, Bool.false_or, if_true, pure_bind]
  rfl
section
variable {P : Program} {w : World} {K : PySem.W.Frag} {mg : Str → Option Value} {base : Heap} {f cda cc C : Addr} {name qual : Str} {params : Arguments} {scope : Scope} {dV kV doc pm ct oc : Value} {an od : Option Addr} {osl : Array (Option Value)}
  {se n1 n2 : Str} {rest : List Stmt} {p0 p1 p2 p3 pos pa pb q0 q1 q2 q3 r0 r1 r2 r3 : Pos} {ar : Arg}
theorem init1 (T : SupF P K mg C cda cc)
    (lk : K.lookup f = some ⟨oc, od, .func (PySem.W.fnX name qual params [supSt p0 p1 p2 p3 pos (.Name n1 pa) [], ostSt se n1 q0 q1 q2 q3] scope [("__class__", cc)] dV kV doc pm an (.ref cda) ct), osl⟩)
    (hcd : PySem.W.codeIn K (.ref cda) qual = true) (S : KScope [se, n1] scope) (hks : scope.names.lookup ("super" : Str) = some .globalImplicit) (hkc : scope.names.lookup ("__class__" : Str) = some .free)
    (hp : (params.posonlyargs ++ params.args).head? = some ar) (hN : se = ar.arg) (no1 : PySem.W.findIn K (.ref C) n1 = some none)
    (d0 : dbg se = true) (d1 : dbg n1 = true) (hl : (p2.endLine == p3.line) = true) (hi : ∀ L, interactive (PySem.W.ksEnv qual scope L f (.ref cda) cc) = false) :
    FnOk P w K mg base (L2.CX P w) 1 f (PySem.W.fnX name qual params [supSt p0 p1 p2 p3 pos (.Name n1 pa) [], ostSt se n1 q0 q1 q2 q3] scope [("__class__", cc)] dV kV doc pm an (.ref cda) ct) [se, n1] (spI C [n1]) := by
  refine fn_sup T lk hcd S hks hkc hp (by rw [← hN]; rfl) (fun vs H Q E h => ?_) (fun A outer s H vs Q E hr h => ?_) rfl rfl hi _ (fun _ => eval_sup hl rfl)
  · obtain ⟨a, ws, rfl, h1, _⟩ := h
    simp [h1]
  · obtain ⟨a, ws, rfl, h1, ea, hq⟩ := h
    obtain ⟨v1, rfl⟩ : ∃ v1, ws = [v1] := by
      match ws, h1 with
      | [v1], _ => exact ⟨v1, rfl⟩
    have v0 : Vis scope se := .inl (S.par se (by simp))
    have w1 : Vis scope n1 := .inl (S.par n1 (by simp))
    obtain ⟨a1, a2, _⟩ := dbg_ok d0
    obtain ⟨b1, b2, _⟩ := dbg_ok d1
    refine ⟨a, [v1], _, _, rfl, ea, pa_cons (pe_var (i := 1) rfl w1 b1 b2) pa_nil, ⟨v1, rfl, rfl, by simp⟩, pss_one (ps_ost (pe_var (i := 0) rfl v0 a1 a2) (pe_var (i := 1) rfl w1 b1 b2) (by rfl)), ?_⟩
    refine ⟨v1, rfl, .ref a, rfl, a, C, rfl, T.ex, no1, .inl ⟨ea, fun dx m1 m2 => ?_⟩⟩
    refine hq _ dx m1 m2 upd_same (by rw [upd_ne m2, upd_same]; rfl) fun b b1 b2 => by rw [upd_ne b1, upd_ne b2]
theorem init2 (T : SupF P K mg C cda cc)
    (lk : K.lookup f = some ⟨oc, od, .func (PySem.W.fnX name qual params [supSt p0 p1 p2 p3 pos (.Name n1 pa) [.Name n2 pb], ostSt se n1 q0 q1 q2 q3, ostSt se n2 r0 r1 r2 r3] scope [("__class__", cc)] dV kV doc pm an (.ref cda) ct), osl⟩)
    (hcd : PySem.W.codeIn K (.ref cda) qual = true) (S : KScope [se, n1, n2] scope) (hks : scope.names.lookup ("super" : Str) = some .globalImplicit) (hkc : scope.names.lookup ("__class__" : Str) = some .free)
    (hp : (params.posonlyargs ++ params.args).head? = some ar) (hN : se = ar.arg) (no1 : PySem.W.findIn K (.ref C) n1 = some none) (no2 : PySem.W.findIn K (.ref C) n2 = some none)
    (d0 : dbg se = true) (d1 : dbg n1 = true) (d2 : dbg n2 = true) (hl : (p2.endLine == p3.line) = true) (hi : ∀ L, interactive (PySem.W.ksEnv qual scope L f (.ref cda) cc) = false) :
    FnOk P w K mg base (L2.CX P w) 1 f (PySem.W.fnX name qual params [supSt p0 p1 p2 p3 pos (.Name n1 pa) [.Name n2 pb], ostSt se n1 q0 q1 q2 q3, ostSt se n2 r0 r1 r2 r3] scope [("__class__", cc)] dV kV doc pm an (.ref cda) ct) [se, n1, n2] (spI C [n1, n2]) := by
  refine fn_sup T lk hcd S hks hkc hp (by rw [← hN]; rfl) (fun vs H Q E h => ?_) (fun A outer s H vs Q E hr h => ?_) rfl rfl hi _ (fun _ => eval_sup hl rfl)
  · obtain ⟨a, ws, rfl, h1, _⟩ := h
    simp [h1]
  · obtain ⟨a, ws, rfl, h1, ea, hq⟩ := h
    obtain ⟨v1, v2, rfl⟩ : ∃ v1 v2, ws = [v1, v2] := by
      match ws, h1 with
      | [v1, v2], _ => exact ⟨v1, v2, rfl⟩
    have v0 : Vis scope se := .inl (S.par se (by simp))
    have w1 : Vis scope n1 := .inl (S.par n1 (by simp))
    have w2 : Vis scope n2 := .inl (S.par n2 (by simp))
    obtain ⟨a1, a2, _⟩ := dbg_ok d0
    obtain ⟨b1, b2, _⟩ := dbg_ok d1
    obtain ⟨c1, c2, _⟩ := dbg_ok d2
    refine ⟨a, [v1, v2], _, _, rfl, ea, pa_cons (pe_var (i := 1) rfl w1 b1 b2) (pa_cons (pe_var (i := 2) rfl w2 c1 c2) pa_nil), ⟨v1, rfl, v2, rfl, rfl, by simp⟩,
      pss_cons (ps_ost (pe_var (i := 0) rfl v0 a1 a2) (pe_var (i := 1) rfl w1 b1 b2) (by rfl)) (pss_one (ps_ost (pe_var (i := 0) rfl v0 a1 a2) (pe_var (i := 2) rfl w2 c1 c2) (by rfl))), ?_⟩
    refine ⟨v1, rfl, .ref a, rfl, a, C, rfl, T.ex, no1, .inl ⟨ea, fun dx m1 m2 => ?_⟩⟩
    refine ⟨v2, rfl, .ref a, rfl, a, C, rfl, T.ex, no2, .inr ⟨dx, _, upd_same, by rw [upd_ne m2, upd_same], by simp, ?_⟩⟩
    refine hq _ dx m1 m2 (by rw [upd_ne (Ne.symm m2), upd_same]) (by rw [upd_same]; rfl) fun b b1 b2 => by rw [upd_ne b2, upd_ne b1, upd_ne b2]
end
end DL
end

section
set_option maxHeartbeats 2000000
/-! a def that calls what it got in a try: what it makes of a lambda -/
namespace DL
open PySem PySem.Spec PyProof.Rows L2

/-- what a suite returns of the caught exception: texts, fields -/
inductive HIt where
  | s (z : Str) | f (n : Str)
def HIt.get {α : Type} (inj : Str → α) (fs : List (Str × α)) : HIt → Option α
  | .s z => some (inj z)
  | .f n => fs.lookup n
def getIts {α : Type} (inj : Str → α) (fs : List (Str × α)) : List HIt → Option (List α)
  | [] => some []
  | i :: r => match i.get inj fs, getIts inj fs r with
    | some x, some xs => some (x :: xs)
    | _, _ => none
def isIt (n : Str) : HIt → Expr → Bool
  | .s z, .Constant (.str y) _ _ => decide (z = y)
  | .f g, .Attribute (.Name x _) h _ => decide (x = n) && decide (g = h)
  | _, _ => false
def isIts (n : Str) : List HIt → List Expr → Bool
  | [], [] => true
  | i :: r, e :: es => isIt n i e && isIts n r es
  | _, _ => false
theorem getIts_len {α : Type} {inj : Str → α} {fs : List (Str × α)} : ∀ {its : List HIt} {xs : List α}, getIts inj fs its = some xs → xs.length = its.length
  | [], xs, h => by cases h; rfl
  | i :: r, xs, h => by
    unfold getIts at h
    split at h
    · rename_i x ys h1 h2
      cases h
      simp [getIts_len h2]
    · cases h
/-- the fields that a suite reads -/
def fldsOf : List HIt → List Str
  | [] => []
  | .s _ :: r => fldsOf r
  | .f n :: r => n :: fldsOf r
section
variable {X : Cx}
/-- the suite's tuple -/
theorem pa_its {a0 C : Addr} {oe : Obj} {cls : Value} {d : Option Addr} {pn : List (Addr × Obj)} {n : Str} {i : Nat} (T : XfC X.K C) (hz : Zc cls d oe) (hf : ∃ vs, oe.data = .fields vs) (hN : X.N[i]? = some n) (hv : Vis X.env.scope n) (hd : dbg n = true) :
    ∀ (its : List HIt) (es : List Expr), isIts n its es = true → (∀ g ∈ fldsOf its, PySem.W.findIn X.K (.ref C) g = some none) →
      PA (X.suite a0 ((a0, oe) :: pn)) es (fun σ H Q => σ[i]? = some (some (.ref a0)) ∧ cls = .ref C ∧ ∃ (dd : Addr) (fs : List (Str × V)) (vs : List V), d = some dd ∧ H dd = some (.xd fs) ∧ getIts V.str fs its = some vs ∧ Q vs H)
  | [], es, h, _ => by
    cases es with
    | cons _ _ => cases h
    | nil =>
      refine PA_imp pa_nil fun σ H Q ⟨_, _, dd, fs, vs, _, _, e, q⟩ => ?_
      cases e
      exact q
  | .s z :: r, es, h, hno => by
    cases es with
    | nil => cases h
    | cons e es =>
      unfold isIts at h
      simp only [Bool.and_eq_true] at h
      obtain ⟨h1, h2⟩ := h
      have ih := pa_its (a0 := a0) (pn := pn) T hz hf hN hv hd r es h2 hno
      unfold isIt at h1
      split at h1
      · rename_i z' y k p e0
        cases e0
        have h1 := of_decide_eq_true h1
        subst h1
        refine PA_imp (pa_cons pe_str ih rfl) fun σ H Q ⟨k1, k2, dd, fs, vs, k3, k4, k5, q⟩ => ?_
        unfold getIts at k5
        split at k5
        · rename_i x xs q1 q2
          cases k5
          have q1 : some (V.str z) = some x := q1
          cases q1
          exact ⟨k1, k2, dd, fs, xs, k3, k4, q2, q⟩
        · cases k5
      · rename_i e0; cases e0
      · cases h1
  | .f g :: r, es, h, hno => by
    cases es with
    | nil => cases h
    | cons e es =>
      unfold isIts at h
      simp only [Bool.and_eq_true] at h
      obtain ⟨h1, h2⟩ := h
      have ih := pa_its (a0 := a0) (pn := pn) T hz hf hN hv hd r es h2 fun g hg => hno g (List.mem_cons_of_mem _ hg)
      unfold isIt at h1
      split at h1
      · rename_i e0; cases e0
      · rename_i g' x p h' p' e0
        cases e0
        simp only [Bool.and_eq_true, decide_eq_true_eq] at h1
        obtain ⟨rfl, rfl⟩ := h1
        obtain ⟨d1, d2, _⟩ := dbg_ok hd
        refine PA_imp (pa_cons (pe_xf (a := a0) (pn := pn) T (hno g List.mem_cons_self) hz hf (pe_var (X := X.suite a0 ((a0, oe) :: pn)) (i := i) hN hv d1 d2) rfl) ih rfl) fun σ H Q ⟨k1, k2, dd, fs, vs, k3, k4, k5, q⟩ => ?_
        unfold getIts at k5
        split at k5
        · rename_i x xs q1 q2
          cases k5
          exact ⟨_, k1, rfl, k2, dd, fs, x, k3, k4, q1, k1, k2, dd, fs, xs, k3, k4, q2, q⟩
        · cases k5
      · cases h1
end

theorem takes_len {X : Cx} {W : WX} (t : Takes X W) : Takes X (fun c d σ H => σ.length = X.N.length → W c d σ H) := fun u s' ⟨a, B, sI, pins, σ, H, cls, d, e, I, nb, up, sky, na, os, ag, w⟩ =>
  t u s' ⟨a, B, sI, pins, σ, H, cls, d, e, I, nb, up, sky, na, os, ag, w I.len⟩
/-- try: return told, a() / except x as n: return its -/
def TAct (CS : Addr) (told : Str) (its : List HIt) : (XK → Hp → VK → Prop) → Hp → VK → Prop := fun tl H Q =>
  tl (fun cls d H' => cls = .ref CS ∧ ∃ (dd : Addr) (fs : List (Str × V)) (vs : List V), d = some dd ∧ H' dd = some (.xd fs) ∧ getIts V.str fs its = some vs ∧ ∀ p, H' p = none → Q (.ref p) (upd H' p (.tup vs))) H
    (fun v H' => [V.str told, v].length ≤ sizeLine ∧ ∀ p, H' p = none → Q (.ref p) (upd H' p (.tup [.str told, v])))
theorem act_gives {X : Cx} {Ng : List Str} {x a e n q told : Str} {sg : Scope} {g CS : Addr} {cdg : Value} {i j0 k0 k1 : Nat} {es : List Expr} {its : List HIt} {p1 p2 p3 p4 p5 p6 p7 p8 p9 p10 : Pos}
    (hge : sg.names.lookup e = some .globalImplicit) (hme : X.mg e = some (.ref CS)) (hde : (e == ("__debug__" : Str)) = false) (h0 : ∀ f : Addr, (L2.start Ng [V.ref f])[0]? = some (some (V.ref f))) (hnd : Ng.Nodup) (hi : Ng[i]? = some n) (hl : sg.names.lookup n = some .local)
    (hd : dbg n = true) (T : XfC X.K CS) (hno : ∀ g ∈ fldsOf its, PySem.W.findIn X.K (.ref CS) g = some none) (hx : PySem.W.exmOne X.K (.ref CS) (.ref CS) = some true) (hit : isIts n its es = true) (hil : i < Ng.length) (hfew : its.length ≤ 1000) :
    LamX.GivesTo X Ng x sg g cdg [.Try [.Return (some (.Tuple [.Constant (.str told) j0 p1, .Call (.Name a p2) [] [] p3] k0 p4)) p5] [.ExceptHandler (some (.Name e p6)) (some n) [.Return (some (.Tuple es k1 p7)) p8] p9] [] [] p10] a q (TAct CS told its) := by
  intro f c' s H Q tl act hc h
  have hgl : Gl (cxOf C8.CX0 X.prog X.w X.K X.mg X.base Ng x sg g cdg X.A X.stack s H C8.E0).nox e := hge
  have hz : (2 : Nat) ≤ sizeLine := by rw [sizeLine_eq]; decide
  refine ⟨_, pss_one (ps_try_as (X := (cxOf C8.CX0 X.prog X.w X.K X.mg X.base Ng x sg g cdg X.A X.stack s H C8.E0).nox) (c := .ref CS) (i := i)
      (tb := fun W D σ H => ∃ Ech : XK, (∀ cls d (σ' : L2.St) H', Ech cls d H' → σ'.length = Ng.length → W cls d σ' H') ∧ σ = L2.start Ng [V.ref f] ∧ H c' = some (LamX.CodeO c' q) ∧ tl Ech H (fun v H' => [V.str told, v].length ≤ sizeLine ∧ ∀ p, H' p = none → D.rt (.ref p) (upd H' p (.tup [.str told, v]))))
      rfl rfl hnd hi hl ⟨hgl, hde, .inl hme⟩ LamX.takes0 (fun W pn xe tk _ => ?_) (fun a0 oe cls d pn hz hf => pss_one (ps_ret (pe_tup (pa_its (X := (cxOf C8.CX0 X.prog X.w X.K X.mg X.base Ng x sg g cdg X.A X.stack s H C8.E0).nox) (i := i) T hz hf hi (.inl hl) hd its es hit hno))))), ?_⟩
  · refine ⟨fun pins s' σ H' D I h' => ?_⟩
    obtain ⟨Ech, hW, h1, h2, h3⟩ := h'
    have hp := act _ pn xe Ech p2 p3 (takes_len tk) fun cls d σ' H' z l => hW cls d σ' H' z l
    have hq := pss_one (ps_ret (pos := p5) (pe_tup (x1 := k0) (pos := p4) (pa_cons (pe_str (x := told) (j := j0) (pos := p1)) (pa_cons hp pa_nil rfl) rfl)))
    refine hq.run pins s' σ H' D I ?_
    subst h1
    exact ⟨h0 f, h2, h3⟩
  · refine ⟨_, fun cls d σ' H' z len => ?_, rfl, hc, h⟩
    obtain ⟨rfl, dd, fs, vs, rfl, e2, e3, q⟩ := z
    refine ⟨true, hx, fun _ a0 ha0 => ?_, fun z => by cases z⟩
    have hset : (σ'.set i (some (V.ref a0)))[i]? = some (some (V.ref a0)) := List.getElem?_set_self (by rw [len]; exact hil)
    refine ⟨hset, rfl, dd, fs, vs, rfl, e2, e3, ?_, q⟩
    rw [getIts_len e3, sizeLine_eq]
    omega
end DL
end

section
set_option maxHeartbeats 2000000
/-! f(lambda: body), f calling what it got in a try -/
namespace DL
open PySem PySem.Spec PyProof.Rows L2
variable [Tbs]

/-- a def that calls what it got: told, the class that it catches, what it returns of that -/
structure TEnt where
  name : Str
  told : Str
  cls : Str
  its : List HIt
def TEnt.act (t : TEnt) (r : DH → Res D) : DH → Res D := fun h => match r h with
  | .ok d h1 => .ok (.tup [.str t.told, d]) h1
  | .err x h1 => if x.cls = t.cls ∧ x.fs.isEmpty = false then (match getIts D.str x.fs t.its with
    | some ds => .ok (.tup ds) h1
    | none => .bad) else .bad
  | .bad => .bad
def mact (t : TEnt) (m : M D) : M D := fun s h => t.act (fun h1 => m s h1) h
theorem its_rep {K : Fg} {ι : Loc} {H : Hp} {fs : List (Str × D)} {ws : List (Str × V)} (e : ws.map (·.1) = fs.map (·.1)) (r : RepVs K ι H (fs.map (·.2)) (ws.map (·.2))) : ∀ {its : List HIt} {ds : List D}, getIts D.str fs its = some ds → ∃ vs, getIts V.str ws its = some vs ∧ RepVs K ι H ds vs
  | [], ds, h => by cases h; exact ⟨[], rfl, rfl⟩
  | i :: is, ds, h => by
    unfold getIts at h
    split at h
    · rename_i x xs h1 h2
      cases h
      obtain ⟨vs, k1, k2⟩ := its_rep e r h2
      have key : ∃ v, i.get V.str ws = some v ∧ RepV K ι H x v := by
        cases i with
        | s z => cases h1; exact ⟨.str z, rfl, rfl⟩
        | f n =>
          have h1 : fs.lookup n = some x := h1
          have go : ∀ {fs : List (Str × D)} {ws : List (Str × V)}, ws.map (·.1) = fs.map (·.1) → RepVs K ι H (fs.map (·.2)) (ws.map (·.2)) → fs.lookup n = some x → ∃ v, ws.lookup n = some v ∧ RepV K ι H x v := by
            intro fs
            induction fs with
            | nil => intro ws _ _ h; cases h
            | cons p fs ih =>
              intro ws e r h
              cases ws with
              | nil => simp at e
              | cons w ws =>
                simp only [List.map_cons, List.cons.injEq] at e
                obtain ⟨y, t, ey, r1, r2⟩ := r
                simp only [List.map_cons, List.cons.injEq] at ey
                obtain ⟨e1, e2⟩ := ey
                subst e1 e2
                rw [List.lookup_cons] at h ⊢
                rw [e.1]
                cases hb : n == p.1 with
                | true => rw [hb] at h; cases h; exact ⟨_, rfl, r1⟩
                | false => rw [hb] at h; exact ih e.2 r2 h
          exact go e r h1
      obtain ⟨v, k3, k4⟩ := key
      refine ⟨v :: vs, ?_, ⟨v, vs, rfl, k4, k2⟩⟩
      unfold getIts
      rw [k3, k1]
    · cases h
section
variable {K : Fg} {ι : Loc} {H H1 : Hp} {h : DH}
/-- all but the tables stays -/
theorem ext_tab (e : LamX.ExtN H H1) : Ext ι H ι H1 :=
  ⟨⟨[], by simp⟩, fun _ q => q, fun _ q => .inl q, fun _ q => .inl q, fun a o q _ t => e a o q t, fun a o q t => ⟨o, e a o q t, t⟩⟩
theorem RepH.tab (r : RepH K ι H h) (e : LamX.ExtN H H1) (t : LamX.Tabs Tbs.l H1) : RepH K ι H1 h := by
  refine ⟨r.nd, r.len, fun i o a h1 h2 => ?_, r.dis, fun a ha => ?_, t⟩
  · have q := r.obj i o a h1 h2
    obtain ⟨u, hu⟩ := q.some
    exact q.move (ext_tab e) (by rw [e a u hu (q.ord hu).1, hu])
  · obtain ⟨u, hu, ho⟩ := r.avs a ha
    exact ⟨u, e a u hu ho.1, ho⟩
end
/-- the lambda's reading, handed to the def -/
theorem act_imp {K : Fg} {W : WX} {CS : Addr} {t : TEnt} {m : M D} {σ : L2.St} {H : Hp} {Q : VK} (ns : PySem.W.nsIn K mainGlobals t.cls = some (some (.ref CS))) (q : tM K W (relV K) (mact t m) σ H Q) :
    LamX.tLam Tbs.l (TAct CS t.told t.its) (fun E => tM K (fun c d _ H => E c d H) (relV K) m) σ H Q := by
  obtain ⟨ι, s, h, rs, rh, p⟩ := q
  refine ⟨rh.tbs, fun H1 eN T1 => ?_⟩
  have ex : Ext ι H ι H1 := ext_tab eN
  refine ⟨ι, s, h, rs.ext ex, rh.tab eN T1, ?_⟩
  have p : Post K W (relV K) ι σ H Q (t.act (fun h1 => m s h1) h) := p
  unfold TEnt.act at p
  simp only at p
  cases e : m s h with
  | bad => rw [e] at p; exact p.elim
  | ok d h2 =>
    simp only [e] at p
    intro ι2 v H2 e2 rh2 rv
    refine ⟨by show 2 ≤ sizeLine; rw [sizeLine_eq]; decide, fun b hb => ?_⟩
    have e3 : Ext ι2 H2 ι2 (upd H2 b (.tup [.str t.told, v])) := .laid hb
    exact p ι2 _ _ ((ex.trans e2).trans e3) (rh2.laid hb) ⟨b, _, rfl, .inl ⟨upd_same, rh2.fresh hb⟩, _, _, rfl, rfl, _, _, rfl, RepV.ext e3 _ _ rv, rfl⟩
  | err x h2 =>
    simp only [e] at p
    intro ι2 cls dx H2 e2 rh2 rx
    by_cases hx : x.cls = t.cls ∧ x.fs.isEmpty = false
    · rw [if_pos hx] at p
      cases eg : getIts D.str x.fs t.its with
      | none => simp only [eg] at p; exact p.elim
      | some ds =>
        simp only [eg] at p
        obtain ⟨⟨C, rfl, hC⟩, rx⟩ := rx
        rw [hx.1, ns] at hC
        cases hC
        rcases rx with ⟨r1, r2⟩ | ⟨dd, ws, r1, r2, r3, r4, r5⟩
        · rw [r1] at hx
          cases hx.2
        · obtain ⟨vs, k1, k2⟩ := its_rep r4 r5 eg
          refine ⟨rfl, dd, ws, vs, r1, r2, k1, fun b hb => ?_⟩
          have e3 : Ext ι2 H2 ι2 (upd H2 b (.tup vs)) := .laid hb
          exact p ι2 _ _ ((ex.trans e2).trans e3) (rh2.laid hb) ⟨b, _, rfl, .inl ⟨upd_same, rh2.fresh hb⟩, RepVs.ext e3 _ _ k2⟩
    · rw [if_neg hx] at p; exact p.elim
end DL
end

section
set_option maxHeartbeats 4000000
/-! int(bits, 2) -/
namespace DL
open PySem PySem.Spec PyProof.Rows L2
namespace Bn
open PySem.NumText PySem.Calls L2.Hx
def IsBit (c : Nat) : Prop := c = 48 ∨ c = 49
def binNum (l : List Nat) : Nat := l.foldl (fun a c => a * 2 + hv c) 0
theorem hexOf {c : Nat} (h : IsBit c) : IsHex c := by unfold IsHex; rcases h with h | h <;> omega
theorem hv2 {c : Nat} (h : IsBit c) : hv c < 2 := by rcases h with rfl | rfl <;> decide
theorem stepB {ds : Array Nat} {b : Bool} {c : Nat} (h : IsBit c) : PySem.NumText.step 2 (ds, b) c = some (ds.push (hv c), true) := by
  unfold PySem.NumText.step
  have e : (c == 95) = false := by rcases h with rfl | rfl <;> rfl
  rw [e, digit_hex (hexOf h)]
  simp only [Bool.false_eq_true, if_false]
  exact if_pos (hv2 h)
theorem foldB : ∀ (cs : List Nat) (ds : Array Nat) (b : Bool), (∀ c ∈ cs, IsBit c) → cs ≠ [] → cs.foldlM (PySem.NumText.step 2) (ds, b) = some (cs.foldl (fun acc c => acc.push (hv c)) ds, true)
  | [], _, _, _, h => absurd rfl h
  | [c], ds, b, h, _ => by
    rw [List.foldlM_cons, stepB (h c List.mem_cons_self)]
    rfl
  | c :: d :: cs, ds, b, h, _ => by
    rw [List.foldlM_cons, stepB (h c List.mem_cons_self)]
    exact foldB (d :: cs) _ _ (fun x hx => h x (List.mem_cons_of_mem _ hx)) (by simp)
theorem digitsB {cs : List Nat} (h : ∀ c ∈ cs, IsBit c) (hne : cs ≠ []) : digits? 2 cs = some (cs.foldl (fun acc c => acc.push (hv c)) #[]) := by
  unfold digits?
  rw [foldB cs _ _ h hne]
  rfl
theorem pushB : ∀ (cs : List Nat) (ds : Array Nat), (cs.foldl (fun acc c => acc.push (hv c)) ds).foldl (fun acc d => acc * 2 + d) 0 = cs.foldl (fun a c => a * 2 + hv c) (ds.foldl (fun acc d => acc * 2 + d) 0)
  | [], _ => rfl
  | c :: cs, ds => by
    rw [List.foldl_cons, pushB cs (ds.push (hv c)), List.foldl_cons, Array.foldl_push]
theorem basedB : ∀ {cs : List Nat}, (∀ c ∈ cs, IsBit c) → based 2 cs = (2, false, cs)
  | [], _ => rfl
  | [a], h => by
    rcases h a (by simp) with rfl | rfl <;> rfl
  | a :: c :: r, h => by
    rcases h a (by simp) with rfl | rfl <;> rcases h c (by simp) with rfl | rfl <;> rfl
theorem readB {cs : List Nat} (h : ∀ c ∈ cs, IsBit c) (hne : cs ≠ []) : (int_private% "readNumeral") 0 2 cs = (int_private% "Numeral.value") ((binNum cs : Nat) : Int) := by
  have hx : ∀ c ∈ cs, IsHex c := fun c hc => hexOf (h c hc)
  have hr : ∀ c ∈ cs.reverse, IsHex c := fun c hc => hx c (List.mem_reverse.mp hc)
  refine (readNumeral_eq 0 2 cs).trans ?_
  rw [dropB hx, signH hx]
  show judge 0 false (based 2 cs).1 (based 2 cs).2.1 (digits? (based 2 cs).1 (((based 2 cs).2.2.reverse.dropWhile blank).reverse)) = _
  rw [basedB h]
  show judge 0 false 2 false (digits? 2 ((cs.reverse.dropWhile blank).reverse)) = _
  rw [dropB hr, List.reverse_reverse, digitsB h hne]
  show (int_private% "Numeral.value") (((cs.foldl (fun acc c => acc.push (hv c)) (#[] : Array Nat)).foldl (fun acc d => acc * 2 + d) 0 : Nat) : Int) = _
  rw [pushB]
  rfl
set_option maxHeartbeats 8000000 in
theorem givesB {x : PySem.Str} {u t : Tok} (hl : x.length ≤ 640) (h : ∀ c ∈ x.cps.toList, IsBit c) (hne : x.cps.toList ≠ []) :
    Gives (Builtin.«int.__new__» ⟨[.type "int", .str x u, .int 2 t], []⟩) (.int ((binNum x.cps.toList : Nat) : Int)) :=
  .of_wp fun M A E s Q hQ => by
    obtain ⟨hp, g, d, tk, os⟩ := s
    have g1 := F.conv_sub_int
    have g2 := F.madeHere_int
    have g3 : typeOf (.str x u) = pure (.type "str") := rfl
    obtain ⟨e1, e2⟩ := seen_hex fun c hc => hexOf (h c hc)
    have hk : Hid ((numSeenOf x).length ≤ 640 ∧ (int_private% "readNumeral") 0 2 (numSeenOf x) = (int_private% "Numeral.value") ((binNum x.cps.toList : Nat) : Int) ∧ ((numSeenOf x).length == (numTextOf x).length) = true) :=
      ⟨by rw [e2, Array.length_toList]; exact hl, by rw [e2]; exact readB h hne, by rw [e1, e2]; exact beq_self_eq_true _⟩
    clear e1 e2 hl hne h
    repeat (any_goals (first
      | assumption
      | ((with_reducible show wpAny _ _ ((int_private% "intFromText") _ _ _) _ _ _); refine wp_textB hk.out.1 hk.out.2.1 hk.out.2.2 ?_)
      | wp_step))
    all_goals first | exact ⟨_, rfl, hQ⟩ | skip
theorem callB {prog : Program} {w : World} {A : Around} {E : Value → Shared → Prop} {s : Shared} {Q : Value → Shared → Prop} {x : PySem.Str} {u t : Tok} (hl : x.length ≤ 640) (h : ∀ c ∈ x.cps.toList, IsBit c) (hne : x.cps.toList ≠ [])
    (hQ : Q (.int ((binNum x.cps.toList : Nat) : Int) s.toks) { s with toks := s.toks + 1 }) : wpAny (model prog w) A (call (.type "int") [.str x u, .int 2 t]) Q E s :=
  callType_new F.called_int F.newNe_int (typeCall_int_2 _ _) (newCall_int_2 _ _) (fun obj => F.initArgs_range_2 obj _ _) F.entry_int_new (givesB hl h hne).meets (show (Made.int ((binNum x.cps.toList : Nat) : Int)).post _ s from ⟨rfl, hQ⟩)
end Bn
instance (c : Nat) : Decidable (Bn.IsBit c) := inferInstanceAs (Decidable (_ ∨ _))
end DL
end

section
set_option maxHeartbeats 2000000
/-! further rules: a star in a display, [::-1], join, min of two ints, int(bits, 2) -/
namespace DL
open PySem PySem.Spec PyProof.Rows L2
variable [Tbs]

def fInt2 : FC := fun _ xs => match xs with
  | [.str z, .int i] => if i = 2 ∧ z.length ≤ 640 ∧ z.cps.toList ≠ [] ∧ (∀ c ∈ z.cps.toList, Bn.IsBit c) then some (.int ((Bn.binNum z.cps.toList : Nat) : Int)) else none
  | _ => none
def rInt2 : List V → Hp → VK → Prop := fun xs H Q => ∃ z : Str, xs = [.str z, .int 2] ∧ z.length ≤ 640 ∧ z.cps.toList ≠ [] ∧ (∀ c ∈ z.cps.toList, Bn.IsBit c) ∧ Q (.int ((Bn.binNum z.cps.toList : Nat) : Int)) H
theorem call_int2 {X : Cx} : CallR X (.type "int") rInt2 := by
  intro pins s σ H xs us Q I r h
  obtain ⟨z, rfl, hl, hne, hx, q⟩ := h
  obtain ⟨u, v, rfl, r1, r2⟩ := vals2 r
  obtain ⟨t1, rfl⟩ := r1
  obtain ⟨t2, rfl⟩ := r2
  exact Bn.callB hl hx hne ⟨.int ((Bn.binNum z.cps.toList : Nat) : Int), H, I.tok _, ⟨_, rfl⟩, q⟩
theorem snd_int2 {K : Fg} : SndC K fInt2 rInt2 := by
  intro ι H h xs ds z Q rh rx e hq
  unfold fInt2 at e
  split at e
  · rename_i y i
    obtain ⟨a, b, rfl, r1, r2⟩ := rvs2 rx
    cases r1; cases r2
    split at e
    · rename_i c
      cases e
      obtain ⟨rfl, c1, c2, c3⟩ := c
      exact ⟨y, rfl, c1, c2, c3, hq _ ι H (.refl _ _) rh rfl⟩
    · cases e
  · cases e
def fMin2 : FC := fun _ xs => match xs with
  | [.int i, .int j] => some (.int (if j < i then j else i))
  | _ => none
theorem snd_min2 {K : Fg} : SndC K fMin2 (fun xs H Q => ∃ i j, xs = [.int i, .int j] ∧ Q (.int (if j < i then j else i)) H) := by
  intro ι H h xs ds z Q rh rx e hq
  unfold fMin2 at e
  split at e
  · rename_i i j
    obtain ⟨a, b, rfl, r1, r2⟩ := rvs2 rx
    cases r1; cases r2; cases e
    exact ⟨i, j, rfl, hq (.int (if j < i then j else i)) ι H (.refl _ _) rh rfl⟩
  · cases e
def mstar (a : M D) (r : M (List D)) : M (List D) := bnd a fun x s h => match x.seq h with
  | some ds => (bnd r fun xs => mret (ds ++ xs)) s h
  | none => .bad
/-- a[::-1] -/
def fRev (h : DH) (x : D) : Option D := match x with
  | .tup ds => some (.tup ds.reverse)
  | x => (x.lseq h).map fun ds => .lst ds.reverse
def mrev (a : M D) : M D := bnd a fun x _ h => ofO (fRev h x) h
def fJoin (x : D) (h : DH) (xs : List D) : Option D := match x, xs with
  | .str a, [y] => (y.seq h).bind fun ds => (strsOf ds).bind fun zs => if (zs.map (·.length)).sum + zs.length * a.length ≤ 16777216 then some (.str (Txt.join a zs)) else none
  | _, _ => none
where strsOf : List D → Option (List Str)
  | [] => some []
  | .str z :: r => (strsOf r).map (z :: ·)
  | _ :: _ => none
def mjoin (o : M D) (r : M (List D)) : M D := bnd o fun x s h => match x with
  | .str _ => (bnd r fun xs _ h => ofO (fJoin x h xs) h) s h
  | _ => .bad
theorem strs_rep {K : Fg} {ι : Loc} {H : Hp} : ∀ {ds : List D} {zs : List Str} {xs : List V}, RepVs K ι H ds xs → fJoin.strsOf ds = some zs → xs = zs.map V.str
  | [], zs, xs, r, e => by cases e; exact r
  | d :: ds, zs, xs, r, e => by
    obtain ⟨x, t, rfl, r1, r2⟩ := r
    cases d with
    | str z =>
      simp only [fJoin.strsOf] at e
      cases q : fJoin.strsOf ds with
      | none => rw [q] at e; cases e
      | some ys =>
        rw [q] at e; cases e
        cases r1
        rw [strs_rep r2 q]; rfl
    | _ => cases e
section
variable {X : Cx} {W : WX} {a e : Expr} {es : List Expr} {ma mo : M D} {m : M (List D)} {p pos apos cpos p1 p2 p3 : Pos} {k : Nat}
theorem d_star (ha : DE X W a ma) (hr : DA X W es m) : DA X W (.Starred a p :: es) (mstar ma m) :=
  PA_imp (StX.pa_star ha hr rfl) fun σ H Q ⟨ι, s, h, rs, rh, q⟩ => tM.step rs rh q fun d h1 ι1 x H1 rs1 e1 rh1 rx q1 => by
    cases z : d.seq h1 with
    | none => simp only [z] at q1; exact q1.elim
    | some ds =>
      simp only [z] at q1
      obtain ⟨b, xs, rfl, h2, h3⟩ := seq_rep rh1 rx z
      refine ⟨b, xs, rfl, h2.symm, tM.step rs1 rh1 q1 fun ys h4 ι4 vs H4 rs4 e4 rh4 r4 q4 => ?_⟩
      exact q4 ι4 _ H4 (.refl _ _) rh4 ((RepVs.ext e4 _ _ h3).append r4)
theorem pick_rev (items : Array Value) : ((List.range items.size).filterMap fun (j : Nat) => items[(((items.size : Int) - 1) + (j : Int) * (-1)).toNat]?).toArray = items.toList.reverse.toArray := by
  congr 1
  apply List.ext_getElem?
  intro i
  by_cases hi : i < items.size
  · have all : ∀ n, n ≤ items.size → ((List.range n).filterMap fun (j : Nat) => items[(((items.size : Int) - 1) + (j : Int) * (-1)).toNat]?) = (List.range n).filterMap fun j => items.toList.reverse[j]? := by
      intro n
      induction n with
      | zero => intro _; rfl
      | succ n ih =>
        intro hn
        rw [List.range_succ, List.filterMap_append, List.filterMap_append, ih (by omega)]
        congr 1
        have e : (((items.size : Int) - 1) + (n : Int) * (-1)).toNat = items.size - 1 - n := by omega
        have e2 : items[(((items.size : Int) - 1) + (n : Int) * (-1)).toNat]? = items.toList.reverse[n]? := by
          rw [e, List.getElem?_reverse (by simp; omega)]
          simp
        rw [List.filterMap_cons, List.filterMap_cons, e2]
        rfl
    rw [all _ (Nat.le_refl _)]
    have full : ∀ (l : List Value), (List.range l.length).filterMap (fun j => l[j]?) = l := by
      intro l
      induction l with
      | nil => rfl
      | cons x l ih =>
        rw [List.length_cons, List.range_succ_eq_map, List.filterMap_cons, List.filterMap_map]
        simp only [List.getElem?_cons_zero]
        congr 1
    have z := full items.toList.reverse
    rw [List.length_reverse, Array.length_toList] at z
    rw [z]
  · have e : ((List.range items.size).filterMap fun (j : Nat) => items[(((items.size : Int) - 1) + (j : Int) * (-1)).toNat]?).length ≤ items.size := by
      have := List.length_filterMap_le (fun (j : Nat) => items[(((items.size : Int) - 1) + (j : Int) * (-1)).toNat]?) (List.range items.size)
      simpa using this
    rw [List.getElem?_eq_none (by omega), List.getElem?_eq_none (by simp; omega)]
end
section
variable {prog : Program} {w : World} {A : Around} {E : Value → Shared → Prop} {s : Shared}
theorem applied_rev {sl : Addr} {n : Nat} {vs : Value} {Q : Int × Int × Nat → Shared → Prop} (hs : s.heap.IsSliceOf sl .none .none vs) (ps : IsPart vs (some (-1))) (h : Q ((n : Int) - 1, -1, n) s) :
    wpAny (model prog w) A (Builtin.Slice.sliceApplied (.ref sl) (pure (n : Int))) Q E s := by
  obtain ⟨os, hos, hcs, hds⟩ := id hs
  unfold Builtin.Slice.sliceApplied Builtin.Slice.sliceFields
  apply wpAny_bind
  refine wpAny_bind (wpAny_field hos hds (x := .none) rfl ?_)
  refine wpAny_bind (wpAny_field hos hds (x := .none) rfl ?_)
  refine wpAny_bind (wpAny_field hos hds (x := vs) rfl (wpAny_pure ?_))
  refine wpAny_bind (HT.slicePart_ ps ?_)
  show wpAny _ _ (if ((-1 : Int) == 0) = true then _ else _) _ _ s
  rw [if_neg (by decide)]
  refine wpAny_bind (PyProof.Rows.slicePart_none (wpAny_bind (PyProof.Rows.slicePart_none (wpAny_bind (wpAny_pure ?_)))))
  have e1 : Builtin.Slice.sliceAdjust none none (-1) (n : Int) = ((n : Int) - 1, -1) := rfl
  have e2 : Builtin.Slice.slicePlaces ((n : Int) - 1) (-1) (-1) = n := by
    unfold Builtin.Slice.slicePlaces
    rw [if_neg (by decide)]
    by_cases hn : n = 0
    · subst hn; rfl
    · rw [if_pos (by omega)]
      have : ((n : Int) - 1 - -1 - 1) / (- -1) = (n : Int) - 1 := by
        have : (- -1 : Int) = 1 := rfl
        rw [this, Int.ediv_one]; omega
      rw [this]; omega
  show wpAny _ _ (match Builtin.Slice.sliceAdjust none none (-1) (n : Int) with | (lo, hi) => pure (lo, (-1 : Int), Builtin.Slice.slicePlaces lo hi (-1))) _ _ s
  rw [e1]
  show wpAny _ _ (pure ((n : Int) - 1, (-1 : Int), Builtin.Slice.slicePlaces ((n : Int) - 1) (-1) (-1))) _ _ s
  rw [e2]
  exact wpAny_pure h
theorem get_rev {t sl : Addr} {items : Array Value} {vs : Value} {Q : Value → Shared → Prop} (ht : PyProof.Rows.IsTup s.heap t items) (hs : s.heap.IsSliceOf sl .none .none vs) (ps : IsPart vs (some (-1))) (hz : items.size ≤ sizeLine)
    (h : Q (.ref s.heap.objs.size) { s with heap := s.heap.push { cls := .type "tuple", data := .seq items.toList.reverse.toArray } }) : wpAny (model prog w) A (getItem (.ref t) (.ref sl)) Q E s := by
  obtain ⟨os, hos, hcs, hds⟩ := id hs
  have hT : s.TypeIs (.ref sl) "slice" := ⟨os, hos, hcs⟩
  have hfit : sizeOk (.seq items.toList.reverse.toArray) := by
    show items.toList.reverse.toArray.size ≤ sizeLine
    simpa using hz
  unfold getItem
  try with_reducible refine wpAny_holding ?_
  first | refine wpAny_bind (wpAny_pure ?_) | skip
  refine wpAny_bind (wpAny_sequenceKey ht.typeIs (by decide) ?_)
  apply wpAny_bind
  apply wpAny_callSpecial?_slot (name := Str.ofString "__getitem__") ht.typeIs PyProof.Rows.slot_tuple_getitem
  refine wpAny_call_entry PyProof.Rows.slot_tuple_getitem ht.typeIs PyProof.Rows.entry_tuple_getitem ?_ (PyProof.Rows.args_tuple_getitem _ _)
  show wpAny _ _ (Builtin.Tuple.tupleItemsOf (.ref t) >>= _) _ _ s
  refine wpAny_bind (PyProof.Rows.tupleItemsOf_ ht (wpAny_bind (wpAny_typeOf hT ?_)))
  rw [if_pos (by decide)]
  refine wpAny_bind (applied_rev hs ps ?_)
  have no : ¬ ((((items.size : Int) - 1) == 0 && (-1 : Int) == 1 && items.size == items.size) = true) := by
    have z : ((-1 : Int) == 1) = false := by decide
    rw [z, Bool.and_false, Bool.false_and]
    decide
  show wpAny _ _ (if (((items.size : Int) - 1) == 0 && (-1 : Int) == 1 && items.size == items.size) = true then _ else _) _ _ s
  rw [if_neg no, pick_rev]
  first
    | exact wpAny_bind (m := Builtin.Tuple.tupleExact _) (wpAny_newObj_type (wpAny_pure ⟨_, rfl, wpAny_pure h⟩) hfit)
    | exact wpAny_bind (m := Builtin.Tuple.tupleExact _) (wpAny_newObj_type (wpAny_bind (wpAny_pure (wpAny_pure ⟨_, rfl, wpAny_pure h⟩))) hfit)
    | exact wpAny_bind (wpAny_bind (m := Builtin.Tuple.tupleExact _) (wpAny_newObj_type (wpAny_pure (wpAny_pure ⟨_, rfl, wpAny_pure h⟩)) hfit))
    | exact wpAny_bind (wpAny_bind (m := Builtin.Tuple.tupleExact _) (wpAny_newObj_type (wpAny_pure ⟨_, rfl, wpAny_pure h⟩) hfit))
end
/-- t[::-1] -/
def tRevT (K : PySem.W.Frag) (te : TE) : TE := fun σ H Q => te σ H fun x H1 => ∃ a xs, x = .ref a ∧ SqT K H1 a xs ∧ ∀ p, H1 p = none → Q (.ref p) (upd H1 p (.tup xs.reverse))
section
variable {X : Cx} {W : WX} {a e : Expr} {es : List Expr} {ma mo : M D} {m : M (List D)} {p pos apos cpos p1 p2 p3 : Pos} {k : Nat} {te : TE}
theorem pe_revT (he : PE X e te) : PE X (.Subscript e (.Slice none none (some (.UnaryOp .USub (.Constant (.int 1) k p1) p2)) p3) pos) (tRevT X.K te) := by
  refine ⟨fun pins s σ H Q I h => PyProof.Rows.Subscript_ (thn (he.run pins s σ H _ I h) fun v s1 ⟨x, H1, I1, r1, a, xs, ex, hx, q⟩ => ?_)⟩
  subst ex
  cases r1
  have hst : PO X (some (.UnaryOp .USub (.Constant (.int 1) k p1) p2)) (tPart (tUn (rU fun i => .int (-i)) (tC (.int 1)))) := po_some (pe_un un_neg pe_int)
  refine wpAny_Slice (thn (po_none.run pins s1 σ H1 (fun o H2 => o = none ∧ H2 = H1) I1 ⟨rfl, rfl⟩) fun vl s2 ⟨l, H2, I2, pl, el, e2⟩ => ?_)
  subst el e2
  refine thn (po_none.run pins s2 σ H2 (fun o H3 => o = none ∧ H3 = H2) I2 ⟨rfl, rfl⟩) fun vu s3 ⟨u, H3, I3, pu, eu, e3⟩ => ?_
  subst eu e3
  refine thn (hst.run pins s3 σ H3 (fun o H4 => o = some (-1) ∧ H4 = H3) I3 ⟨1, rfl, -1, rfl, rfl, rfl⟩) fun vs s4 ⟨o, H4, I4, ps, eo, e4⟩ => ?_
  subst eo e4
  cases pl; cases pu
  have I5 : Inv X pins σ H4 { s4 with heap := s4.heap.push { cls := .type "slice", data := .fields #[.none, .none, vs] } } := I4.kept (t' := s4.toks) fun b ob q => Heap.get?_push_of_some _ q
  obtain ⟨its, r, ht, hz⟩ := I5.tuple hx
  have hlen := r.length
  refine PyProof.Rows.tail_any (ops := [.ref a, .ref s4.heap.objs.size]) ht.typeIs PyProof.Rows.slot_tuple_getitem.lookup (get_rev ht (Heap.IsSliceOf.new _ .none .none vs) ps (by rw [List.size_toArray]; omega) ?_) (by with_unfolding_all rfl)
  refine ⟨.ref _, _, I5.laid (t' := s4.toks) (o := .tup xs.reverse) (fun b ob q => Heap.get?_push_of_some _ q) (Nat.le_refl _) ?_, rfl, q _ (I5.hok.fresh (Nat.le_refl _))⟩
  exact ⟨by rw [List.length_reverse]; exact hz, its.reverse, r.reverse, ⟨_, Heap.get?_push_size _ rfl, rfl, _, rfl⟩⟩
theorem d_rev (ha : DE X W e ma) : DE X W (.Subscript e (.Slice none none (some (.UnaryOp .USub (.Constant (.int 1) k p1) p2)) p3) pos) (mrev ma) := by
  refine PE_imp (PE_or (pe_revL ha) (pe_revT ha)) fun σ H Q ⟨ι, s, h, rs, rh, q⟩ => ?_
  have lst : (∀ d h1, ma s h = .ok d h1 → ∀ ds, d ≠ .tup ds) → tRevL X.K (tM X.K W (relV X.K) ma) σ H Q := fun hn => by
    refine ⟨ι, s, h, rs, rh, ?_⟩
    cases e0 : ma s h with
    | bad => unfold mrev bnd at q; rw [e0] at q; exact q.elim
    | err x h1 => unfold mrev bnd at q; rw [e0] at q; exact q
    | ok d h1 =>
      unfold mrev bnd at q
      rw [e0] at q
      intro ι1 v H1 e1 rh1 rv
      have q : Post X.K W (relV X.K) ι σ H Q (ofO (fRev h1 d) h1) := q
      have fd : fRev h1 d = (d.lseq h1).map fun ds => .lst ds.reverse := by
        cases d with
        | tup ds => exact absurd rfl (hn _ h1 e0 ds)
        | _ => rfl
      rw [fd] at q
      cases z : d.lseq h1 with
      | none => rw [z] at q; exact q.elim
      | some ds =>
        rw [z] at q
        obtain ⟨b, xs, rfl, k1, k2⟩ := lseq_rep rh1 rv z
        refine ⟨b, xs, rfl, k1, fun r hr => ?_⟩
        exact q ι1 _ _ (e1.trans (.laid hr)) (rh1.laid hr) ⟨r, _, rfl, ⟨upd_same, rh1.fresh hr⟩, (RepVs.ext (.laid hr) _ _ k2).reverse⟩
  cases e0 : ma s h with
  | bad => exact .inl (lst fun d h1 z => by rw [e0] at z; cases z)
  | err x h1 => exact .inl (lst fun d h1 z => by rw [e0] at z; cases z)
  | ok d h1 =>
    by_cases hd : ∃ ds, d = .tup ds
    · obtain ⟨ds, rfl⟩ := hd
      refine .inr ⟨ι, s, h, rs, rh, ?_⟩
      unfold mrev bnd at q
      rw [e0] at q ⊢
      have q : Post X.K W (relV X.K) ι σ H Q (.ok (.tup ds.reverse) h1) := q
      intro ι1 v H1 e1 rh1 rv
      obtain ⟨b, xs, rfl, k1, k2⟩ := rv
      refine ⟨b, xs, rfl, k1.sq, fun r hr => ?_⟩
      exact q ι1 _ _ (e1.trans (.laid hr)) (rh1.laid hr) ⟨r, _, rfl, .inl ⟨upd_same, rh1.fresh hr⟩, (RepVs.ext (.laid hr) _ _ k2).reverse⟩
    · exact .inl (lst fun d' h' z ds y => by
        rw [e0] at z; cases z
        exact hd ⟨ds, y⟩)
theorem d_join (ho : DE X W e mo) (ha : DA X W (a :: es) m) (hb : notCall e = true) (hl : (apos.endLine == cpos.line) = true) (hs : noStars (a :: es) = true) (hn : (a :: es).length < 29) :
    DE X W (.Call (.Attribute e "join" apos) (a :: es) [] cpos) (mjoin mo m) := by
  have hse : notStar a = true := by
    unfold noStars at hs
    rw [List.all_cons, Bool.and_eq_true] at hs
    exact hs.1
  have hs2 : noStars es = true := by
    unfold noStars at hs ⊢
    rw [List.all_cons, Bool.and_eq_true] at hs
    exact hs.2
  refine PE_imp (pe_bm PySem.F.plainAttrs_str PySem.F.slot_str_join PySem.F.type_str_join mt_join ho ha (base_ok hb _ _ _) (few_ok hs hn) hl (star_ok hse es X.env) (stars_any hs2 X.env cpos)) fun σ H Q ⟨ι, s, h, rs, rh, q⟩ => tM.step rs rh q fun d h1 ι1 x H1 rs1 e1 rh1 rx q1 => ?_
  cases d with
  | str z =>
    cases rx
    refine ⟨rfl, tM.step rs1 rh1 q1 fun ds h2 ι2 ys H2 rs2 e2 rh2 ry q2 => ?_⟩
    cases f : fJoin (.str z) h2 ds with
    | none => rw [f] at q2; exact q2.elim
    | some r =>
      rw [f] at q2
      unfold fJoin at f
      split at f
      · rename_i z' y e0
        cases e0
        obtain ⟨v, rfl, r1⟩ := rvs1 ry
        cases g : y.seq h2 with
        | none => rw [g] at f; cases f
        | some l =>
          rw [g] at f
          have f : (fJoin.strsOf l).bind _ = some r := f
          cases g2 : fJoin.strsOf l with
          | none => rw [g2] at f; cases f
          | some zs =>
            rw [g2] at f
            have f : (if (zs.map (·.length)).sum + zs.length * z.length ≤ 16777216 then some (D.str (Txt.join z zs)) else none) = some r := f
            split at f
            · rename_i hz
              cases f
              obtain ⟨b, xs, rfl, k1, k2⟩ := seq_rep rh2 r1 g
              have k3 := strs_rep k2 g2
              subst k3
              exact ⟨z, b, zs, rfl, rfl, k1, hz, q2 ι2 _ H2 (.refl _ _) rh2 rfl⟩
            · cases f
      · cases f
  | _ => exact q1.elim
end
end DL
end

section
set_option maxHeartbeats 2000000
/-! f(lambda: body): the rule -/
namespace DL
open PySem PySem.Spec PyProof.Rows L2
variable [Tbs]

/-- the def f: try: return told, a() / except e as n: return .. -/
structure TkF (K : Fg) (mg : Str → Option Value) (t : TEnt) (st : Stmt) (Ng : List Str) (a n e : Str) (i : Nat) (g CS : Addr) : Prop where
  mt : mg t.name = some (.ref g)
  keep : PySem.W.keepIn K (.ref g) = true
  lk : ∃ (oc : Value) (od : Option Addr) (kV doc pm : Value) (an : Option Addr) (cdv ct : Value) (osl : Array (Option Value)),
    K.lookup g = some ⟨oc, od, .func (PySem.W.fnOf t.name t.name (defArgs st) (defBody st) (defScope st) .none kV doc pm an cdv ct), osl⟩ ∧ PySem.W.codeIn K cdv t.name = true ∧ Binds K (PySem.W.fnOf t.name t.name (defArgs st) (defBody st) (defScope st) .none kV doc pm an cdv ct) [a] []
  sc : FnScope Ng [a] (defScope st)
  n0 : Ng[0]? = some a
  va : Vis (defScope st) a
  da : dbg a = true
  dt : dbg t.name = true
  body : ∃ (es : List Expr) (j0 k0 k1 : Nat) (p1 p2 p3 p4 p5 p6 p7 p8 p9 p10 : Pos), isIts n t.its es = true ∧
    defBody st = [.Try [.Return (some (.Tuple [.Constant (.str t.told) j0 p1, .Call (.Name a p2) [] [] p3] k0 p4)) p5] [.ExceptHandler (some (.Name e p6)) (some n) [.Return (some (.Tuple es k1 p7)) p8] p9] [] [] p10]
  he : (defScope st).names.lookup e = some .globalImplicit
  me : mg e = some (.ref CS)
  de : dbg e = true
  ni : Ng[i]? = some n
  nl : (defScope st).names.lookup n = some .local
  dn : dbg n = true
  xf : XfC K CS
  no : ∀ g ∈ fldsOf t.its, PySem.W.findIn K (.ref CS) g = some none
  xm : PySem.W.exmOne K (.ref CS) (.ref CS) = some true
  ns : PySem.W.nsIn K mainGlobals t.cls = some (some (.ref CS))
  few : t.its.length ≤ 1000
def TkSat (K : Fg) (mg : Str → Option Value) (t : TEnt) : Prop := ∃ st Ng a n e i g CS, TkF K mg t st Ng a n e i g CS
/-- no parameters -/
def noPars (ps : Arguments) : Bool := ps.posonlyargs.isEmpty && ps.args.isEmpty && ps.vararg.isNone && ps.kwonlyargs.isEmpty && ps.kw_defaults.isEmpty && ps.kwarg.isNone && ps.defaults.isEmpty
theorem noPars_ok {ps : Arguments} (h : noPars ps = true) : ps = ⟨[], [], none, [], [], none, []⟩ := by
  obtain ⟨a, b, c, d, e, f, g⟩ := ps
  unfold noPars at h
  simp only [Bool.and_eq_true, List.isEmpty_iff, Option.isNone_iff_eq_none] at h
  obtain ⟨⟨⟨⟨⟨⟨h1, h2⟩, h3⟩, h4⟩, h5⟩, h6⟩, h7⟩ := h
  subst h1 h2 h3 h4 h5 h6 h7
  rfl
theorem lam_takes {X : Cx} {A : Around} {outer : List Env} {s : Shared} {H : Hp} {E : XK} {scope : Scope} {f c' : Addr} : Takes (LamX.lamCx X A outer s H E scope f c') (fun c d _ H => E c d H) := takes_of rfl rfl rfl rfl
theorem d_lam {X : Cx} {W : WX} {t : TEnt} {m : M D} {k : Nat} {c P : Addr} {params : Arguments} {body : Expr} {scope : Scope} {p lpos pos : Pos} (T : TkSat X.K X.mg t) (hg : Gl X t.name) (TB : LamX.TabB X.base X.mg c P) (hcode : X.env.code = .ref c)
    (hmT : (P, X.env.qual ++ "<lambda>") ∈ Tbs.l) (hu : ∀ q ∈ Tbs.l, q.1 = P → q.2 = X.env.qual ++ "<lambda>") (hr : Room (k + 2) X.A) (L : LamX.LamS X.env.scope scope) (hp : noPars params = true)
    (hbody : ∀ (A : Around) (outer : List Env) (s : Shared) (H : Hp) (E : XK) (f c' : Addr), Room k (A.deeper (LamX.lamEnv X scope s.heap.objs.size f c')) → DE (LamX.lamCx X A outer s H E scope f c') (fun c d _ H => E c d H) body m) :
    DE X W (.Call (.Name t.name p) [.Lambda params body scope lpos] [] pos) (mact t m) := by
  obtain ⟨st, Ng, a, n, e, i, g, CS, F⟩ := T
  have ep := noPars_ok hp
  subst ep
  obtain ⟨oc, od, kV, doc, pm, an, cdv, ct, osl, lk, hcd, hb⟩ := F.lk
  obtain ⟨es, j0, k0, k1, p1, p2, p3, p4, p5, p6, p7, p8, p9, p10, hit, eb⟩ := F.body
  obtain ⟨d1, d2, _⟩ := dbg_ok F.da
  have hi : i < Ng.length := (List.getElem?_eq_some_iff.mp F.ni).1
  have hG : LamX.GivesTo X Ng t.name (defScope st) g cdv (defBody st) a (X.env.qual ++ "<lambda>") (TAct CS t.told t.its) := by
    rw [eb]
    refine act_gives (i := i) F.he F.me (dbg_ok F.de).1 (fun f => ?_) F.sc.nd F.ni F.nl F.dn F.xf F.no F.xm hit hi F.few
    unfold L2.start
    rfl
  exact PE_imp (LamX.pe_lamcall hg F.mt F.keep lk hcd hb F.sc F.n0 F.va hG TB hcode hmT hu hr L rfl (fun _ _ _ _ _ => rfl) (fun A outer s H E f c' hr' => hbody A outer s H E f c' hr') (dbg_ok F.dt).1 d1 d2) fun σ H Q q => act_imp F.ns q
end DL
end

section
set_option maxHeartbeats 2000000
/-! an own exception, made and held as a value; its fields -/
namespace DL
open PySem PySem.Spec PyProof.Rows L2
variable [Tbs]
section
variable {X : Cx} {e : Expr} {es : List Expr} {ta : TA} {p pos : Pos}
theorem pe_oexv {CX : CXT} {x : Str} {C fI : Addr} {k : Nat} {fd : FuncData} {ps : List Str} {sp : Sp} (T : OexC X.K C) (iC : PySem.W.findIn X.K (.ref C) "__init__" = some (some (.ref fI))) (tI : PySem.W.typeIn X.K (.ref fI) = some (.type "function"))
    (F1 : FnOk X.prog X.w X.K X.mg X.base CX k fI fd ps sp) (hr : Room (k + 1) X.A) (hb : Binds X.K fd ps []) (hx : Passes CX X (fun _ _ _ => False)) (hg : Gl X x) (hm : X.mg x = some (.ref C)) (ha : PA X (e :: es) ta)
    (hdb : (x == ("__debug__" : Str)) = false) (he : starEach (e :: es) X.env = (false, eval e X.env) :: starEach es X.env) (hpl : (backTo pos (starEach es X.env)).any (·.1) = false) :
    PE X (.Call (.Name x p) (e :: es) [] pos) (fun σ H Q => ta σ H fun vs H1 => vs.length ≤ 1000 ∧ ∀ a, H1 a = none → sp (.ref a :: vs) (upd H1 a (exo a C none)) (fun v H2 => v = .non ∧ Q (.ref a) H2) fun _ _ _ => False) := by
  refine ⟨fun pins s σ H Q I h => ?_⟩
  obtain ⟨nm, q, N, bs, bm, sn, sub, ab, col, dd, k0, k1, k2, k3, k5, hC, hbm⟩ := T.cls
  refine wpAny_Call_Name_kw (ld_glob I hg hm ?_ hdb)
  refine PySem.W.callWith_K (h₀ := X.base) I.ok.mod.kin T.kC (thn (ha.run pos pins s σ H _ I h) fun us s1 ⟨vs, H1, I1, r1, hz, q1⟩ => ⟨I1.kIn, ?_⟩) he hpl
  show wpAny _ _ (call (.ref C) us) _ _ _
  obtain ⟨hp, g, dr, tk, os⟩ := s1
  have hsz : hp.objs.size ≤ hp.objs.size + 1 := Nat.le_succ _
  have hn : H1 (hp.objs.size + 1) = none := I1.hok.fresh hsz
  have hq := q1 (hp.objs.size + 1) hn
  have kk : ∀ b o, hp.get? b = some o → ((hp.push (PySem.W.kdv_tup us)).push (PySem.HandSPX.excO C hp.objs.size)).get? b = some o := fun b o e => Heap.get?_push_of_some _ (Heap.get?_push_of_some _ e)
  have hget : ((hp.push (PySem.W.kdv_tup us)).push (PySem.HandSPX.excO C hp.objs.size)).get? (hp.objs.size + 1) = some (PySem.HandSPX.excO C hp.objs.size) := by heap_get
  have I2 : Inv X pins σ (upd H1 (hp.objs.size + 1) (exo (hp.objs.size + 1) C none)) ⟨(hp.push (PySem.W.kdv_tup us)).push (PySem.HandSPX.excO C hp.objs.size), g, dr, tk, os⟩ :=
    I1.laid (t' := tk) (a := hp.objs.size + 1) (o := exo (hp.objs.size + 1) C none) (h' := (hp.push (PySem.W.kdv_tup us)).push (PySem.HandSPX.excO C hp.objs.size)) kk hsz (exo_ok hget)
  have r2 : Vals (V.ref (hp.objs.size + 1) :: vs) (Value.ref (hp.objs.size + 1) :: us) := .cons rfl r1
  have hl : (Value.ref (hp.objs.size + 1) :: us).length = ps.length := by
    have e := r2.length
    rw [F1.len _ _ _ _ hq] at e
    exact e.symm
  have hus : us.length ≤ sizeLine := by
    rw [← Paired.length r1, sizeLine_eq]
    omega
  refine wpAny_call (PySem.HandSPX.call_own F.excBase_ValueError (fun Y => PySem.HandSPX.refsVE_contains Y bm hbm) (I1.kIn _ _ hC) (PySem.W.looks_findIn I1.kIn iC) (fun self => PySem.W.bind_fn I1.kIn self tI) hus
    (codeAny_mono (F1.run _ X.stack _ _ ⟨Value.ref (hp.objs.size + 1) :: us, []⟩ (Value.ref (hp.objs.size + 1) :: us) _ _ (fun _ _ _ => False) (hr.make C us []) (I2.env0.make C us []) (by
      have := hb ⟨_, g, dr, tk, os⟩ (Value.ref (hp.objs.size + 1) :: us) I2.kIn (by rw [List.append_nil]; exact hl)
      rw [List.append_nil] at this
      exact this) r2 hq) fun r s' hq' => ?_))
  cases r with
  | error er => exact hx pins σ _ _ er s' I2 hq'
  | ok fl =>
    cases fl with
    | ret u =>
      obtain ⟨v, H3, J, rv, ev, q⟩ := I2.after hq'
      subst ev
      exact ⟨rv, .ref (hp.objs.size + 1), H3, J, rfl, q⟩
    | next => exact False.elim hq'
    | brk => exact False.elim hq'
    | cont => exact False.elim hq'
/-- a field of a held exception -/
theorem pe_oxf {te : TE} {n : Str} (he : PE X e te) (hb : attributeBase e n X.env (eval e X.env) = eval e X.env) :
    PE X (.Attribute e n pos) (fun σ H Q => te σ H fun x H1 => ∃ (a C dx : Addr) (fs : List (Str × V)) (v : V), x = .ref a ∧ XfC X.K C ∧ PySem.W.findIn X.K (.ref C) n = some none ∧ H1 a = some (exo a C (some dx)) ∧ H1 dx = some (exd dx fs) ∧ fs.lookup n = some v ∧ Q v H1) := by
  refine ⟨fun pins s σ H Q I h => ?_⟩
  refine attr_of hb (thn (he.run pins s σ H _ I h) fun u s1 hh => ?_)
  obtain ⟨x, H1, I1, rx, a, C, dx, fs, v, ex, T, hno, ea, ed, l, q⟩ := hh
  subst ex
  obtain rfl : u = Value.ref a := rx
  obtain ⟨t1, ho⟩ := exo_at I1.hok ea
  obtain ⟨mA, hns, hr⟩ := exd_at I1.hok ed
  obtain ⟨od, ho2, hl⟩ := lookIn_ns hns
  obtain ⟨u, hu, ru⟩ := RelO.some_of (v := v) (o := mA n) (by rw [← l]; exact hr n)
  have J : PySem.W.InstAt s1.heap a _ C (some od) := ⟨ho, rfl, rfl, ho2⟩
  exact HandSPX.exc_get I1.kIn J T.ga T.gg T.exC (PySem.W.findObj_own T.hdC hno rfl (by rw [hl, hu])) (handed_of ru) ⟨v, H1, I1.tok _, ru, q⟩
variable {W : WX} {a : Expr} {m : M (List D)} {ma : M D} {p0 : Pos}
/-- X(..), held -/
def mexc (x : Str) (fl : List Str) (m : M (List D)) : M D := bnd m fun ds _ h1 => if ds.length = fl.length then .ok (.exc x fl ds) h1 else .bad
theorem d_exc {e : XEnt} {C fI : Addr} {fd : FuncData} {ps : List Str} {k : Nat} (F : XFacts X.prog X.w X.K X.mg X.base k e C fI fd ps) (hr : Room (k + 1) X.A) (hg : Gl X e.name) (ha : DA X W (a :: es) m)
    (hdb : (e.name == ("__debug__" : Str)) = false) (he : starEach (a :: es) X.env = (false, eval a X.env) :: starEach es X.env) (hpl : (backTo pos (starEach es X.env)).any (·.1) = false) :
    DE X W (.Call (.Name e.name p0) (a :: es) [] pos) (mexc e.name e.fs m) :=
  PE_imp (pe_oexv F.T F.ini F.ty F.ok hr F.bd passes_false hg F.mg ha hdb he hpl) fun σ H Q ⟨ι, s, h, rs, rh, p⟩ => tM.step rs rh p fun ds h1 ι1 us H1 rs1 e1 rh1 rx p1 => by
    by_cases hl : ds.length = e.fs.length
    · rw [if_pos hl] at p1
      have lu : us.length = e.fs.length := by rw [← rx.length, hl]
      refine ⟨by have := F.few; omega, fun x hx => ⟨x, us, rfl, lu, upd_same, fun H2 dx n1 n2 q1 q2 q3 => ⟨rfl, ?_⟩⟩⟩
      rw [upd_ne n2] at n1
      have nd : upd H1 x (exo x C (some dx)) dx = none := by rw [upd_ne n2]; exact n1
      have eq : H2 = upd (upd H1 x (exo x C (some dx))) dx (exd dx (e.fs.zip us).reverse) := by
        funext b
        by_cases b1 : b = dx
        · subst b1; rw [q2, upd_same]
        · rw [upd_ne b1]
          by_cases b2 : b = x
          · subst b2; rw [q1, upd_same]
          · rw [q3 b b2 b1, upd_ne b2, upd_ne b2]
      subst eq
      have x1 : Ext ι1 H1 ι1 (upd H1 x (exo x C (some dx))) := .laid hx
      have r1 := rh1.laid (u := exo x C (some dx)) hx
      have x2 : Ext ι1 (upd H1 x (exo x C (some dx))) ι1 (upd (upd H1 x (exo x C (some dx))) dx (exd dx (e.fs.zip us).reverse)) := .laid nd
      refine p1 ι1 (.ref x) _ (x1.trans x2) (r1.laid nd) ⟨x, us, rfl, ⟨C, some dx, F.ns, q1, rh1.fresh hx, lu.symm, .inr ⟨dx, rfl, q2, rh1.fresh n1⟩⟩, RepVs.ext (x1.trans x2) _ _ rx⟩
    · rw [if_neg hl] at p1; exact p1.elim
/-- the field f of a held exception of one of the classes xs -/
def fXat (xs : List XEnt) (f : Str) : D → Option D
  | .exc n ns ds => match xs.find? (fun e => decide (e.name = n)) with
    | some e => if f ∈ e.fs then (ns.zip ds).reverse.lookup f else none
    | none => none
  | _ => none
def mxat (xs : List XEnt) (f : Str) (m : M D) : M D := bnd m fun x _ h => ofO (fXat xs f x) h
theorem look_rep {K : Fg} {ι : Loc} {H : Hp} {n : Str} : ∀ {fs : List (Str × D)} {ws : List (Str × V)} {x : D}, ws.map (·.1) = fs.map (·.1) → RepVs K ι H (fs.map (·.2)) (ws.map (·.2)) → fs.lookup n = some x → ∃ v, ws.lookup n = some v ∧ RepV K ι H x v
  | [], ws, x, _, _, h => by cases h
  | p :: fs, [], x, e, _, h => by simp at e
  | p :: fs, w :: ws, x, e, r, h => by
    simp only [List.map_cons, List.cons.injEq] at e
    obtain ⟨y, t, ey, r1, r2⟩ := r
    simp only [List.map_cons, List.cons.injEq] at ey
    obtain ⟨e1, e2⟩ := ey
    subst e1 e2
    rw [List.lookup_cons] at h ⊢
    rw [e.1]
    cases hb : n == p.1 with
    | true => rw [hb] at h; cases h; exact ⟨_, rfl, r1⟩
    | false => rw [hb] at h; exact look_rep e.2 r2 h
theorem d_xat {xs : List XEnt} {f : Str} (hx : ∀ e ∈ xs, ∃ C, PySem.W.nsIn X.K mainGlobals e.name = some (some (.ref C)) ∧ XfC X.K C ∧ ∀ f ∈ e.fs, PySem.W.findIn X.K (.ref C) f = some none) (ha : DE X W a ma) (hb : attributeBase a f X.env (eval a X.env) = eval a X.env) :
    DE X W (.Attribute a f pos) (mxat xs f ma) :=
  PE_imp (pe_oxf ha hb) fun σ H Q ⟨ι, s, h, rs, rh, p⟩ => tM.step rs rh p fun d h1 ι1 v H1 rs1 e1 rh1 rx p1 => by
    cases q : fXat xs f d with
    | none => rw [q] at p1; exact p1.elim
    | some z =>
      rw [q] at p1
      unfold fXat at q
      split at q
      · rename_i n ns ds
        split at q
        · rename_i e he
          have he1 := List.mem_of_find?_eq_some he
          have he2 : e.name = n := by have := List.find?_some he; simpa using this
          split at q
          · rename_i hf
            obtain ⟨C', k1, k2, k3⟩ := hx e he1
            obtain ⟨b, ws, rfl, ⟨C, dx, c1, c2, c3, c4, c5⟩, rw_⟩ := rx
            rw [← he2, k1] at c1
            cases c1
            have ld : ds.length = ns.length := by rw [rw_.length]; exact c4.symm
            rcases c5 with ⟨rfl, rfl⟩ | ⟨dd, rfl, c6, c7⟩
            · cases q
            · obtain ⟨v, l, rv⟩ := look_rep (K := X.K) (ι := ι1) (H := H1) (n := f) (fs := (ns.zip ds).reverse) (ws := (ns.zip ws).reverse) (by rw [zip_fst c4.symm, zip_fst ld]) (by rw [zip_snd c4.symm, zip_snd ld]; exact rw_.reverse) q
              exact ⟨b, _, dd, _, v, rfl, k2, k3 f hf, c2, c6, l, p1 ι1 v H1 (.refl _ _) rh1 rv⟩
          · cases q
        · cases q
      · cases q
/-- isinstance(x, c), x a held exception -/
def rIsX (K : Fg) : List V → Hp → VK → Prop := fun xs H Q => ∃ (a D : Addr) (dx : Option Addr) (c : V) (cv : Value) (b : Bool), xs = [.ref a, c] ∧ H a = some (exo a D dx) ∧ (∀ d, dx = some d → ∃ fs, H d = some (exd d fs)) ∧ ExcC K D ∧ (∀ u, RelV c u → u = cv) ∧ PySem.W.kitOne K (.ref D) cv = some b ∧ Q (.bl b) H
theorem call_isX : CallR X (.builtin "isinstance") (rIsX X.K) := by
  intro pins s σ H xs us Q I r h
  obtain ⟨a, D, dx, c, cv, b, rfl, ea, ed, C, hcv, e, q⟩ := h
  cases r with
  | cons rx rr =>
    cases rr with
    | cons rt rr =>
      cases rr
      cases rx
      have ec := hcv _ rt
      subst ec
      obtain ⟨t1, ho⟩ := exo_at I.hok ea
      have hcl : (PySem.W.clsIn X.K D).isSome = true := by
        obtain ⟨cd, hc, _⟩ := PySem.W.any_some C.hd
        rw [hc]
        rfl
      cases dx with
      | none =>
        have J : PySem.W.InstAt s.heap a _ D none := ⟨ho, rfl, rfl, True.intro⟩
        exact PySem.W.kia_one (PySem.W.kitx_exc hcl C.hg C.hk C.hs C.ha C.hn C.ht C.hm) I.kIn J e (fun z => nomatch z) fun tk => ⟨.bl b, H, I.tok tk, rfl, q⟩
      | some d =>
        obtain ⟨fs, ed⟩ := ed d rfl
        obtain ⟨mA, hns, hr⟩ := exd_at I.hok ed
        obtain ⟨od, ho2, hl⟩ := lookIn_ns hns
        have J : PySem.W.InstAt s.heap a _ D (some od) := ⟨ho, rfl, rfl, ho2⟩
        exact PySem.W.kia_one (PySem.W.kitx_exc hcl C.hg C.hk C.hs C.ha C.hn C.ht C.hm) I.kIn J e (fun z => nomatch z) fun tk => ⟨.bl b, H, I.tok tk, rfl, q⟩
/-- isinstance(x, cn), x a held exception; tab: which class is under which -/
def fIsX (tab : List (Str × Str × Bool)) (cn : Str) : D → Option D
  | .exc n _ _ => (tab.find? fun p => decide (p.1 = n ∧ p.2.1 = cn)).map fun p => .bl p.2.2
  | _ => none
def misx (tab : List (Str × Str × Bool)) (cn : Str) (m : M D) : M D := bnd m fun x _ h => ofO (fIsX tab cn x) h
theorem d_isx {tab : List (Str × Str × Bool)} {cn : Str} {c : V} {cv : Value} {p1 : Pos} (hT : ∀ p ∈ tab, p.2.1 = cn → ∃ C, PySem.W.nsIn X.K mainGlobals p.1 = some (some (.ref C)) ∧ ExcC X.K C ∧ PySem.W.kitOne X.K (.ref C) cv = some p.2.2)
    (hcv : ∀ u, L2.RelV c u → u = cv) (hn : PE X (.Name cn p1) (tC c)) (hg : Gl X "isinstance") (hm : X.mg "isinstance" = none) (ha : DE X W a ma) (hs : notStar a = true) :
    DE X W (.Call (.Name "isinstance" p0) [a, .Name cn p1] [] pos) (misx tab cn ma) :=
  PE_imp (pe_callB call_isX hg hm (by decide +kernel) (pa_cons ha (pa_cons hn pa_nil rfl) (star_ok hs _ _)) (by decide) (by decide) (star_ok hs _ _) rfl) fun σ H Q ⟨ι, s, h, rs, rh, p⟩ => tM.step rs rh p fun d h1 ι1 v H1 rs1 e1 rh1 rx p1 => by
    cases q : fIsX tab cn d with
    | none => rw [q] at p1; exact p1.elim
    | some z =>
      rw [q] at p1
      unfold fIsX at q
      split at q
      · rename_i n ns ds
        cases q2 : tab.find? fun p => decide (p.1 = n ∧ p.2.1 = cn) with
        | none => rw [q2] at q; cases q
        | some t =>
          rw [q2] at q
          cases q
          have t1 := List.mem_of_find?_eq_some q2
          have t2 : t.1 = n ∧ t.2.1 = cn := by have := List.find?_some q2; simpa using this
          obtain ⟨C, k1, k2, k3⟩ := hT t t1 t2.2
          obtain ⟨b, ws, rfl, ⟨C', dx, c1, c2, c3, c4, c5⟩, rw_⟩ := rx
          rw [← t2.1, k1] at c1
          cases c1
          refine ⟨b, C, dx, c, cv, t.2.2, rfl, c2, fun d hd => ?_, k2, hcv, k3, p1 ι1 _ H1 (.refl _ _) rh1 rfl⟩
          rcases c5 with ⟨_, rfl⟩ | ⟨dd, rfl, c6, _⟩
          · cases hd
          · cases hd; exact ⟨_, c6⟩
      · cases q
/-- X() of a class without its own __init__ -/
theorem pe_exc0 {C : Addr} {bmB : List Value} {B newId initId : String} {x : Str} (F : ExcBaseFacts B newId initId bmB) (q : PySem.W.excIn X.K C bmB newId = true) (gC : X.mg x = some (.ref C)) (kC : PySem.W.keepIn X.K (.ref C) = true) (hg : Gl X x)
    (hdb : (x == ("__debug__" : Str)) = false) : PE X (.Call (.Name x p) [] [] pos) (fun σ H Q => ∀ a, H a = none → Q (.ref a) (upd H a (exo a C none))) := by
  refine ⟨fun pins s σ H Q I h => ?_⟩
  refine wpAny_Call_Name_kw (ld_glob I hg gC ?_ hdb)
  refine PySem.W.callWith_K0 I.kIn kC ?_
  show wpAny _ _ (call (.ref C) []) _ _ _
  obtain ⟨bm, N, nm, qn, bs, hdct, sn, sub, ab, col, dd, k0, k1, k2, k3, k5, mN, hC, hN, hni, T⟩ := exc_obj I.kIn q
  refine wpAny_call_exc_subT F T hC hN hni (fun h' a hm => ?_) (by show 0 ≤ sizeLine; exact Nat.zero_le _)
  have hn : H a = none := I.hok.gone hm.new
  obtain ⟨t, ht, _, _⟩ := hm.there
  exact ⟨.ref a, upd H a (exo a C none), I.laidN hm.keeps hm.new hn (exo_ok ht), rfl, h a hn⟩
theorem d_exc0 {C : Addr} {x : Str} (q : PySem.W.excIn X.K C [.type "ValueError", .type "Exception", .type "BaseException", .type "object"] "ValueError.__new__" = true) (ns : PySem.W.nsIn X.K mainGlobals x = some (some (.ref C))) (gC : X.mg x = some (.ref C)) (kC : PySem.W.keepIn X.K (.ref C) = true) (hg : Gl X x)
    (hdb : (x == ("__debug__" : Str)) = false) : DE X W (.Call (.Name x p) [] [] pos) (mret (.exc x [] [])) :=
  PE_imp (pe_exc0 F.excBase_ValueError q gC kC hg hdb) fun σ H Q ⟨ι, s, h, rs, rh, p⟩ => fun a ha => by
    have e1 : Ext ι H ι (upd H a (exo a C none)) := .laid ha
    exact p ι (.ref a) _ e1 (rh.laid ha) ⟨a, [], rfl, ⟨C, none, ns, upd_same, rh.fresh ha, rfl, .inl ⟨rfl, rfl⟩⟩, rfl⟩
end
end DL
end

section
set_option maxHeartbeats 2000000
/-! the code: what a text says, names resolved; that a text is read so; what it computes -/
namespace DL
open PySem PySem.Spec PyProof.Rows L2

/-! ### the code -/
inductive BI where
  | len | abs | int | tuple | all | any | sum | isi | isiT | int2 | min2
def BI.nm : BI → Str
  | .len => "len" | .abs => "abs" | .int => "int" | .tuple => "tuple" | .all => "all" | .any => "any" | .sum => "sum" | .isi => "isinstance" | .isiT => "isinstance" | .int2 => "int" | .min2 => "min"
def BI.f : BI → FC
  | .len => fcOr fLen fLenK | .abs => fAbs | .int => fInt | .tuple => fTuple | .all => fAll | .any => fAny | .sum => fSum | .isi => fIsi | .isiT => fIsiT | .int2 => fInt2 | .min2 => fMin2
mutual
inductive CE where
  | slot (i : Nat) | int (i : Int) | str (x : Str) | bl (b : Bool) | non | glb (x : Str) | ty (x : Str) (n : String)
  | bin (op : Operator) (a b : CE) | neg (a : CE) | cmp (op : CmpOp) (a b : CE) | chn (op op' : CmpOp) (a b c : CE)
  | vnot (a : CE) | v1 (a : CE) | vand (a b : CE) | vor (a b : CE) | ite (t : CT) (a b : CE)
  | tup (r : CA) | ix (a b : CE) | sl (a : CE) (lo hi : CO) | bi (f : BI) (r : CA) | call (x : Str) (r : CA) | val (n : CN) | new (n : CN) | newD (k : CK) | meth (m : MI) (o : CE) (r : CA) | rev (a : CE) | join (o : CE) (r : CA) | lamc (x : Str) (j : Nat) | mkx (x : Str) (r : CA) | mk0 (x : Str) | xat (f : Str) (a : CE) | isx (a : CE) (cn : Str)
inductive CT where
  | tru (a : CE) | cmp (op : CmpOp) (a b : CE) | chn (op op' : CmpOp) (a b c : CE) | not (t : CT) | bo (k : Bool) (l : CL)
inductive CL where
  | one (t : CT) | cons (t : CT) (l : CL)
inductive CA where
  | nil | cons (a : CE) (r : CA) | star (a : CE) (r : CA)
inductive CO where
  | no | at (a : CE)
inductive CQ where
  | no | at (t : CT)
inductive CN where
  | lit (r : CA) | of (a : CE) | cat (a b : CE) | rep (a b : CE) | lc (i : CI) (t : Tg) (q : CQ) (e : CE) (vs : List Nat) | zip (a b : CE)
inductive CK where
  | emp | dc (i : CI) (t : Tg) (q : CQ) (k v : CE) (vs : List Nat)
inductive CI where
  | at (a : CE) | range1 (a : CE) | range2 (a b : CE)
end
/-- a def, and what it computes -/
structure Ent where
  name : Str
  np : Nat
  sem : List D → DH → Res D
/-- a lambda: what it computes, which text it is -/
structure LEnt where
  sem : M D
  chk : Scope → Expr → Bool
structure Tab where
  fns : List Ent
  cs : List (Str × D)
  bl : List Str
  xs : List XEnt := []
  tks : List TEnt := []
  lams : List LEnt := []
  x0 : List Str := []
  isx : List (Str × Str × Bool) := []

def Tab.fn (T : Tab) (x : Str) : Option Ent := T.fns.find? fun e => decide (e.name = x)
def Tab.x (T : Tab) (x : Str) : Option XEnt := T.xs.find? fun e => decide (e.name = x)
def Tab.tk (T : Tab) (x : Str) : Option TEnt := T.tks.find? fun e => decide (e.name = x)
def Tab.cst (T : Tab) (x : Str) : Option (Str × D) := T.cs.find? fun p => decide (p.1 = x)
/-! ### what it computes -/
section
variable (T : Tab)
mutual
def semE : CE → M D
  | .slot i => mslot i
  | .int i => mret (.int i)
  | .str x => mret (.str x)
  | .bl b => mret (.bl b)
  | .non => mret .non
  | .glb x => match T.cst x with
    | some p => mret p.2
    | none => fail
  | .ty _ n => mret (.opq (.ty n))
  | .bin op a b => e2 (binD op) (semE a) (semE b)
  | .neg a => DL.e1 negD (semE a)
  | .cmp op a b => e2 (cmpD op) (semE a) (semE b)
  | .chn op op' a b c => chain (cmpD op) (cmpD op') (semE a) (semE b) (semE c)
  | .vnot a => vnot (semE a)
  | .v1 a => semE a
  | .vand a b => vand (semE a) (semE b)
  | .vor a b => vor (semE a) (semE b)
  | .ite t a b => mif (semT t) (semE a) (semE b)
  | .tup r => mtup (semA r)
  | .ix a b => e2 ixA (semE a) (semE b)
  | .sl a lo hi => msl (semE a) (semO lo) (semO hi)
  | .bi f r => mcallB f.f (semA r)
  | .call x r => match T.fn x with
    | some e => mcall e.np e.sem (semA r)
    | none => fail
  | .val n => mval (semN n)
  | .new n => mnew (semN n)
  | .newD k => mnewD (semK k)
  | .meth m o r => mmeth m (semE o) (semA r)
  | .rev a => mrev (semE a)
  | .join o r => mjoin (semE o) (semA r)
  | .lamc x j => match T.tk x, T.lams[j]? with
    | some t, some l => mact t l.sem
    | _, _ => fail
  | .mkx x r => match T.x x with
    | some e => mexc e.name e.fs (semA r)
    | none => fail
  | .mk0 x => mret (.exc x [] [])
  | .xat f a => mxat T.xs f (semE a)
  | .isx a cn => misx T.isx cn (semE a)
def semT : CT → M Bool
  | .tru a => tru (semE a)
  | .cmp op a b => t2 (cmpD op) (semE a) (semE b)
  | .chn op op' a b c => chainT (cmpD op) (cmpD op') (semE a) (semE b) (semE c)
  | .not t => tnot (semT t)
  | .bo k l => semL k l
def semL (k : Bool) : CL → M Bool
  | .one t => semT t
  | .cons t l => match k with
    | true => tand (semT t) (semL k l)
    | false => tor (semT t) (semL k l)
def semA : CA → M (List D)
  | .nil => mnil
  | .cons a r => mcons (semE a) (semA r)
  | .star a r => mstar (semE a) (semA r)
def semO : CO → M (Option Int)
  | .no => mret none
  | .at a => mpart (semE a)
def semQ : CQ → M Bool
  | .no => mret true
  | .at t => semT t
def semN : CN → M (List D)
  | .lit r => mlist (semA r)
  | .of a => mlistOf (mcons (semE a) mnil)
  | .cat a b => mcat (semE a) (semE b)
  | .rep a b => mrep (semE a) (semE b)
  | .lc i t q e vs => mlc (semI i) t (semQ q) (semE e) vs
  | .zip a b => mlistZip (mcons (semE a) (mcons (semE b) mnil))
def semK : CK → M (List (Key × D))
  | .emp => mret []
  | .dc i t q k v vs => mdc (semI i) t (semQ q) (semE k) (semE v) vs
def semI : CI → M IT
  | .at a => mit (semE a)
  | .range1 a => mrange1 (mcons (semE a) mnil)
  | .range2 a b => mrange2 (mcons (semE a) (mcons (semE b) mnil))
end
end

/-! ### that a text is read so -/
def visB (sc : Scope) (x : Str) : Bool := match sc.names.lookup x with
  | some .local => true
  | some .cell => true
  | some .free => true
  | _ => false
def locB (sc : Scope) (x : Str) : Bool := match sc.names.lookup x with
  | some .local => true
  | some .cell => true
  | _ => false
def glB (sc : Scope) (x : Str) : Bool := match sc.names.lookup x with
  | some .globalImplicit => true
  | _ => false
theorem vis_ok {sc : Scope} {x : Str} (h : visB sc x = true) : Vis sc x := by
  unfold visB at h
  split at h
  · exact .inl (by assumption)
  · exact .inr (.inl (by assumption))
  · exact .inr (.inr (by assumption))
  · cases h
theorem loc_ok {sc : Scope} {x : Str} (h : locB sc x = true) : L2.Loc sc x := by
  unfold locB at h
  split at h
  · exact .inl (by assumption)
  · exact .inr (by assumption)
  · cases h
theorem gl_ok {X : Cx} {sc : Scope} {x : Str} (e : X.env.scope = sc) (h : glB sc x = true) : Gl X x := by
  unfold glB at h
  split at h
  · show X.env.scope.names.lookup x = some .globalImplicit
    rw [e]; assumption
  · cases h
def relS (scope sc : Scope) : Scope := { scope with names := scope.names.map fun (n, k) => if (k == .free && sc.kind == .function && sc.names.lookup n == some .cell) then (n, .cell) else (n, k) }
theorem relS_is {scope : Scope} {env : Env} : relabel scope env = relS scope env.scope := rfl
def ownOf (N : List Str) (vs : List Nat) : List (Str × Nat) := vs.map fun i => ((N[i]?).getD ⟨#[]⟩, i)
theorem ownOf_2 (N : List Str) (vs : List Nat) : (ownOf N vs).map (·.2) = vs := by
  unfold ownOf
  rw [List.map_map]
  exact List.map_id vs
def blkC (N : List Str) (sc scope : Scope) (vs : List Nat) : Bool :=
  decide (scope.kind = .function) && (scope.names.all fun y => decide (scope.names.lookup y.1 = some y.2)) && (vs.all fun i => decide (i < N.length)) &&
    (scope.names.all fun y => decide (y.2 ≠ .free) || decide (sc.names.lookup y.1 = some .cell) || decide (sc.names.lookup y.1 = some .free)) &&
    (scope.names.all fun y => (decide (y.2 ≠ .local) && decide (y.2 ≠ .cell)) || decide (y.1 ∈ (ownOf N vs).map (·.1)) || decide (y.1 ∉ N))
theorem blk_ok {N : List Str} {sc scope : Scope} {vs : List Nat} (h : blkC N sc scope vs = true) : BlkOk N sc scope (ownOf N vs) := by
  unfold blkC at h
  simp only [Bool.and_eq_true, List.all_eq_true, decide_eq_true_eq, Bool.or_eq_true] at h
  obtain ⟨⟨⟨⟨h1, h2⟩, h3⟩, h4⟩, h5⟩ := h
  refine ⟨h1, h2, fun p hp => ?_, fun y hy hf => ?_, fun y hy ho => ?_⟩
  · unfold ownOf at hp
    obtain ⟨i, hi, rfl⟩ := List.mem_map.mp hp
    show N[i]? = some ((N[i]?).getD ⟨#[]⟩)
    rw [List.getElem?_eq_getElem (h3 i hi)]
    rfl
  · rcases h4 y hy with (z | z) | z
    · exact absurd hf z
    · exact .inl z
    · exact .inr z
  · rcases h5 y hy with (z | z) | z
    · rcases ho with ho | ho
      · exact absurd ho z.1
      · exact absurd ho z.2
    · exact .inl z
    · exact .inr z
def zipOf : Expr → Option (Str × Expr × Expr)
  | .Call (.Name z _) [e, f] [] _ => some (z, e, f)
  | _ => none
/-- a[::-1] -/
def revOf : Expr → Option (Expr × Nat × Pos × Pos × Pos × Pos)
  | .Subscript x (.Slice none none (some (.UnaryOp .USub (.Constant (.int i) k p1) p2)) p3) p4 => if i = 1 then some (x, k, p1, p2, p3, p4) else none
  | _ => none
theorem revOf_ok {e : Expr} {y : Expr × Nat × Pos × Pos × Pos × Pos} (h : revOf e = some y) : e = .Subscript y.1 (.Slice none none (some (.UnaryOp .USub (.Constant (.int 1) y.2.1 y.2.2.1) y.2.2.2.1)) y.2.2.2.2.1) y.2.2.2.2.2 := by
  unfold revOf at h
  split at h
  · split at h
    · rename_i e1
      subst e1
      cases h
      rfl
    · cases h
  · cases h
/-- f(lambda: body) -/
def lamOf : Expr → Option (Str × Pos × Arguments × Expr × Scope × Pos × Pos)
  | .Call (.Name x p) [.Lambda ps b s lp] [] q => some (x, p, ps, b, s, lp, q)
  | _ => none
theorem lamOf_ok {e : Expr} {y : Str × Pos × Arguments × Expr × Scope × Pos × Pos} (h : lamOf e = some y) : e = .Call (.Name y.1 y.2.1) [.Lambda y.2.2.1 y.2.2.2.1 y.2.2.2.2.1 y.2.2.2.2.2.1] [] y.2.2.2.2.2.2 := by
  unfold lamOf at h
  split at h
  · cases h; rfl
  · cases h
def joinOf : Expr → Option (Expr × Pos × Expr × List Expr × Pos)
  | .Call (.Attribute x nm ap) (e :: es) [] p => if nm = "join" then some (x, ap, e, es, p) else none
  | _ => none
theorem joinOf_ok {e : Expr} {y : Expr × Pos × Expr × List Expr × Pos} (h : joinOf e = some y) : e = .Call (.Attribute y.1 "join" y.2.1) (y.2.2.1 :: y.2.2.2.1) [] y.2.2.2.2 := by
  unfold joinOf at h
  split at h
  · split at h
    · rename_i e1
      subst e1
      cases h
      rfl
    · cases h
  · cases h
/-- x() -/
def mk0Of : Expr → Option (Str × Pos × Pos)
  | .Call (.Name x p) [] [] q => some (x, p, q)
  | _ => none
theorem mk0Of_ok {e : Expr} {y : Str × Pos × Pos} (h : mk0Of e = some y) : e = .Call (.Name y.1 y.2.1) [] [] y.2.2 := by
  unfold mk0Of at h
  split at h
  · cases h; rfl
  · cases h
/-- i(e, y) -/
def isxOf : Expr → Option (Str × Pos × Expr × Str × Pos × Pos)
  | .Call (.Name i p) [e, .Name y r] [] q => some (i, p, e, y, r, q)
  | _ => none
theorem isxOf_ok {e : Expr} {y : Str × Pos × Expr × Str × Pos × Pos} (h : isxOf e = some y) : e = .Call (.Name y.1 y.2.1) [y.2.2.1, .Name y.2.2.2.1 y.2.2.2.2.1] [] y.2.2.2.2.2 := by
  unfold isxOf at h
  split at h
  · cases h; rfl
  · cases h
section
variable (N : List Str)
mutual
def isTg (sc : Scope) (fs : Option Scope) : Tg → Expr → Bool
  | .nm i, .Name x _ => decide (N[i]? = some x) && locB sc x && (match fs with
    | none => true
    | some f => f.names.lookup x == some .cell || decide (sc.names.lookup x = some .local))
  | .tp ts, .Tuple es _ _ => isTgs sc fs ts es
  | _, _ => false
def isTgs (sc : Scope) (fs : Option Scope) : List Tg → List Expr → Bool
  | [], [] => true
  | t :: ts, e :: es => notStar e && isTg sc fs t e && isTgs sc fs ts es
  | _, _ => false
end
variable (T : Tab)
mutual
def isE (sc : Scope) : CE → Expr → Bool
  | .slot i, .Name x _ => decide (N[i]? = some x) && visB sc x && dbg x
  | .int i, .Constant (.int j) _ _ => decide (i = j)
  | .str x, .Constant (.str y) _ _ => decide (x = y)
  | .bl b, .Constant (.bool c) _ _ => b == c
  | .non, .Constant .none _ _ => true
  | .glb y, .Name x _ => glB sc x && dbg x && decide (y = x) && (T.cst x).isSome
  | .ty y n, .Name x _ => glB sc x && dbg x && decide (x = y) && decide (x ∈ T.bl) && (match bootBuiltins x with
    | some (.type m) => decide (m = n)
    | _ => false)
  | .bin op a b, .BinOp x o y _ => decide (op = o) && isE sc a x && isE sc b y
  | .neg a, .UnaryOp .USub x _ => isE sc a x
  | .cmp op a b, .Compare x [o] [y] _ => decide (op = o) && notSet y && isE sc a x && isE sc b y
  | .chn op op' a b c, .Compare x [o, o'] [y, z] _ => decide (op = o) && decide (op' = o') && notSet z && isE sc a x && isE sc b y && isE sc c z
  | .vnot a, .UnaryOp .Not x _ => isE sc a x
  | .v1 a, .BoolOp _ [x] _ => isE sc a x
  | .vand a b, .BoolOp .And (x :: y :: es) p => isE sc a x && isE sc b (.BoolOp .And (y :: es) p)
  | .vor a b, .BoolOp .Or (x :: y :: es) p => isE sc a x && isE sc b (.BoolOp .Or (y :: es) p)
  | .ite t a b, .IfExp c x y _ => isT sc t c && isE sc a x && isE sc b y
  | .tup r, .Tuple es _ _ => isA sc r es
  | .ix a b, .Subscript x y _ => notSlice y && isE sc a x && isE sc b y
  | .sl a lo hi, .Subscript x (.Slice l u none _) _ => isE sc a x && isO sc lo l && isO sc hi u
  | .bi f r, .Call (.Name x _) (e :: es) [] _ => glB sc x && dbg x && decide (x = f.nm) && decide (x ∈ T.bl) && notStar e && noStars es && isA sc r (e :: es)
  | .call y r, .Call (.Name x _) (e :: es) [] _ => glB sc x && dbg x && decide (y = x) && (T.fn x).isSome && notStar e && noStars es && isA sc r (e :: es)
  | .val n, e => isN sc n e
  | .new n, e => isN sc n e
  | .newD k, e => isK sc k e
  | .meth m o r, .Call (.Attribute x nm ap) (e :: es) [] p => decide (nm = m.nm) && notCall x && (ap.endLine == p.line) && noStars (e :: es) && decide ((e :: es).length < 29) && isE sc o x && isA sc r (e :: es)
  | .rev a, e => match revOf e with
    | some (x, _) => isE sc a x
    | none => false
  | .join o r, e => match joinOf e with
    | some (x, ap, y, es, p) => notCall x && (ap.endLine == p.line) && noStars (y :: es) && decide ((y :: es).length < 29) && isE sc o x && isA sc r (y :: es)
    | none => false
  | .lamc y j, e => match lamOf e with
    | some (x, _, ps, b, s, _, _) => glB sc x && dbg x && decide (y = x) && (T.tk x).isSome && noPars ps && LamX.lamSB sc s && (match T.lams[j]? with
      | some l => l.chk s b
      | none => false)
    | none => false
  | .mkx y r, .Call (.Name x _) (e :: es) [] _ => glB sc x && dbg x && decide (y = x) && (T.x x).isSome && notStar e && noStars es && isA sc r (e :: es)
  | .mk0 y, e => match mk0Of e with
    | some (x, _, _) => glB sc x && dbg x && decide (y = x) && decide (y ∈ T.x0)
    | none => false
  | .xat f a, .Attribute x g _ => decide (f = g) && notCall x && isE sc a x
  | .isx a cn, e => match isxOf e with
    | some (i, _, x, y, _, _) => decide (i = ("isinstance" : Str)) && glB sc i && decide (i ∈ T.bl) && decide (cn = y) && glB sc y && dbg y && notStar x && (T.isx.any fun p => decide (p.2.1 = cn)) && isE sc a x
    | none => false
  | _, _ => false
def isT (sc : Scope) : CT → Expr → Bool
  | .tru a, e => plainHead e && isE sc a e
  | .cmp op a b, .Compare x [o] [y] _ => decide (op = o) && notSet y && isE sc a x && isE sc b y
  | .chn op op' a b c, .Compare x [o, o'] [y, z] _ => decide (op = o) && decide (op' = o') && notSet z && isE sc a x && isE sc b y && isE sc c z
  | .not t, .UnaryOp .Not x _ => isT sc t x
  | .bo true l, .BoolOp .And es _ => isL sc l es
  | .bo false l, .BoolOp .Or es _ => isL sc l es
  | _, _ => false
def isL (sc : Scope) : CL → List Expr → Bool
  | .one t, [e] => isT sc t e
  | .cons t l, e :: e2 :: es => isT sc t e && isL sc l (e2 :: es)
  | _, _ => false
def isA (sc : Scope) : CA → List Expr → Bool
  | .nil, [] => true
  | .cons a r, e :: es => notStar e && isE sc a e && isA sc r es
  | .star a r, .Starred e _ :: es => isE sc a e && isA sc r es
  | _, _ => false
def isO (sc : Scope) : CO → Option Expr → Bool
  | .no, none => true
  | .at a, some e => isE sc a e
  | _, _ => false
def isQ (sc : Scope) : CQ → List Expr → Bool
  | .no, [] => true
  | .at t, [e] => isT sc t e
  | _, _ => false
def isN (sc : Scope) : CN → Expr → Bool
  | .lit r, .List es _ => isA sc r es
  | .of a, .Call (.Name x _) [e] [] _ => glB sc x && dbg x && decide (x = ("list" : Str)) && decide (x ∈ T.bl) && notStar e && isE sc a e
  | .cat a b, .BinOp x .Add y _ => isE sc a x && isE sc b y
  | .rep a b, .BinOp x .Mult y _ => isE sc a x && isE sc b y
  | .lc i t q e vs, .ListComp x [⟨tg, iter, ifs, z⟩] scope _ => decide (z = 0) && notSet iter && isI sc i iter && blkC N sc scope vs && isTg N (relS scope sc) (some scope) t tg && isQ (relS scope sc) q ifs && isE (relS scope sc) e x &&
    (t.sl.all fun i => decide (i ∈ vs))
  | .zip a b, .Call (.Name x _) [y] [] _ => glB sc x && decide (x = ("list" : Str)) && decide (x ∈ T.bl) && (match zipOf y with
    | some (z, e, f) => glB sc z && decide (z = ("zip" : Str)) && decide (z ∈ T.bl) && notStar e && notStar f && isE sc a e && isE sc b f
    | none => false)
  | _, _ => false
def isK (sc : Scope) : CK → Expr → Bool
  | .emp, .Dict [] [] _ => true
  | .dc i t q k v vs, .DictComp x y [⟨tg, iter, ifs, z⟩] scope _ => decide (z = 0) && notSet iter && isI sc i iter && blkC N sc scope vs && isTg N (relS scope sc) (some scope) t tg && isQ (relS scope sc) q ifs && isE (relS scope sc) k x && isE (relS scope sc) v y &&
    (t.sl.all fun i => decide (i ∈ vs))
  | _, _ => false
def isI (sc : Scope) : CI → Expr → Bool
  | .at a, e => isE sc a e
  | .range1 a, .Call (.Name x _) [e] [] _ => glB sc x && decide (x = ("range" : Str)) && decide (x ∈ T.bl) && notStar e && isE sc a e
  | .range2 a b, .Call (.Name x _) [e, f] [] _ => glB sc x && decide (x = ("range" : Str)) && decide (x ∈ T.bl) && notStar e && notStar f && isE sc a e && isE sc b f
  | _, _ => false
end
end
end DL
end

section
set_option maxHeartbeats 2000000
/-! what is read so, computes so -/
namespace DL
open PySem PySem.Spec PyProof.Rows L2
variable [Tbs]

def Sat (X : Cx) (e : Ent) : Prop := ∃ (f : Addr) (fd : FuncData) (ps : List Str) (k : Nat), FnOk X.prog X.w X.K X.mg X.base (L2.CX X.prog X.w) k f fd ps (spD X.K e.np e.sem) ∧ Room k X.A ∧ X.mg e.name = some (.ref f) ∧
  PySem.W.keepIn X.K (.ref f) = true ∧ Binds X.K fd ps []
/-- what a def that makes lambdas knows: its code object at c, the table of that at P -/
structure LamF (T : Tab) (N : List Str) (X : Cx) (k : Nat) (c P : Addr) : Prop where
  code : X.env.code = .ref c
  tab : LamX.TabB X.base X.mg c P
  mem : (P, X.env.qual ++ "<lambda>") ∈ Tbs.l
  uni : ∀ p ∈ Tbs.l, p.1 = P → p.2 = X.env.qual ++ "<lambda>"
  room : Room (k + 2) X.A
  snd : ∀ l ∈ T.lams, ∀ (scope : Scope) (body : Expr) (Y : Cx) (W' : WX), l.chk scope body = true → Y.prog = X.prog → Y.w = X.w → Y.K = X.K → Y.mg = X.mg → Y.base = X.base → Y.N = N → Y.N.Nodup → Y.env.scope = scope → Y.calm = true → Takes Y W' → Room k Y.A → DE Y W' body l.sem
  tks : ∀ t ∈ T.tks, TkSat X.K X.mg t
def XSat (X : Cx) (e : XEnt) : Prop := ∃ (C fI : Addr) (fd : FuncData) (ps : List Str) (k : Nat), XFacts X.prog X.w X.K X.mg X.base k e C fI fd ps ∧ Room (k + 1) X.A
/-- a class of built-in exceptions, without its own __init__ -/
def X0Sat (X : Cx) (x : Str) : Prop := ∃ C : Addr, PySem.W.excIn X.K C [.type "ValueError", .type "Exception", .type "BaseException", .type "object"] "ValueError.__new__" = true ∧ PySem.W.nsIn X.K mainGlobals x = some (some (.ref C)) ∧ X.mg x = some (.ref C) ∧ PySem.W.keepIn X.K (.ref C) = true
/-- the class cn, what is under it -/
def IxSat (T : Tab) (X : Cx) (cn : Str) : Prop := ∃ (c : V) (cv : Value), (∀ u, L2.RelV c u → u = cv) ∧ ((X.mg cn = some cv ∧ L2.RelV c cv) ∨ (X.mg cn = none ∧ ∃ n, bootBuiltins cn = some (.type n) ∧ c = .ty n)) ∧
  ∀ p ∈ T.isx, p.2.1 = cn → ∃ C, PySem.W.nsIn X.K mainGlobals p.1 = some (some (.ref C)) ∧ ExcC X.K C ∧ PySem.W.kitOne X.K (.ref C) cv = some p.2.2
structure GX (T : Tab) (N : List Str) (sc : Scope) (X : Cx) (W : WX) : Prop where
  N : X.N = N
  nd : X.N.Nodup
  sc : X.env.scope = sc
  hu : X.A.units + 65 < cLine
  calm : X.calm = true
  tk : Takes X W
  fns : ∀ e : Ent, e ∈ T.fns → Sat X e
  cs : ∀ p : Str × D, p ∈ T.cs → ∃ (v : V) (u : Value), X.mg p.1 = some u ∧ RelV v u ∧ ∀ ι H, RepV X.K ι H p.2 v
  bl : ∀ x : Str, x ∈ T.bl → X.mg x = none
  xs : ∀ e : XEnt, e ∈ T.xs → XSat X e
  lm : T.lams ≠ [] → ∃ k c P, LamF T X.N X k c P
  x0 : ∀ x : Str, x ∈ T.x0 → X0Sat X x
  ix : ∀ cn : Str, (∃ p ∈ T.isx, p.2.1 = cn) → IxSat T X cn
section
variable {T : Tab} {N : List Str} {sc : Scope} {X : Cx} {W : WX}
theorem GX.blk (g : GX T N sc X W) {scope : Scope} (s : Shared) (H : Hp) (C : Addr) (cl : List (Str × Addr)) (fp : List Addr) : GX T N (relS scope sc) (X.blk s H scope (compEnvC scope cl C X.env) fp) WNo :=
  ⟨g.N, g.nd, by show relS scope X.env.scope = _; rw [g.sc], g.hu, g.calm, fun u s' x => by obtain ⟨a, B, sI, pins, σ, H, cls, d, e, I, nb, up, sky, na, os, ag, w⟩ := x; exact w.elim, g.fns, g.cs, g.bl, g.xs, fun n => by
    obtain ⟨k, c, P, F⟩ := g.lm n
    exact ⟨k, c, P, F.code, F.tab, F.mem, F.uni, F.room, F.snd, F.tks⟩, g.x0, g.ix⟩
theorem bi_ok (hc : X.calm = true) {f : BI} {p0 pos : Pos} {a : Expr} {es : List Expr} {m : M (List D)} (hg : Gl X f.nm) (hm : X.mg f.nm = none) (ha : DA X W (a :: es) m) (hd : dbg f.nm = true) (he : notStar a = true) (hs : noStars es = true) :
    DE X W (.Call (.Name f.nm p0) (a :: es) [] pos) (mcallB f.f m) := by
  obtain ⟨d1, d2, d3⟩ := dbg_ok hd
  have he := star_ok he es X.env
  have hpl := stars_any hs X.env pos
  cases f with
  | len => exact d_callB (call_len.or call_lenD) (snd_len.or snd_lenK) hg hm (by decide +kernel) ha d3 d1 he hpl
  | abs => exact d_callB call_abs snd_abs hg hm (by decide +kernel) ha d3 d1 he hpl
  | int => exact d_callTy call_int1 snd_int hg hm (by decide +kernel) ha d3 d1 he hpl
  | tuple => exact d_callTy call_tuple_of snd_tuple hg hm (by decide +kernel) ha d3 d1 he hpl
  | all => exact d_callB (cr_all hc) snd_all hg hm (by decide +kernel) ha d3 d1 he hpl
  | any => exact d_callB (cr_any hc) snd_any hg hm (by decide +kernel) ha d3 d1 he hpl
  | sum => exact d_callB (cr_sum hc) snd_sum hg hm (by decide +kernel) ha d3 d1 he hpl
  | int2 => exact d_callTy call_int2 snd_int2 hg hm (by decide +kernel) ha d3 d1 he hpl
  | min2 => exact d_callB (call_min2 hc) snd_min2 hg hm (by decide +kernel) ha d3 d1 he hpl
  | isi => exact d_callB call_isi snd_isi hg hm (by decide +kernel) ha d3 d1 he hpl
  | isiT => exact d_callB (call_isiT.or call_isiK) snd_isiT hg hm (by decide +kernel) ha d3 d1 he hpl


def fsB (fs : Option Scope) (y : Str) : Bool := match fs with
  | none => true
  | some f => f.names.lookup y == some .cell
theorem tg_name {i : Nat} {x : Str} {p : Pos} {fs : Option Scope} (e : X.N = N) (hN : X.N.Nodup) (es : X.env.scope = sc) (hf : ∀ y, fsB fs y = true → X.fn y = true) (h : isTg N sc fs (.nm i) (.Name x p) = true) : PG X (.Name x p) (gT X.K (.nm i)) := by
  unfold isTg at h
  simp only [Bool.and_eq_true, decide_eq_true_eq] at h
  obtain ⟨⟨h1, h2⟩, h3⟩ := h
  refine g_name hN (by rw [e]; exact h1) (by rw [es]; exact loc_ok h2) ?_
  cases fs with
  | none => exact .inl (hf x rfl)
  | some f =>
    simp only [Bool.or_eq_true, decide_eq_true_eq] at h3
    rcases h3 with h3 | h3
    · exact .inl (hf x h3)
    · exact .inr (by rw [es]; exact h3)
mutual
theorem isTg_ok {fs : Option Scope} (hc : X.calm = true) (e : X.N = N) (hN : X.N.Nodup) (es : X.env.scope = sc) (hf : ∀ y, fsB fs y = true → X.fn y = true) : ∀ (t : Tg) (x : Expr), isTg N sc fs t x = true → PG X x (gT X.K t)
  | .nm i, x, h => by
    cases x with
    | Name x p => exact tg_name e hN es hf h
    | _ => cases h
  | .tp ts, x, h => by
    cases x with
    | Tuple xs k p =>
      have h : isTgs N sc fs ts xs = true := h
      obtain ⟨h1, h2, h3⟩ := isTgs_ok hc e hN es hf ts xs h
      obtain ⟨h4, h5⟩ := each_len h2 X.env
      exact g_tup hc h1 (by rw [h4, h3]) h5
    | _ => cases h
theorem isTgs_ok {fs : Option Scope} (hc : X.calm = true) (e : X.N = N) (hN : X.N.Nodup) (es : X.env.scope = sc) (hf : ∀ y, fsB fs y = true → X.fn y = true) : ∀ (ts : List Tg) (xs : List Expr), isTgs N sc fs ts xs = true → PGs X xs (gTs X.K ts) ∧ noStars xs = true ∧ xs.length = ts.length
  | [], xs, h => by
    cases xs with
    | nil => exact ⟨gs_nil, rfl, rfl⟩
    | cons _ _ => cases h
  | t :: ts, xs, h => by
    cases xs with
    | nil => cases h
    | cons x xs =>
      unfold isTgs at h
      simp only [Bool.and_eq_true] at h
      obtain ⟨h1, h2, h3⟩ := isTgs_ok hc e hN es hf ts xs h.2
      refine ⟨gs_cons (isTg_ok hc e hN es hf t x h.1.2) h1 (by rw [each_cons h.1.1]; rfl), ?_, by simp [h3]⟩
      unfold noStars at h2 ⊢
      rw [List.all_cons, h.1.1, h2]; rfl
end
theorem PTs_imp {e : List Expr} {t t' : TT} (h : PTs X e t) (i : ∀ σ H Q, t' σ H Q → t σ H Q) : PTs X e t' := ⟨fun pins s σ H Q I q => h.run pins s σ H Q I (i σ H Q q)⟩
theorem isQ_nil : PTs X [] (tM X.K W relB (mret true)) := PTs_imp pts_nil fun σ H Q ⟨ι, s, h, rs, rh, p⟩ => p ι true H (.refl _ _) rh rfl
theorem zipOf_ok {y : Expr} {t : Str × Expr × Expr} (h : zipOf y = some t) : ∃ p0 p, y = .Call (.Name t.1 p0) [t.2.1, t.2.2] [] p := by
  unfold zipOf at h
  split at h
  · cases h; exact ⟨_, _, rfl⟩
  · cases h
theorem pe_type {x : Str} {n : String} {p : Pos} (hg : Gl X x) (hm : X.mg x = none) (hv : bootBuiltins x = some (.type n)) (hd : dbg x = true) : PE X (.Name x p) (tC (.ty n)) := pe_bltn hg hm hv rfl (dbg_ok hd).2.2 (dbg_ok hd).1
mutual
theorem isE_ok : ∀ (c : CE) (sc : Scope) (X : Cx) (W : WX) (e : Expr), GX T N sc X W → isE N T sc c e = true → DE X W e (semE T c)
  | .slot i, sc, X, W, e, g, h => by
    cases e with
    | Name x p =>
      unfold isE at h
      simp only [Bool.and_eq_true, decide_eq_true_eq] at h
      unfold semE
      exact d_slot (by rw [g.N]; exact h.1.1) (by rw [g.sc]; exact vis_ok h.1.2) (dbg_ok h.2).1 (dbg_ok h.2).2.1
    | _ => cases h
  | .int i, sc, X, W, e, g, h => by
    cases e with
    | Constant c k p =>
      cases c with
      | int j =>
        unfold isE at h
        simp only [decide_eq_true_eq] at h
        subst h
        unfold semE
        exact d_const pe_int fun _ _ => rfl
      | _ => cases h
    | _ => cases h
  | .str x, sc, X, W, e, g, h => by
    cases e with
    | Constant c k p =>
      cases c with
      | str j =>
        unfold isE at h
        simp only [decide_eq_true_eq] at h
        subst h
        unfold semE
        exact d_const pe_str fun _ _ => rfl
      | _ => cases h
    | _ => cases h
  | .bl b, sc, X, W, e, g, h => by
    cases e with
    | Constant c k p =>
      cases c with
      | bool j =>
        unfold isE at h
        simp only [beq_iff_eq] at h
        subst h
        unfold semE
        exact d_const pe_bl fun _ _ => rfl
      | _ => cases h
    | _ => cases h
  | .non, sc, X, W, e, g, h => by
    cases e with
    | Constant c k p =>
      cases c with
      | none =>
        unfold semE
        exact d_const pe_non fun _ _ => rfl
      | _ => cases h
    | _ => cases h
  | .glb y, sc, X, W, e, g, h => by
    cases e with
    | Name x p =>
      unfold isE at h
      simp only [Bool.and_eq_true, decide_eq_true_eq] at h
      obtain ⟨⟨⟨h1, h2⟩, h3⟩, h4⟩ := h
      subst h3
      unfold semE
      cases q : T.cst y with
      | none => rw [q] at h4; cases h4
      | some z =>
        have k0 := List.mem_of_find?_eq_some q
        have k1 : z.1 = y := by have := List.find?_some q; simpa using this
        subst k1
        obtain ⟨v, u, k1, k2, k3⟩ := g.cs z k0
        exact d_const (pe_glob (gl_ok g.sc h1) k1 k2 (dbg_ok h2).1) k3
    | _ => cases h
  | .ty y n, sc, X, W, e, g, h => by
    cases e with
    | Name x p =>
      unfold isE at h
      simp only [Bool.and_eq_true, decide_eq_true_eq] at h
      obtain ⟨⟨⟨⟨h1, h2⟩, h3⟩, h4⟩, h5⟩ := h
      subst h3
      unfold semE
      split at h5
      · rename_i m q
        simp only [decide_eq_true_eq] at h5
        subst h5
        exact d_const (pe_type (gl_ok g.sc h1) (g.bl _ h4) q h2) fun _ _ => rfl
      · cases h5
    | _ => cases h
  | .bin op a b, sc, X, W, e, g, h => by
    cases e with
    | BinOp x o y p =>
      unfold isE at h
      simp only [Bool.and_eq_true, decide_eq_true_eq] at h
      obtain ⟨⟨h1, h2⟩, h3⟩ := h
      subst h1
      unfold semE
      exact d_bin (isE_ok a sc X W x g h2) (isE_ok b sc X W y g h3)
    | _ => cases h
  | .neg a, sc, X, W, e, g, h => by
    cases e with
    | UnaryOp o x p =>
      cases o with
      | USub => unfold semE; exact d_neg (isE_ok a sc X W x g h)
      | _ => cases h
    | _ => cases h
  | .cmp op a b, sc, X, W, e, g, h => by
    cases e with
    | Compare x os ys p =>
      match os, ys, h with
      | [o], [y], h =>
        unfold isE at h
        simp only [Bool.and_eq_true, decide_eq_true_eq] at h
        obtain ⟨⟨⟨h1, h2⟩, h3⟩, h4⟩ := h
        subst h1
        unfold semE
        exact d_cmp g.hu (set_ok h2 _) (isE_ok a sc X W x g h3) (isE_ok b sc X W y g h4)
    | _ => cases h
  | .chn op op' a b c, sc, X, W, e, g, h => by
    cases e with
    | Compare x os ys p =>
      match os, ys, h with
      | [o, o'], [y, z], h =>
        unfold isE at h
        simp only [Bool.and_eq_true, decide_eq_true_eq] at h
        obtain ⟨⟨⟨⟨⟨h1, h2⟩, h3⟩, h4⟩, h5⟩, h6⟩ := h
        subst h1 h2
        unfold semE
        exact d_chain g.hu (set_ok h3 _) (isE_ok a sc X W x g h4) (isE_ok b sc X W y g h5) (isE_ok c sc X W z g h6)
    | _ => cases h
  | .vnot a, sc, X, W, e, g, h => by
    cases e with
    | UnaryOp o x p =>
      cases o with
      | Not => unfold semE; exact d_vnot (isE_ok a sc X W x g h)
      | _ => cases h
    | _ => cases h
  | .v1 a, sc, X, W, e, g, h => by
    cases e with
    | BoolOp o xs p =>
      match xs, h with
      | [x], h => unfold semE; exact d_v1 (isE_ok a sc X W x g h)
    | _ => cases h
  | .vand a b, sc, X, W, e, g, h => by
    cases e with
    | BoolOp o xs p =>
      match o, xs, h with
      | .And, x :: y :: es, h =>
        unfold isE at h
        simp only [Bool.and_eq_true] at h
        unfold semE; exact d_vand (isE_ok a sc X W x g h.1) (isE_ok b sc X W _ g h.2)
    | _ => cases h
  | .vor a b, sc, X, W, e, g, h => by
    cases e with
    | BoolOp o xs p =>
      match o, xs, h with
      | .Or, x :: y :: es, h =>
        unfold isE at h
        simp only [Bool.and_eq_true] at h
        unfold semE; exact d_vor (isE_ok a sc X W x g h.1) (isE_ok b sc X W _ g h.2)
    | _ => cases h
  | .ite t a b, sc, X, W, e, g, h => by
    cases e with
    | IfExp c x y p =>
      unfold isE at h
      simp only [Bool.and_eq_true] at h
      unfold semE; exact d_if (isT_ok t sc X W c g h.1.1) (isE_ok a sc X W x g h.1.2) (isE_ok b sc X W y g h.2)
    | _ => cases h
  | .tup r, sc, X, W, e, g, h => by
    cases e with
    | Tuple es k p => unfold semE; exact d_tup (isA_ok r sc X W es g h)
    | _ => cases h
  | .ix a b, sc, X, W, e, g, h => by
    cases e with
    | Subscript x y p =>
      unfold isE at h
      simp only [Bool.and_eq_true] at h
      unfold semE
      exact d_ix (by have := g.hu; omega) (ixp_ok h.1.1) (isE_ok a sc X W x g h.1.2) (isE_ok b sc X W y g h.2)
    | _ => cases h
  | .sl a lo hi, sc, X, W, e, g, h => by
    cases e with
    | Subscript x y p =>
      match y, h with
      | .Slice l u none p2, h =>
        unfold isE at h
        simp only [Bool.and_eq_true] at h
        unfold semE
        exact d_sl (isE_ok a sc X W x g h.1.1) (isO_ok lo sc X W l g h.1.2) (isO_ok hi sc X W u g h.2)
    | _ => cases h
  | .bi f r, sc, X, W, e, g, h => by
    match e, h with
    | .Call (.Name x p0) (a :: es) [] p, h =>
      unfold isE at h
      simp only [Bool.and_eq_true, decide_eq_true_eq] at h
      obtain ⟨⟨⟨⟨⟨⟨h1, h2⟩, h3⟩, h4⟩, h5⟩, h6⟩, h7⟩ := h
      subst h3
      unfold semE
      exact bi_ok g.calm (gl_ok g.sc h1) (g.bl _ h4) (isA_ok r sc X W _ g h7) h2 h5 h6
  | .call y r, sc, X, W, e, g, h => by
    match e, h with
    | .Call (.Name x p0) (a :: es) [] p, h =>
      unfold isE at h
      simp only [Bool.and_eq_true, decide_eq_true_eq] at h
      obtain ⟨⟨⟨⟨⟨⟨h1, h2⟩, h3⟩, h4⟩, h5⟩, h6⟩, h7⟩ := h
      subst h3
      unfold semE
      cases q : T.fn y with
      | none => rw [q] at h4; cases h4
      | some z =>
        have k0 := List.mem_of_find?_eq_some q
        have e1 : z.name = y := by have := List.find?_some q; simpa using this
        subst e1
        obtain ⟨f, fd, ps, k, k1, k2, k3, k4, k5⟩ := g.fns z k0
        exact d_call g.tk k1 k2 (gl_ok g.sc h1) k3 k4 k5 (isA_ok r sc X W _ g h7) (dbg_ok h2).1 (star_ok h5 es X.env) (stars_any h6 X.env p)
  | .val n, sc, X, W, e, g, h => by unfold semE; exact d_val (isN_ok n sc X W e g h)
  | .new n, sc, X, W, e, g, h => by unfold semE; exact d_new (isN_ok n sc X W e g h)
  | .newD k, sc, X, W, e, g, h => by unfold semE; exact d_newD (isK_ok k sc X W e g h)
  | .rev a, sc, X, W, e, g, h => by
    unfold isE at h
    split at h
    · rename_i x r e0
      have e0 := revOf_ok e0
      subst e0
      unfold semE
      exact d_rev (isE_ok a sc X W x g h)
    · cases h
  | .join o r, sc, X, W, e, g, h => by
    unfold isE at h
    split at h
    · rename_i x ap y es p e0
      have e0 := joinOf_ok e0
      subst e0
      simp only [Bool.and_eq_true, decide_eq_true_eq] at h
      obtain ⟨⟨⟨⟨⟨h1, h2⟩, h3⟩, h4⟩, h5⟩, h6⟩ := h
      unfold semE
      exact d_join (isE_ok o sc X W x g h5) (isA_ok r sc X W _ g h6) h1 h2 h3 h4
    · cases h
  | .lamc y j, sc, X, W, e, g, h => by
    unfold isE at h
    split at h
    · rename_i x p0 ps b s lp q e0
      have e0 := lamOf_ok e0
      subst e0
      simp only [Bool.and_eq_true, decide_eq_true_eq] at h
      obtain ⟨⟨⟨⟨⟨⟨h1, h2⟩, h3⟩, h4⟩, h5⟩, h6⟩, h7⟩ := h
      subst h3
      unfold semE
      cases qt : T.tk y with
      | none => rw [qt] at h4; cases h4
      | some t =>
        cases ql : T.lams[j]? with
        | none => rw [ql] at h7; cases h7
        | some l =>
          rw [ql] at h7
          have k0 := List.mem_of_find?_eq_some qt
          have e1 : t.name = y := by have := List.find?_some qt; simpa using this
          subst e1
          have ml := List.mem_of_getElem? ql
          obtain ⟨k, c, P, F⟩ := g.lm (fun z => by rw [z] at ml; cases ml)
          exact d_lam (F.tks t k0) (gl_ok g.sc h1) F.tab F.code F.mem F.uni F.room (LamX.lamS_by (by rw [g.sc]; exact h6)) h5
            fun A outer s' H E f c' hr => F.snd l ml s b _ _ h7 rfl rfl rfl rfl rfl rfl g.nd rfl rfl lam_takes hr
    · cases h
  | .meth m o r, sc, X, W, e, g, h => by
    match e, h with
    | .Call (.Attribute x nm ap) (a :: es) [] p, h =>
      unfold isE at h
      simp only [Bool.and_eq_true, decide_eq_true_eq] at h
      obtain ⟨⟨⟨⟨⟨⟨h1, h2⟩, h3⟩, h4⟩, h5⟩, h6⟩, h7⟩ := h
      subst h1
      unfold semE
      exact d_meth (isE_ok o sc X W x g h6) (isA_ok r sc X W _ g h7) h2 h3 h4 h5
  | .mkx y r, sc, X, W, e, g, h => by
    match e, h with
    | .Call (.Name x p) (a :: es) [] q, h =>
      unfold isE at h
      simp only [Bool.and_eq_true, decide_eq_true_eq] at h
      obtain ⟨⟨⟨⟨⟨⟨h1, h2⟩, h3⟩, h4⟩, h5⟩, h6⟩, h7⟩ := h
      subst h3
      cases qx : T.x y with
      | none => rw [qx] at h4; cases h4
      | some z =>
        have m1 := List.mem_of_find?_eq_some qx
        have m2 : z.name = y := by have := List.find?_some qx; simpa using this
        subst m2
        obtain ⟨C, fI, fd, ps, k, F, hr⟩ := g.xs z m1
        have eq : semE T (.mkx z.name r) = mexc z.name z.fs (semA T r) := by
          show (match T.x z.name with
            | some e => mexc e.name e.fs (semA T r)
            | none => fail) = _
          rw [qx]
        rw [eq]
        exact d_exc F hr (gl_ok g.sc h1) (isA_ok r sc X W _ g h7) (dbg_ok h2).1 (star_ok h5 es X.env) (stars_any h6 X.env q)
  | .mk0 y, sc, X, W, e, g, h => by
    have w : (match mk0Of e with
      | some (x, _, _) => glB sc x && dbg x && decide (y = x) && decide (y ∈ T.x0)
      | none => false) = true := h
    clear h
    split at w
    · rename_i x p q e0
      have e0 := mk0Of_ok e0
      subst e0
      simp only [Bool.and_eq_true, decide_eq_true_eq] at w
      obtain ⟨⟨⟨h1, h2⟩, h3⟩, h4⟩ := w
      subst h3
      obtain ⟨C, k1, k2, k3, k4⟩ := g.x0 y h4
      unfold semE
      exact d_exc0 k1 k2 k3 k4 (gl_ok g.sc h1) (dbg_ok h2).1
    · cases w
  | .xat f a, sc, X, W, e, g, h => by
    cases e with
    | Attribute x n p =>
      unfold isE at h
      simp only [Bool.and_eq_true, decide_eq_true_eq] at h
      obtain ⟨⟨h1, h2⟩, h3⟩ := h
      subst h1
      unfold semE
      exact d_xat (fun e he => by
        obtain ⟨C, fI, fd, ps, k, F, hr⟩ := g.xs e he
        exact ⟨C, F.ns, F.xf, F.no⟩) (isE_ok a sc X W x g h3) (base_ok h2 f X.env _)
    | _ => cases h
  | .isx a cn, sc, X, W, e, g, h => by
    have w : (match isxOf e with
      | some (i, _, x, y, _, _) => decide (i = ("isinstance" : Str)) && glB sc i && decide (i ∈ T.bl) && decide (cn = y) && glB sc y && dbg y && notStar x && (T.isx.any fun p => decide (p.2.1 = cn)) && isE N T sc a x
      | none => false) = true := h
    clear h
    split at w
    · rename_i i p x y r q e0
      have e0 := isxOf_ok e0
      subst e0
      simp only [Bool.and_eq_true, decide_eq_true_eq] at w
      obtain ⟨⟨⟨⟨⟨⟨⟨⟨h1, h2⟩, h3⟩, h4⟩, h5⟩, h6⟩, h7⟩, h8⟩, h9⟩ := w
      subst h1 h4
      obtain ⟨t, ht1, ht2⟩ := List.any_eq_true.mp h8
      obtain ⟨c, cv, k1, k2, k3⟩ := g.ix cn ⟨t, ht1, of_decide_eq_true ht2⟩
      unfold semE
      refine d_isx k3 k1 ?_ (gl_ok g.sc h2) (g.bl _ h3) (isE_ok a sc X W x g h9) h7
      rcases k2 with ⟨k4, k5⟩ | ⟨k4, n, k5, k6⟩
      · exact pe_glob (gl_ok g.sc h5) k4 k5 (dbg_ok h6).1
      · rw [k6]
        exact pe_type (gl_ok g.sc h5) k4 k5 h6
    · cases w
theorem isT_ok : ∀ (c : CT) (sc : Scope) (X : Cx) (W : WX) (e : Expr), GX T N sc X W → isT N T sc c e = true → DT X W e (semT T c)
  | .tru a, sc, X, W, e, g, h => by
    unfold isT at h
    simp only [Bool.and_eq_true] at h
    unfold semT; exact d_tru (isE_ok a sc X W e g h.2) (head_ok h.1 X.env)
  | .cmp op a b, sc, X, W, e, g, h => by
    match e, h with
    | .Compare x [o] [y] p, h =>
      unfold isT at h
      simp only [Bool.and_eq_true, decide_eq_true_eq] at h
      obtain ⟨⟨⟨h1, h2⟩, h3⟩, h4⟩ := h
      subst h1
      unfold semT
      exact d_cmpT g.hu (set_ok h2 _) (isE_ok a sc X W x g h3) (isE_ok b sc X W y g h4)
  | .chn op op' a b c, sc, X, W, e, g, h => by
    match e, h with
    | .Compare x [o, o'] [y, z] p, h =>
      unfold isT at h
      simp only [Bool.and_eq_true, decide_eq_true_eq] at h
      obtain ⟨⟨⟨⟨⟨h1, h2⟩, h3⟩, h4⟩, h5⟩, h6⟩ := h
      subst h1 h2
      unfold semT
      exact d_chainT g.hu (set_ok h3 _) (isE_ok a sc X W x g h4) (isE_ok b sc X W y g h5) (isE_ok c sc X W z g h6)
  | .not t, sc, X, W, e, g, h => by
    match e, h with
    | .UnaryOp .Not x p, h => unfold semT; exact d_not (isT_ok t sc X W x g h)
  | .bo k l, sc, X, W, e, g, h => by
    match k, e, h with
    | true, .BoolOp .And es p, h => unfold semT; exact ((isL_ok l sc X W es g).1 h p).pt
    | false, .BoolOp .Or es p, h => unfold semT; exact ((isL_ok l sc X W es g).2 h p).pt
theorem isL_ok : ∀ (c : CL) (sc : Scope) (X : Cx) (W : WX) (es : List Expr), GX T N sc X W → (isL N T sc c es = true → ∀ p, DW X W (.BoolOp .And es p) (semL T true c)) ∧ (isL N T sc c es = true → ∀ p, DW X W (.BoolOp .Or es p) (semL T false c))
  | .one t, sc, X, W, es, g => by
    match es with
    | [] => exact ⟨fun h => (by cases h), fun h => (by cases h)⟩
    | [e] => exact ⟨fun h p => by unfold semL; exact d_and1 (isT_ok t sc X W e g h), fun h p => by unfold semL; exact d_or1 (isT_ok t sc X W e g h)⟩
    | _ :: _ :: _ => exact ⟨fun h => (by cases h), fun h => (by cases h)⟩
  | .cons t l, sc, X, W, es, g => by
    match es with
    | [] => exact ⟨fun h => (by cases h), fun h => (by cases h)⟩
    | [e] => exact ⟨fun h => (by cases h), fun h => (by cases h)⟩
    | e :: e2 :: es =>
      have i := isL_ok l sc X W (e2 :: es) g
      refine ⟨fun h p => ?_, fun h p => ?_⟩
      · unfold isL at h
        simp only [Bool.and_eq_true] at h
        unfold semL; exact d_and (isT_ok t sc X W e g h.1) (i.1 h.2 p)
      · unfold isL at h
        simp only [Bool.and_eq_true] at h
        unfold semL; exact d_or (isT_ok t sc X W e g h.1) (i.2 h.2 p)
theorem isA_ok : ∀ (c : CA) (sc : Scope) (X : Cx) (W : WX) (es : List Expr), GX T N sc X W → isA N T sc c es = true → DA X W es (semA T c)
  | .nil, sc, X, W, es, g, h => by
    match es, h with
    | [], h => unfold semA; exact d_nil
  | .cons a r, sc, X, W, es, g, h => by
    match es, h with
    | e :: es, h =>
      unfold isA at h
      simp only [Bool.and_eq_true] at h
      unfold semA; exact d_cons (isE_ok a sc X W e g h.1.2) (isA_ok r sc X W es g h.2) (star_ok h.1.1 es X.env)
  | .star a r, sc, X, W, es, g, h => by
    cases es with
    | nil => unfold isA at h; cases h
    | cons e es =>
      cases e with
      | Starred e p =>
        unfold isA at h
        simp only [Bool.and_eq_true] at h
        unfold semA; exact d_star (isE_ok a sc X W e g h.1) (isA_ok r sc X W es g h.2)
      | _ => unfold isA at h; cases h
theorem isO_ok : ∀ (c : CO) (sc : Scope) (X : Cx) (W : WX) (es : Option Expr), GX T N sc X W → isO N T sc c es = true → DOp X W es (semO T c)
  | .no, sc, X, W, es, g, h => by
    match es, h with
    | none, h => unfold semO; exact d_nopart
  | .at a, sc, X, W, es, g, h => by
    match es, h with
    | some e, h => unfold semO; exact d_part (isE_ok a sc X W e g h)
theorem isQ_ok : ∀ (c : CQ) (sc : Scope) (X : Cx) (W : WX) (es : List Expr), GX T N sc X W → isQ N T sc c es = true → PTs X es (tM X.K W relB (semQ T c))
  | .no, sc, X, W, es, g, h => by
    match es, h with
    | [], h => unfold semQ; exact isQ_nil
  | .at t, sc, X, W, es, g, h => by
    match es, h with
    | [e], h => unfold semQ; exact pts_one (isT_ok t sc X W e g h)
theorem isN_ok : ∀ (c : CN) (sc : Scope) (X : Cx) (W : WX) (e : Expr), GX T N sc X W → isN N T sc c e = true → DN X W e (semN T c)
  | .lit r, sc, X, W, e, g, h => by
    match e, h with
    | .List es p, h => unfold semN; exact d_list (isA_ok r sc X W es g h)
  | .of a, sc, X, W, e, g, h => by
    match e, h with
    | .Call (.Name x p0) [y] [] p, h =>
      unfold isN at h
      simp only [Bool.and_eq_true, decide_eq_true_eq] at h
      obtain ⟨⟨⟨⟨⟨h1, h2⟩, h3⟩, h4⟩, h5⟩, h6⟩ := h
      subst h3
      unfold semN
      exact d_listOf (gl_ok g.sc h1) (g.bl _ h4) (by decide +kernel) (d_cons (isE_ok a sc X W y g h6) d_nil (star_ok h5 [] X.env)) (dbg_ok h2).2.2 (dbg_ok h2).1 (star_ok h5 [] X.env)
  | .cat a b, sc, X, W, e, g, h => by
    match e, h with
    | .BinOp x .Add y p, h =>
      unfold isN at h
      simp only [Bool.and_eq_true] at h
      unfold semN; exact d_cat (isE_ok a sc X W x g h.1) (isE_ok b sc X W y g h.2)
  | .rep a b, sc, X, W, e, g, h => by
    match e, h with
    | .BinOp x .Mult y p, h =>
      unfold isN at h
      simp only [Bool.and_eq_true] at h
      unfold semN; exact d_rep (isE_ok a sc X W x g h.1) (isE_ok b sc X W y g h.2)
  | .lc i t q c vs, sc, X, W, e, g, h => by
    match e, h with
    | .ListComp x [⟨tg, iter, ifs, z⟩] scope p, h =>
      unfold isN at h
      simp only [Bool.and_eq_true, decide_eq_true_eq, List.all_eq_true] at h
      obtain ⟨⟨⟨⟨⟨⟨⟨h1, h2⟩, h3⟩, h4⟩, h5⟩, h6⟩, h7⟩, h8⟩ := h
      subst h1
      unfold semN
      have z := d_lc (own := ownOf N vs) (pos := p) g.calm g.nd (isI_ok i sc X W tg iter g h3) (by rw [g.N, g.sc]; exact blk_ok h4)
        (fun s H C cl fp => isTg_ok (X := X.blk s H scope (compEnvC scope cl C X.env) fp) (fs := some scope) g.calm g.N g.nd (g.blk (scope := scope) s H C cl fp).sc (fun y hy => hy) t tg h5)
        (fun s H C cl fp => isQ_ok q (relS scope sc) _ WNo ifs (g.blk (scope := scope) s H C cl fp) h6)
        (fun s H C cl fp => isE_ok c (relS scope sc) _ WNo x (g.blk (scope := scope) s H C cl fp) h7) (fold_ok h2 X.env) (fun i hi => by rw [ownOf_2]; exact h8 i hi)
      rw [ownOf_2] at z
      exact z
  | .zip a b, sc, X, W, e, g, h => by
    match e, h with
    | .Call (.Name x p0) [y] [] p, h =>
      unfold isN at h
      simp only [Bool.and_eq_true, decide_eq_true_eq] at h
      obtain ⟨⟨⟨h1, h2⟩, h3⟩, h4⟩ := h
      subst h2
      unfold semN
      cases q : zipOf y with
      | none => rw [q] at h4; cases h4
      | some t =>
        obtain ⟨z, e, f⟩ := t
        rw [q] at h4
        simp only [Bool.and_eq_true, decide_eq_true_eq] at h4
        obtain ⟨⟨⟨⟨⟨⟨k1, k2⟩, k3⟩, k4⟩, k5⟩, k6⟩, k7⟩ := h4
        subst k2
        obtain ⟨p1, p2, rfl⟩ := zipOf_ok q
        exact d_listZip g.calm (d_cons (isE_ok a sc X W e g k6) (d_cons (isE_ok b sc X W f g k7) d_nil (star_ok k5 [] X.env)) (star_ok k4 _ X.env)) (gl_ok g.sc h1) (g.bl _ h3) (gl_ok g.sc k1) (g.bl _ k3) k4 k5
theorem isK_ok : ∀ (c : CK) (sc : Scope) (X : Cx) (W : WX) (e : Expr), GX T N sc X W → isK N T sc c e = true → DD X W e (semK T c)
  | .emp, sc, X, W, e, g, h => by
    match e, h with
    | .Dict [] [] p, h => unfold semK; exact d_dempty
  | .dc i t q ck cv vs, sc, X, W, e, g, h => by
    match e, h with
    | .DictComp x y [⟨tg, iter, ifs, z⟩] scope p, h =>
      unfold isK at h
      simp only [Bool.and_eq_true, decide_eq_true_eq, List.all_eq_true] at h
      obtain ⟨⟨⟨⟨⟨⟨⟨⟨h1, h2⟩, h3⟩, h4⟩, h5⟩, h6⟩, h7⟩, h9⟩, h8⟩ := h
      subst h1
      unfold semK
      have z := d_dc (own := ownOf N vs) (pos := p) g.calm g.nd (isI_ok i sc X W tg iter g h3) (by rw [g.N, g.sc]; exact blk_ok h4)
        (fun s H C cl fp => isTg_ok (X := X.blk s H scope (compEnvC scope cl C X.env) fp) (fs := some scope) g.calm g.N g.nd (g.blk (scope := scope) s H C cl fp).sc (fun y hy => hy) t tg h5)
        (fun s H C cl fp => isQ_ok q (relS scope sc) _ WNo ifs (g.blk (scope := scope) s H C cl fp) h6)
        (fun s H C cl fp => isE_ok ck (relS scope sc) _ WNo x (g.blk (scope := scope) s H C cl fp) h7)
        (fun s H C cl fp => isE_ok cv (relS scope sc) _ WNo y (g.blk (scope := scope) s H C cl fp) h9) (fold_ok h2 X.env) (fun i hi => by rw [ownOf_2]; exact h8 i hi)
      rw [ownOf_2] at z
      exact z
theorem isI_ok : ∀ (c : CI) (sc : Scope) (X : Cx) (W : WX) (tg e : Expr), GX T N sc X W → isI N T sc c e = true → DI X W tg e (semI T c)
  | .at a, sc, X, W, tg, e, g, h => by unfold semI; exact d_it (isE_ok a sc X W e g h)
  | .range1 a, sc, X, W, tg, e, g, h => by
    match e, h with
    | .Call (.Name x p0) [y] [] p, h =>
      unfold isI at h
      simp only [Bool.and_eq_true, decide_eq_true_eq] at h
      obtain ⟨⟨⟨⟨h1, h3⟩, h4⟩, h5⟩, h6⟩ := h
      subst h3
      unfold semI
      exact d_range1 (gl_ok g.sc h1) (g.bl _ h4) (d_cons (isE_ok a sc X W y g h6) d_nil (star_ok h5 [] X.env)) (star_ok h5 [] X.env)
  | .range2 a b, sc, X, W, tg, e, g, h => by
    match e, h with
    | .Call (.Name x p0) [y, z] [] p, h =>
      unfold isI at h
      simp only [Bool.and_eq_true, decide_eq_true_eq] at h
      obtain ⟨⟨⟨⟨⟨⟨h1, h3⟩, h4⟩, h5⟩, h6⟩, h7⟩, h8⟩ := h
      subst h3
      unfold semI
      exact d_range2 (gl_ok g.sc h1) (g.bl _ h4) (d_cons (isE_ok a sc X W y g h7) (d_cons (isE_ok b sc X W z g h8) d_nil (star_ok h6 [] X.env)) (star_ok h5 _ X.env)) (by rw [star_ok h5 _ X.env, star_ok h6 [] X.env]; rfl) (star_ok h6 [] X.env)
end
end
end DL
end

section
set_option maxHeartbeats 2000000
/-! statements: their code -/
namespace DL
open PySem PySem.Spec PyProof.Rows L2
variable [Tbs]

inductive CB where
  | ret (a : CE) | retN | pass | brk | cnt | drop (a : CE) | asg (a : CE) (t : Tg)
  | lca (r : Bool) (k : Nat) (i : CI) (t : Tg) (q : CQ) (e : CE) (vs : List Nat)
  | par2 (i j : Nat) (r : CA) | par3 (i j l : Nat) (r : CA) | sub (a o i : CE) | aug (i : Nat) (op : Operator) (a : CE) | augS (op : Operator) (o i a : CE) | raise (x : Str) (r : CA)
mutual
inductive CS where
  | b (c : CB) | ite (t : CT) (p q : CSs) | fr (i : CI) (t : Tg) (b : CSs) | wh (f : SS → DH → Nat) (t : CT) (b : CSs) | tryAs (b : CSs) (x : Str) (i : Nat) (its : List HIt)
inductive CSs where
  | nil | cons (a : CS) (r : CSs)
end
def swh (f : SS → DH → Nat) (c : M Bool) (b : MS) : MS := fun s h => whG c b (f s h) s h
/-- try: .. except x as n: return its -/
def stry (m : MS) (x : Str) (its : List HIt) : MS := fun s h => match m s h with
  | .err y _ h1 => if y.cls = x ∧ y.fs.isEmpty = false then (match getIts D.str y.fs its with
    | some ds => .rt (.tup ds) h1
    | none => .bad) else .bad
  | r => r
section
variable (T : Tab)
def semB : CB → MS
  | .ret a => sret (semE T a)
  | .retN => sretN
  | .pass => snext
  | .brk => sbreak
  | .cnt => scont
  | .drop a => sdrop (semE T a)
  | .asg a t => sasg (semE T a) t
  | .lca r k i t q e vs => sasg (if r = true then mnew (mlc (semI T i) t (semQ T q) (semE T e) vs) else mval (mlc (semI T i) t (semQ T q) (semE T e) vs)) (.nm k)
  | .par2 i j r => spar2 i j (semA T r)
  | .par3 i j l r => spar3 i j l (semA T r)
  | .sub a o i => ssub (semE T a) (semE T o) (semE T i)
  | .aug i op a => saug i op (semE T a)
  | .augS op o i a => saugS op (semE T o) (semE T i) (semE T a)
  | .raise x r => match T.x x with
    | some e => sraise e.name e.fs (semA T r)
    | none => fun _ _ => .bad
mutual
def semS : CS → MS
  | .b c => semB T c
  | .ite t p q => sif (semT T t) (semSs p) (semSs q)
  | .fr i t b => sfor (semI T i) t (semSs b)
  | .wh f t b => swh f (semT T t) (semSs b)
  | .tryAs b x _ its => stry (semSs b) x its
def semSs : CSs → MS
  | .nil => snext
  | .cons a r => sseq (semS a) (semSs r)
end
end
/-! looks into an expression -/
def nameOf : Expr → Option (Str × Pos)
  | .Name x p => some (x, p)
  | _ => none
theorem nameOf_ok {e : Expr} {y : Str × Pos} (h : nameOf e = some y) : e = .Name y.1 y.2 := by
  cases e <;> first | (cases h; rfl) | cases h
def tupOf : Expr → Option (List Expr × Nat × Pos)
  | .Tuple es k p => some (es, k, p)
  | _ => none
theorem tupOf_ok {e : Expr} {y : List Expr × Nat × Pos} (h : tupOf e = some y) : e = .Tuple y.1 y.2.1 y.2.2 := by
  cases e <;> first | (cases h; rfl) | cases h
def subOf : Expr → Option (Expr × Expr × Pos)
  | .Subscript o i p => some (o, i, p)
  | _ => none
theorem subOf_ok {e : Expr} {y : Expr × Expr × Pos} (h : subOf e = some y) : e = .Subscript y.1 y.2.1 y.2.2 := by
  cases e <;> first | (cases h; rfl) | cases h
def lcOf : Expr → Option (Expr × Comprehension × Scope × Pos)
  | .ListComp x [g] sc p => some (x, g, sc, p)
  | _ => none
theorem lcOf_ok {e : Expr} {y : Expr × Comprehension × Scope × Pos} (h : lcOf e = some y) : e = .ListComp y.1 [y.2.1] y.2.2.1 y.2.2.2 := by
  cases e with
  | ListComp x gs sc p =>
    match gs, h with
    | [g], h => cases h; rfl
  | _ => cases h
def callOf : Expr → Option (Str × Pos × Expr × List Expr × Pos)
  | .Call (.Name x p) (e :: es) [] q => some (x, p, e, es, q)
  | _ => none
theorem callOf_ok {e : Expr} {y : Str × Pos × Expr × List Expr × Pos} (h : callOf e = some y) : e = .Call (.Name y.1 y.2.1) (y.2.2.1 :: y.2.2.2.1) [] y.2.2.2.2 := by
  unfold callOf at h
  split at h
  · cases h; rfl
  · cases h
/-- except e as n: return es -/
def hdOf : List ExceptHandler → Option (Str × Pos × Str × List Expr × Nat × Pos × Pos × Pos)
  | [.ExceptHandler (some (.Name e p)) (some n) [.Return (some (.Tuple es k q)) r] t] => some (e, p, n, es, k, q, r, t)
  | _ => none
theorem hdOf_ok {l : List ExceptHandler} {y : Str × Pos × Str × List Expr × Nat × Pos × Pos × Pos} (h : hdOf l = some y) :
    l = [.ExceptHandler (some (.Name y.1 y.2.1)) (some y.2.2.1) [.Return (some (.Tuple y.2.2.2.1 y.2.2.2.2.1 y.2.2.2.2.2.1)) y.2.2.2.2.2.2.1] y.2.2.2.2.2.2.2] := by
  unfold hdOf at h
  split at h
  · cases h; rfl
  · cases h
/-- the value is no comprehension whose store is turned round -/
def swB (sc : Scope) (v tg : Expr) : Bool := match v, tg with
  | .ListComp _ _ s p, .Name t tp => !((sc.names.lookup t == some .local) && (tp.line == p.line) && !(s.names.any fun (n, k) => n == t && (k == .local || k == .cell)))
  | .ListComp .., _ => true
  | .SetComp .., _ => false
  | .DictComp .., _ => false
  | _, _ => true
theorem sw_ok {env : Env} {sc : Scope} (hs : env.scope = sc) {v tg : Expr} {l : Nat} (h : swB sc v tg = true) : swapsWith v (some tg) l env = pure false := by
  cases v with
  | ListComp x gs s p =>
    cases tg with
    | Name t tp =>
      unfold swB at h
      simp only [Bool.not_eq_true'] at h
      show (pure (env.blockKind == .function && env.kindOf t == some .local && tp.line == p.line && !(s.names.any fun (n, k) => n == t && (k == .local || k == .cell))) : Sem Bool) = pure false
      congr 1
      have e : env.kindOf t = sc.names.lookup t := by rw [← hs]; rfl
      rw [e]
      rw [Bool.and_assoc, Bool.and_assoc, ← Bool.and_assoc (sc.names.lookup t == some .local), h]
      simp
    | _ => rfl
  | SetComp _ _ _ _ => cases tg <;> cases h
  | DictComp _ _ _ _ _ => cases tg <;> cases h
  | _ => rfl
/-- the value's store is in order -/
def nlB (sc : Scope) : Expr → Bool
  | .Name x _ => !(sc.names.lookup x == some .local)
  | _ => true
def stB (sc : Scope) (tg v : Expr) : Bool := match tg, v with
  | .Name .., _ => true
  | .Tuple ts _ _, .Tuple vs _ _ => !(ts.length == 2 || ts.length == 3) || (noStars vs && vs.all (foldedForSure 8)) || ts.any (nlB sc)
  | .Tuple .., _ => true
  | _, _ => false
theorem fm_lt {α β : Type} {f : α → Option β} : ∀ {l : List α}, (∃ x ∈ l, f x = none) → (l.filterMap f).length < l.length
  | [], ⟨_, h, _⟩ => by cases h
  | x :: l, ⟨y, hy, e⟩ => by
    have le : (l.filterMap f).length ≤ l.length := List.length_filterMap_le f l
    rcases List.mem_cons.mp hy with rfl | hy
    · rw [List.filterMap_cons, e]
      simp only [List.length_cons]
      omega
    · have ih := fm_lt ⟨y, hy, e⟩
      rw [List.filterMap_cons]
      cases f x with
      | none => simp only [List.length_cons]; omega
      | some b => simp only [List.length_cons]; omega
theorem st_cell {env : Env} {sc : Scope} (hs : env.scope = sc) {ts vs : List Expr} {k k2 : Nat} {p p2 : Pos} (h : ts.any (nlB sc) = true) : swappedStores [.Tuple ts k p] (.Tuple vs k2 p2) env = pure none := by
  have hl : ∀ line : Nat, (ts.filterMap fun
    | .Name id pos => if env.kindOf id == some .local && pos.line == line then some id else none
    | _ => none).length < ts.length := fun line => by
    obtain ⟨x, hx, e⟩ := List.any_eq_true.mp h
    refine fm_lt ⟨x, hx, ?_⟩
    cases x with
    | Name y q =>
      have e : (!(sc.names.lookup y == some .local)) = true := e
      have e2 : (env.kindOf y == some .local) = false := by
        have : env.kindOf y = sc.names.lookup y := by rw [← hs]; rfl
        rw [this]
        simpa using e
      simp only [e2, Bool.false_and]
      rfl
    | _ => rfl
  have hb : ∀ line : Nat, ((ts.filterMap fun
    | .Name id pos => if env.kindOf id == some .local && pos.line == line then some id else none
    | _ => none).length != ts.length) = true := fun line => by
    have := hl line
    simp only [bne_iff_ne, ne_eq]
    omega
  unfold swappedStores
  dsimp only
  by_cases c1 : (!(ts.length == 2 || ts.length == 3) || vs.length != ts.length || env.blockKind != .function) = true
  · rw [if_pos c1]
  · rw [if_neg c1]
    split
    · rfl
    · exact if_pos (Bool.or_eq_true_iff.mpr (Or.inl (hb _)))
theorem st_ok {env : Env} {sc : Scope} (hs : env.scope = sc) {v tg : Expr} (h : stB sc tg v = true) : swappedStores [tg] v env = pure none := by
  cases tg with
  | Name x p => exact stores_name
  | Tuple ts k p =>
    cases v with
    | Tuple vs k2 p2 =>
      unfold stB at h
      simp only [Bool.or_eq_true, Bool.not_eq_true', Bool.and_eq_true] at h
      rcases h with (h | h) | h
      · exact stores_len h
      · exact par_const h.1 h.2
      · exact st_cell hs h
    | _ => exact stores_tup rfl
  | _ => cases v <;> cases h
section
variable (N : List Str) (T : Tab)
def nmB (sc : Scope) (i : Nat) (x : Str) : Bool := decide (N[i]? = some x) && decide (sc.names.lookup x = some .local)
def isPar2 (sc : Scope) (i j : Nat) (r : CA) (t1 t2 v1 v2 : Expr) : Bool := match nameOf t1, nameOf t2 with
  | some (x, px), some (y, py) => nmB N sc i x && nmB N sc j y && (py.line == px.line) && !(y == x) && decide (i ≠ j) && noStars [v1, v2] && !([v1, v2].all (foldedForSure 8)) && !([v1, v2].all (constantsAlone 8)) && isA N T sc r [v1, v2]
  | _, _ => false
def isPar3 (sc : Scope) (i j l : Nat) (r : CA) (t1 t2 t3 v1 v2 v3 : Expr) : Bool := match nameOf t1, nameOf t2, nameOf t3 with
  | some (x, px), some (y, py), some (z, pz) => nmB N sc i x && nmB N sc j y && nmB N sc l z && (py.line == px.line) && (pz.line == px.line) && !(y == x) && !(z == x) && !(z == y) &&
    decide (i ≠ j) && decide (i ≠ l) && decide (j ≠ l) && noStars [v1, v2, v3] && !([v1, v2, v3].all (foldedForSure 8)) && !([v1, v2, v3].all (constantsAlone 8)) && isA N T sc r [v1, v2, v3]
  | _, _, _ => false
def isLca (sc : Scope) (k : Nat) (i : CI) (t : Tg) (q : CQ) (e : CE) (vs : List Nat) (tg v : Expr) : Bool := match nameOf tg, lcOf v with
  | some (y, py), some (x, g, scope, p) => decide (g.is_async = 0) && nmB N sc k y && (py.line == p.line) && !(scope.names.any fun (n, k) => n == y && (k == .local || k == .cell)) &&
    notSet g.iter && isI N T sc i g.iter && blkC N sc scope vs && isTg N (relS scope sc) (some scope) t g.target && isQ N T (relS scope sc) q g.ifs && isE N T (relS scope sc) e x && (t.sl.all fun i => decide (i ∈ vs))
  | _, _ => false
def isB (sc : Scope) : CB → Stmt → Bool
  | .ret a, .Return (some x) _ => isE N T sc a x
  | .retN, .Return none _ => true
  | .pass, .Pass _ => true
  | .brk, .Break _ => true
  | .cnt, .Continue _ => true
  | .drop a, .Expr x _ => notComp x && isE N T sc a x
  | .asg a t, .Assign [tg] v _ => notStar tg && swB sc v tg && stB sc tg v && isE N T sc a v && isTg N sc none t tg
  | .lca _ k i t q e vs, .Assign [tg] v _ => isLca N T sc k i t q e vs tg v
  | .par2 i j r, .Assign [tg] v _ => match tupOf tg, tupOf v with
    | some ([t1, t2], _), some ([v1, v2], _) => isPar2 N T sc i j r t1 t2 v1 v2
    | _, _ => false
  | .par3 i j l r, .Assign [tg] v _ => match tupOf tg, tupOf v with
    | some ([t1, t2, t3], _), some ([v1, v2, v3], _) => isPar3 N T sc i j l r t1 t2 t3 v1 v2 v3
    | _, _ => false
  | .sub a o i, .Assign [tg] v _ => match subOf tg with
    | some (x, y, _) => notSlice y && isE N T sc a v && isE N T sc o x && isE N T sc i y
    | none => false
  | .aug i op a, .AugAssign tg o v _ => match nameOf tg with
    | some (x, _) => decide (op = o) && decide (N[i]? = some x) && locB sc x && isE N T sc a v
    | none => false
  | .augS op o i a, .AugAssign tg o' v _ => match subOf tg with
    | some (x, y, _) => decide (op = o') && notSlice y && isE N T sc o x && isE N T sc i y && isE N T sc a v
    | none => false
  | .raise y r, .Raise (some e) none _ => match callOf e with
    | some (x, _, e1, es, _) => glB sc x && dbg x && decide (y = x) && (T.x x).isSome && notStar e1 && noStars es && isA N T sc r (e1 :: es)
    | none => false
  | _, _ => false
mutual
def isS (sc : Scope) : CS → Stmt → Bool
  | .b c, s => isB N T sc c s
  | .ite t p q, .If c x y _ => isT N T sc t c && isSs sc p x && isSs sc q y
  | .fr i t b, .For tg iter body [] _ => notSet iter && isI N T sc i iter && isTg N sc none t tg && isSs sc b body
  | .wh _ t b, .While c body [] _ => isT N T sc t c && isSs sc b body
  | .tryAs b x i its, .Try body hs [] [] _ => match hdOf hs with
    | some (e, _, n, es, _) => glB sc e && dbg e && decide (x = e) && (match T.x x with
      | some z => (fldsOf its).all fun f => z.fs.contains f
      | none => false) && decide (its.length ≤ 1000) && nmB N sc i n && dbg n && isIts n its es && isSs sc b body
    | none => false
  | _, _ => false
def isSs (sc : Scope) : CSs → List Stmt → Bool
  | .nil, [] => true
  | .cons a r, s :: ss => isS sc a s && isSs sc r ss
  | _, _ => false
end
end
structure GS (T : Tab) (N : List Str) (sc : Scope) (X : Cx) (W : WX) : Prop extends GX T N sc X W where
  fn : ∀ y, X.fn y = true
  kd : X.env.scope.kind = .function
  po : PassesOwn (model X.prog X.w) X.A X.env X.xe
  stk : X.stack = X.env :: X.outer
  frm : X.env.frame = some X.env.locals
section
variable {T : Tab} {N : List Str} {sc : Scope} {X : Cx} {W : WX}
theorem s_whileF {c : Expr} {tc : M Bool} {body : List Stmt} {mb : MS} {pos : Pos} (f : SS → DH → Nat) (hp : PassesOwn (model X.prog X.w) X.A X.env X.xe) (hc : DT X W c tc) (hb : DSs X W body mb) : DS X W (.While c body [] pos) (swh f tc mb) :=
  ⟨fun pins s σ H E I ⟨ι, s1, h1, rs, rh, p⟩ => (s_while (f s1 h1) hp hc hb).run pins s σ H E I ⟨ι, s1, h1, rs, rh, p⟩⟩
theorem GS.tg (g : GS T N sc X W) {t : Tg} {x : Expr} (h : isTg N sc none t x = true) : PG X x (gT X.K t) := isTg_ok g.calm g.N g.nd g.sc (fun y _ => g.fn y) t x h
theorem GS.nm (g : GS T N sc X W) {i : Nat} {x : Str} (h : nmB N sc i x = true) : X.N[i]? = some x ∧ X.env.scope.names.lookup x = some .local := by
  unfold nmB at h
  simp only [Bool.and_eq_true, decide_eq_true_eq] at h
  exact ⟨by rw [g.N]; exact h.1, by rw [g.sc]; exact h.2⟩
theorem sw_true {env : Env} {sc scope : Scope} (hs : env.scope = sc) (hk : env.scope.kind = .function) {x : Expr} {gs : List Comprehension} {y : Str} {py p : Pos} {l : Nat} (h1 : sc.names.lookup y = some .local) (h2 : (py.line == p.line) = true)
    (h3 : (scope.names.any fun (n, k) => n == y && (k == .local || k == .cell)) = false) : swapsWith (.ListComp x gs scope p) (some (.Name y py)) l env = pure true := by
  show (pure (env.blockKind == .function && env.kindOf y == some .local && py.line == p.line && !(scope.names.any fun (n, k) => n == y && (k == .local || k == .cell))) : Sem Bool) = pure true
  have e : env.kindOf y = some .local := by rw [← h1, ← hs]; rfl
  rw [blockKind_fn hk, e, h2, h3]
  rfl
theorem isPar2_ok (g : GS T N sc X W) {i j : Nat} {r : CA} {t1 t2 v1 v2 : Expr} {k1 k2 : Nat} {p1 p2 pos : Pos} (h : isPar2 N T sc i j r t1 t2 v1 v2 = true) : DS X W (.Assign [.Tuple [t1, t2] k1 p1] (.Tuple [v1, v2] k2 p2) pos) (spar2 i j (semA T r)) := by
  unfold isPar2 at h
  split at h
  · rename_i x px y py e1 e2
    have e1 := nameOf_ok e1
    have e2 := nameOf_ok e2
    subst e1 e2
    simp only [Bool.and_eq_true, decide_eq_true_eq, Bool.not_eq_true'] at h
    obtain ⟨⟨⟨⟨⟨⟨⟨⟨h1, h2⟩, h3⟩, h4⟩, h5⟩, h6⟩, h7⟩, h8⟩, h9⟩ := h
    obtain ⟨n1, n2⟩ := g.nm h1
    obtain ⟨m1, m2⟩ := g.nm h2
    exact s_par2 g.calm g.nd n1 m1 h5 n2 m2 (isA_ok r sc X W _ g.toGX h9) (par2_ok g.kd n2 m2 h3 h4 h6 h7 h8) (by rw [swapSole]; rfl)
  · cases h
theorem isPar3_ok (g : GS T N sc X W) {i j l : Nat} {r : CA} {t1 t2 t3 v1 v2 v3 : Expr} {k1 k2 : Nat} {p1 p2 pos : Pos} (h : isPar3 N T sc i j l r t1 t2 t3 v1 v2 v3 = true) : DS X W (.Assign [.Tuple [t1, t2, t3] k1 p1] (.Tuple [v1, v2, v3] k2 p2) pos) (spar3 i j l (semA T r)) := by
  unfold isPar3 at h
  split at h
  · rename_i x px y py z pz e1 e2 e3
    have e1 := nameOf_ok e1
    have e2 := nameOf_ok e2
    have e3 := nameOf_ok e3
    subst e1 e2 e3
    simp only [Bool.and_eq_true, decide_eq_true_eq, Bool.not_eq_true'] at h
    obtain ⟨⟨⟨⟨⟨⟨⟨⟨⟨⟨⟨⟨⟨⟨h1, h2⟩, b0⟩, b1⟩, b2⟩, b3⟩, b4⟩, b5⟩, h3⟩, h4⟩, h5⟩, h6⟩, h7⟩, h8⟩, h9⟩ := h
    obtain ⟨n1, n2⟩ := g.nm h1
    obtain ⟨m1, m2⟩ := g.nm h2
    obtain ⟨l1, l2⟩ := g.nm b0
    exact s_par3 g.calm g.nd n1 m1 l1 h3 h4 h5 n2 m2 l2 (isA_ok r sc X W _ g.toGX h9) (par3_ok g.kd n2 m2 l2 b1 b2 b3 b4 b5 h6 h7 h8) (by rw [swapSole]; rfl)
  · cases h
theorem isLca_ok (g : GS T N sc X W) {r : Bool} {k : Nat} {i : CI} {t : Tg} {q : CQ} {c : CE} {vs : List Nat} {tg v : Expr} {pos : Pos} (h : isLca N T sc k i t q c vs tg v = true) :
    DS X W (.Assign [tg] v pos) (sasg (if r = true then mnew (mlc (semI T i) t (semQ T q) (semE T c) vs) else mval (mlc (semI T i) t (semQ T q) (semE T c) vs)) (.nm k)) := by
  unfold isLca at h
  split at h
  · rename_i y py x gg scope p e1 e2
    have e1 := nameOf_ok e1
    have e2 := lcOf_ok e2
    subst e1 e2
    obtain ⟨tg, iter, ifs, z⟩ := gg
    simp only [Bool.and_eq_true, decide_eq_true_eq, List.all_eq_true, Bool.not_eq_true'] at h
    obtain ⟨⟨⟨⟨⟨⟨⟨⟨⟨⟨h1, a1⟩, a2⟩, a3⟩, h2⟩, h3⟩, h4⟩, h5⟩, h6⟩, h7⟩, h8⟩ := h
    subst h1
    obtain ⟨n1, n2⟩ := g.nm a1
    have w := s_setLc (X := X) (W := W) (own := ownOf N vs) (pos := p) (spos := pos) (py := py) r g.calm g.nd n1 n2 (sw_true g.sc g.kd (by rw [← g.sc]; exact n2) a2 a3) (isI_ok i sc X W tg iter g.toGX h3) (by rw [g.N, g.sc]; exact blk_ok h4)
      (fun s H C cl fp => isTg_ok (X := X.blk s H scope (compEnvC scope cl C X.env) fp) (fs := some scope) g.calm g.N g.nd (g.toGX.blk (scope := scope) s H C cl fp).sc (fun y hy => hy) t tg h5)
      (fun s H C cl fp => isQ_ok q (relS scope sc) _ WNo ifs (g.toGX.blk (scope := scope) s H C cl fp) h6)
      (fun s H C cl fp => isE_ok c (relS scope sc) _ WNo x (g.toGX.blk (scope := scope) s H C cl fp) h7) (fold_ok h2 X.env) (fun i hi => by rw [ownOf_2]; exact h8 i hi)
    rw [ownOf_2] at w
    exact w
  · cases h
theorem GS.tr (g : GS T N sc X W) {W' : WX} {pn : List (Addr × Obj)} {xe : Value → Shared → Prop} (tk : Takes (X.tr pn xe) W') (po : PassesOwn (model X.prog X.w) X.A X.env xe) : GS T N sc (X.tr pn xe) W' :=
  { N := g.N, nd := g.nd, sc := g.sc, hu := g.hu, calm := g.calm, tk := tk, fns := g.fns, cs := g.cs, bl := g.bl, xs := g.xs, lm := fun n => (by
      obtain ⟨k, c, P, F⟩ := g.lm n
      exact ⟨k, c, P, F.code, F.tab, F.mem, F.uni, F.room, F.snd, F.tks⟩), x0 := g.x0, ix := g.ix, fn := g.fn, kd := g.kd, po := po, stk := g.stk, frm := g.frm }
theorem T_x {T : Tab} {x : Str} {e : XEnt} (h : T.x x = some e) : e ∈ T.xs ∧ e.name = x := ⟨List.mem_of_find?_eq_some h, by have := List.find?_some h; simpa using this⟩
theorem isRaise_ok (g : GS T N sc X W) {y : Str} {r : CA} {e : Expr} {pos : Pos} (h0 : isB N T sc (.raise y r) (.Raise (some e) none pos) = true) : DS X W (.Raise (some e) none pos) (semB T (.raise y r)) := by
  have h : (match callOf e with
    | some (x, _, e1, es, _) => glB sc x && dbg x && decide (y = x) && (T.x x).isSome && notStar e1 && noStars es && isA N T sc r (e1 :: es)
    | none => false) = true := h0
  split at h
  · rename_i x p e1 es q e0
    have e0 := callOf_ok e0
    subst e0
    simp only [Bool.and_eq_true, decide_eq_true_eq] at h
    obtain ⟨⟨⟨⟨⟨⟨h1, h2⟩, h3⟩, h4⟩, h5⟩, h6⟩, h7⟩ := h
    subst h3
    cases qx : T.x y with
    | none => rw [qx] at h4; cases h4
    | some z =>
      obtain ⟨m1, m2⟩ := T_x qx
      subst m2
      obtain ⟨C, fI, fd, ps, k, F, hr⟩ := g.xs z m1
      have eq : semB T (.raise z.name r) = sraise z.name z.fs (semA T r) := by
        show (match T.x z.name with
          | some e => sraise e.name e.fs (semA T r)
          | none => fun _ _ => .bad) = _
        rw [qx]
      rw [eq]
      exact d_raise g.calm g.tk F hr (gl_ok g.sc h1) (isA_ok r sc X W _ g.toGX h7) (dbg_ok h2).1 (star_ok h5 es X.env) (stars_any h6 X.env q)
  · cases h
/-- try: .. except x as n: return its -/
theorem d_tryAs (g : GS T N sc X W) {b : CSs} {x n : Str} {i : Nat} {its : List HIt} {body : List Stmt} {es : List Expr} {k1 : Nat} {p6 p7 p8 p9 p10 : Pos} {z : XEnt}
    (hb : ∀ (W' : WX) (pn : List (Addr × Obj)) (xe : Value → Shared → Prop), Takes (X.tr pn xe) W' → PassesOwn (model X.prog X.w) X.A X.env xe → DSs (X.tr pn xe) W' body (semSs T b)) (hx : glB sc x = true) (dx : dbg x = true) (hz : T.x x = some z)
    (hf : ∀ f ∈ fldsOf its, f ∈ z.fs) (hfew : its.length ≤ 1000) (hn : nmB N sc i n = true) (hd : dbg n = true) (hit : isIts n its es = true) :
    DS X W (.Try body [.ExceptHandler (some (.Name x p6)) (some n) [.Return (some (.Tuple es k1 p7)) p8] p9] [] [] p10) (stry (semSs T b) x its) := by
  obtain ⟨m1, m2⟩ := T_x hz
  subst m2
  obtain ⟨C, fI, fd, ps, k, F, hr⟩ := g.xs z m1
  obtain ⟨n1, n2⟩ := g.nm hn
  have hi : i < X.N.length := (List.getElem?_eq_some_iff.mp n1).1
  refine PS_imp (ps_try_as (X := X) (c := .ref C) (i := i) (tb := fun W' => tS X.K (fun c d σ H => σ.length = X.N.length → W' c d σ H) (semSs T b)) g.stk g.frm g.nd n1 n2 ⟨gl_ok g.sc hx, (dbg_ok dx).1, .inl F.mg⟩ LamX.takes0
    (fun W' pn xe tk po => hb _ pn xe (takes_len tk) po)
    (fun a0 oe cls d pn hz hf' => pss_one (ps_ret (pe_tup (pa_its (X := X) (i := i) F.xf hz hf' n1 (.inl n2) hd its es hit fun f q => F.no f (hf f q)))))) fun E0 σ H q => ?_
  obtain ⟨ι, s, h, rs, rh, p⟩ := q
  refine ⟨ι, s, h, rs, rh, ?_⟩
  unfold stry at p
  cases e : semSs T b s h with
  | nx s1 h1 => simp only [e] at p; exact p
  | rt d h1 => simp only [e] at p; exact p
  | bk s1 h1 => simp only [e] at p; exact p
  | ct s1 h1 => simp only [e] at p; exact p
  | bad => simp only [e] at p; exact p.elim
  | err y s1 h1 =>
    simp only [e] at p
    intro ι2 σ2 cls dx H2 e2 rs2 rh2 rx len
    by_cases hy : y.cls = z.name ∧ y.fs.isEmpty = false
    · rw [if_pos hy] at p
      cases eg : getIts D.str y.fs its with
      | none => simp only [eg] at p; exact p.elim
      | some ds =>
        simp only [eg] at p
        obtain ⟨⟨C', rfl, hC⟩, rx⟩ := rx
        rw [hy.1, F.ns] at hC
        cases hC
        rcases rx with ⟨r1, r2⟩ | ⟨dd, ws, r1, r2, r3, r4, r5⟩
        · rw [r1] at hy
          cases hy.2
        · obtain ⟨vs, k1, k2⟩ := its_rep r4 r5 eg
          refine ⟨true, F.xm, fun _ a0 ha0 => ?_, fun z => by cases z⟩
          have hset : (σ2.set i (some (V.ref a0)))[i]? = some (some (V.ref a0)) := List.getElem?_set_self (by rw [len]; exact hi)
          refine ⟨hset, rfl, dd, ws, vs, r1, r2, k1, ?_, fun b hb => ?_⟩
          · rw [getIts_len k1, sizeLine_eq]; omega
          · have e3 : Ext ι2 H2 ι2 (upd H2 b (.tup vs)) := .laid hb
            exact p ι2 _ _ (e2.trans e3) (rh2.laid hb) ⟨b, _, rfl, .inl ⟨upd_same, rh2.fresh hb⟩, RepVs.ext e3 _ _ k2⟩
    · rw [if_neg hy] at p; exact p.elim
theorem isB_ok (g : GS T N sc X W) (c : CB) (s : Stmt) (h : isB N T sc c s = true) : DS X W s (semB T c) := by
  unfold isB at h
  split at h
  · exact s_ret (isE_ok _ sc X W _ g.toGX h)
  · exact s_retN
  · exact s_pass
  · exact s_break
  · exact s_cont
  · rename_i a x p
    simp only [Bool.and_eq_true] at h
    exact s_expr (isE_ok a sc X W x g.toGX h.2) (comp_ok h.1 none p.line X.env)
  · rename_i a t tg v p
    simp only [Bool.and_eq_true] at h
    obtain ⟨⟨⟨⟨h1, h2⟩, h3⟩, h4⟩, h5⟩ := h
    exact s_asg (isE_ok a sc X W v g.toGX h4) (g.tg h5) (by rw [swapSole]; exact sw_ok g.sc h2) (st_ok g.sc h3) (each_one h1 X.env)
  · exact isLca_ok g h
  · split at h
    · rename_i e1 e2
      have e1 := tupOf_ok e1
      have e2 := tupOf_ok e2
      subst e1 e2
      exact isPar2_ok g h
    · cases h
  · split at h
    · rename_i e1 e2
      have e1 := tupOf_ok e1
      have e2 := tupOf_ok e2
      subst e1 e2
      exact isPar3_ok g h
    · cases h
  · rename_i a o i tg v pos
    split at h
    · rename_i x y p e1
      have e1 := subOf_ok e1
      subst e1
      simp only [Bool.and_eq_true] at h
      obtain ⟨⟨⟨h1, h2⟩, h3⟩, h4⟩ := h
      exact s_sub (by have := g.hu; omega) (isE_ok a sc X W v g.toGX h2) (isE_ok o sc X W x g.toGX h3) (isE_ok i sc X W y g.toGX h4) (assign_sub h1) (by rw [swapSole]; cases v <;> rfl) stores_sub (each_one rfl X.env)
    · cases h
  · rename_i i op a tg o v pos
    split at h
    · rename_i x p e1
      have e1 := nameOf_ok e1
      subst e1
      simp only [Bool.and_eq_true, decide_eq_true_eq] at h
      obtain ⟨⟨⟨h1, h2⟩, h3⟩, h4⟩ := h
      subst h1
      exact s_aug g.nd (by rw [g.N]; exact h2) (by rw [g.sc]; exact loc_ok h3) (isE_ok a sc X W v g.toGX h4) (.inl (g.fn x))
    · cases h
  · rename_i op o i a tg o' v pos
    split at h
    · rename_i x y p e1
      have e1 := subOf_ok e1
      subst e1
      simp only [Bool.and_eq_true, decide_eq_true_eq] at h
      obtain ⟨⟨⟨⟨h1, h2⟩, h3⟩, h4⟩, h5⟩ := h
      subst h1
      exact s_augS (by have := g.hu; omega) (isE_ok o sc X W x g.toGX h3) (isE_ok i sc X W y g.toGX h4) (isE_ok a sc X W v g.toGX h5) (aug_sub h2)
    · cases h
  · exact isRaise_ok g h
  · cases h
end
mutual
theorem isS_ok {T : Tab} {N : List Str} {sc : Scope} : ∀ (c : CS) (X : Cx) (W : WX) (s : Stmt), GS T N sc X W → isS N T sc c s = true → DS X W s (semS T c)
  | .b c, X, W, s, g, h => by unfold semS; exact isB_ok g c s h
  | .ite t p q, X, W, s, g, h => by
    cases s with
    | If c x y pos =>
      unfold isS at h
      simp only [Bool.and_eq_true] at h
      unfold semS; exact s_if (isT_ok t sc X W c g.toGX h.1.1) (isSs_ok p X W x g h.1.2) (isSs_ok q X W y g h.2)
    | _ => cases h
  | .fr i t b, X, W, s, g, h => by
    cases s with
    | For tg iter body els pos =>
      cases els with
      | nil =>
        unfold isS at h
        simp only [Bool.and_eq_true] at h
        obtain ⟨⟨⟨h1, h2⟩, h3⟩, h4⟩ := h
        unfold semS
        exact s_for g.po g.calm (isI_ok i sc X W tg iter g.toGX h2) (g.tg h3) (isSs_ok b X W body g h4) (fold_ok h1 X.env)
      | cons _ _ => cases h
    | _ => cases h
  | .wh f t b, X, W, s, g, h => by
    cases s with
    | While c body els pos =>
      cases els with
      | nil =>
        unfold isS at h
        simp only [Bool.and_eq_true] at h
        unfold semS
        exact s_whileF f g.po (isT_ok t sc X W c g.toGX h.1) (isSs_ok b X W body g h.2)
      | cons _ _ => cases h
    | _ => cases h
  | .tryAs b x i its, X, W, s, g, h => by
    cases s with
    | Try body hs els fin pos =>
      cases els with
      | nil =>
        cases fin with
        | nil =>
          have h : (match hdOf hs with
            | some (e, _, n, es, _) => glB sc e && dbg e && decide (x = e) && (match T.x x with
              | some z => (fldsOf its).all fun f => z.fs.contains f
              | none => false) && decide (its.length ≤ 1000) && nmB N sc i n && dbg n && isIts n its es && isSs N T sc b body
            | none => false) = true := h
          split at h
          · rename_i e p n es k q r t e0
            have e0 := hdOf_ok e0
            subst e0
            simp only [Bool.and_eq_true, decide_eq_true_eq] at h
            obtain ⟨⟨⟨⟨⟨⟨⟨⟨h1, h2⟩, h3⟩, h4⟩, h5⟩, h6⟩, h7⟩, h8⟩, h9⟩ := h
            subst h3
            cases qx : T.x x with
            | none => rw [qx] at h4; cases h4
            | some z =>
              rw [qx] at h4
              have h4 : ((fldsOf its).all fun f => z.fs.contains f) = true := h4
              unfold semS
              exact d_tryAs g (fun W' pn xe tk po => isSs_ok b _ W' body (g.tr tk po) h9) h1 h2 qx (fun f hf => by simpa using List.all_eq_true.mp h4 f hf) h5 h6 h7 h8
          · cases h
        | cons _ _ => cases h
      | cons _ _ => cases h
    | _ => cases h
theorem isSs_ok {T : Tab} {N : List Str} {sc : Scope} : ∀ (c : CSs) (X : Cx) (W : WX) (ss : List Stmt), GS T N sc X W → isSs N T sc c ss = true → DSs X W ss (semSs T c)
  | .nil, X, W, ss, g, h => by
    cases ss with
    | nil => unfold semSs; exact s_nil
    | cons _ _ => cases h
  | .cons a r, X, W, ss, g, h => by
    cases ss with
    | nil => cases h
    | cons s ss =>
      unfold isSs at h
      simp only [Bool.and_eq_true] at h
      unfold semSs; exact s_cons (isS_ok a X W s g h.1) (isSs_ok r X W ss g h.2)
end
end DL
end

section
set_option maxHeartbeats 2000000
/-! a def keeps what its code computes -/
namespace DL
open PySem PySem.Spec PyProof.Rows L2
variable [Tbs]

/-! ### what nobody holds any more -/
mutual
def D.und (n : Nat) : D → Prop
  | .tup ds => D.unds n ds
  | .lst ds => D.unds n ds
  | .fls ds => D.unds n ds
  | .exc _ _ ds => D.unds n ds
  | .ref i => i < n
  | _ => True
def D.unds (n : Nat) : List D → Prop
  | [] => True
  | d :: ds => D.und n d ∧ D.unds n ds
end
def DO.und (n : Nat) : DO → Prop
  | .lst ds => D.unds n ds
  | .dK kvs => D.unds n (kvs.map (·.2))
  | .ins _ fs => D.unds n (fs.map (·.2))
section
variable {K : Fg} {ι : Loc} {H : Hp}
theorem mem_take {n : Nat} {a : Addr} (h : a ∈ (⟨ι.ad.take n, ι.av⟩ : Loc)) : a ∈ ι := h.elim (fun z => .inl (List.mem_of_mem_take z)) .inr
mutual
theorem RepV.drop {n : Nat} : ∀ (d : D) (v : V), d.und n → RepV K ι H d v → RepV K ⟨ι.ad.take n, ι.av⟩ H d v
  | .non, v, _, h => h
  | .bl b, v, _, h => h
  | .int i, v, _, h => h
  | .str x, v, _, h => h
  | .tup ds, v, b, h => by
    obtain ⟨a, xs, h1, h2, h3⟩ := h
    refine ⟨a, xs, h1, ?_, RepVs.dropG ds xs b h3⟩
    rcases h2 with ⟨h2, n⟩ | h2
    · exact .inl ⟨h2, fun z => n (mem_take z)⟩
    · exact .inr h2
  | .lst ds, v, b, h => by
    obtain ⟨a, xs, h1, ⟨h2, n⟩, h3⟩ := h
    exact ⟨a, xs, h1, ⟨h2, fun z => n (mem_take z)⟩, RepVs.dropG ds xs b h3⟩
  | .fls ds, v, b, h => by
    obtain ⟨a, xs, h1, h2, h3⟩ := h
    refine ⟨a, xs, h1, ?_, RepVs.dropG ds xs b h3⟩
    rcases h2 with ⟨h2, n⟩ | h2
    · exact .inl ⟨h2, fun z => n (mem_take z)⟩
    · exact .inr h2
  | .ref i, v, b, h => by
    obtain ⟨a, h1, h2⟩ := h
    have b : i < n := b
    exact ⟨a, h1, by rw [List.getElem?_take]; simp [b, h2]⟩
  | .opq u, v, _, h => h
  | .exc x ns ds, v, b, h => by
    obtain ⟨a, xs, h1, ⟨C, dx, k1, k2, k3, k4, k5⟩, h3⟩ := h
    refine ⟨a, xs, h1, ⟨C, dx, k1, k2, fun z => k3 (mem_take z), k4, ?_⟩, RepVs.dropG ds xs b h3⟩
    rcases k5 with k5 | ⟨d, k5, k6, k7⟩
    · exact .inl k5
    · exact .inr ⟨d, k5, k6, fun z => k7 (mem_take z)⟩
theorem RepVs.dropG {n : Nat} : ∀ (ds : List D) (xs : List V), D.unds n ds → RepVs K ι H ds xs → RepVs K ⟨ι.ad.take n, ι.av⟩ H ds xs
  | [], xs, _, h => h
  | d :: ds, xs, b, h => by
    obtain ⟨x, r, h1, h2, h3⟩ := h
    exact ⟨x, r, h1, RepV.drop d x b.1 h2, RepVs.dropG ds r b.2 h3⟩
end
theorem RepO.drop {n : Nat} {a : Addr} : ∀ {o : DO}, o.und n → RepO K ι H a o → RepO K ⟨ι.ad.take n, ι.av⟩ H a o
  | .lst _, b, ⟨xs, q, r⟩ => ⟨xs, q, RepVs.dropG _ _ b r⟩
  | .dK _, b, ⟨ws, q, z, r⟩ => ⟨ws, q, z, RepVs.dropG _ _ b r⟩
  | .ins _ _, b, ⟨dx, ws, q, z, r⟩ => ⟨dx, ws, q, z, RepVs.dropG _ _ b r⟩
theorem RepH.drop {h g : DH} (r : RepH K ι H (h ++ g)) (b : ∀ o ∈ h, o.und h.length) : RepH K ⟨ι.ad.take h.length, ι.av⟩ H h := by
  have l := r.len
  rw [List.length_append] at l
  refine ⟨r.nd.sublist (List.take_sublist _ _), by simp; omega, fun i o a h1 h2 => ?_, fun a ha => r.dis a (List.mem_of_mem_take ha), r.avs, r.tbs⟩
  have hi : i < h.length := (List.getElem?_eq_some_iff.mp h1).1
  have h2 : (ι.ad.take h.length)[i]? = some a := h2
  rw [List.getElem?_take] at h2
  simp only [hi, if_true] at h2
  exact (r.obj i o a (by rw [List.getElem?_append_left hi]; exact h1) h2).drop (b o (List.mem_of_getElem? h1))
theorem RepX.drop {n : Nat} {cls : Value} {dx : Option Addr} {x : Exn} (b : D.unds n (x.fs.map (·.2))) (r : RepX K ι H cls dx x) : RepX K ⟨ι.ad.take n, ι.av⟩ H cls dx x := by
  refine ⟨r.1, ?_⟩
  rcases r.2 with q | ⟨d, ws, h1, h2, h3, h4, h5⟩
  · exact .inl q
  · exact .inr ⟨d, ws, h1, h2, fun z => h3 (mem_take z), h4, RepVs.dropG _ _ b h5⟩
theorem Ext.drop {ι' : Loc} {H' : Hp} {n : Nat} (e : Ext ι H ι' H') (hn : ι.ad.length ≤ n) : Ext ι H ⟨ι'.ad.take n, ι'.av⟩ H' := by
  obtain ⟨x, hx⟩ := e.pre
  refine ⟨⟨x.take (n - ι.ad.length), ?_⟩, e.av, fun a h => e.newd a (List.mem_of_mem_take h), e.newv, e.keep, e.stay⟩
  show ι'.ad.take n = _
  rw [hx, List.take_append, List.take_of_length_le hn]
end

/-- what is promised, of what is computed: garbage may lie behind -/
def Clean (h : DH) : Prop := ∀ o ∈ h, o.und h.length
def Cov (h : DH) (sp r : Res D) : Prop := match sp with
  | .bad => True
  | .ok d h' => r = .ok d h' ∨ ∃ g, r = .ok d (h' ++ g) ∧ h.length ≤ h'.length ∧ d.und h'.length ∧ (Clean h → Clean h')
  | .err x h' => r = .err x h' ∨ ∃ g, r = .err x (h' ++ g) ∧ h.length ≤ h'.length ∧ D.unds h'.length (x.fs.map (·.2)) ∧ (Clean h → Clean h')
mutual
theorem RepV.und {K : Fg} {ι : Loc} {H : Hp} : ∀ (d : D) (v : V), RepV K ι H d v → d.und ι.ad.length
  | .non, v, h => trivial
  | .bl b, v, h => trivial
  | .int i, v, h => trivial
  | .str x, v, h => trivial
  | .tup ds, v, h => by
    obtain ⟨a, xs, h1, h2, h3⟩ := h
    exact RepVs.und ds xs h3
  | .lst ds, v, h => by
    obtain ⟨a, xs, h1, h2, h3⟩ := h
    exact RepVs.und ds xs h3
  | .fls ds, v, h => by
    obtain ⟨a, xs, h1, h2, h3⟩ := h
    exact RepVs.und ds xs h3
  | .ref i, v, h => by
    obtain ⟨a, h1, h2⟩ := h
    exact (List.getElem?_eq_some_iff.mp h2).1
  | .opq u, v, h => trivial
  | .exc x ns ds, v, h => by
    obtain ⟨a, xs, h1, h2, h3⟩ := h
    exact RepVs.und ds xs h3
theorem RepVs.und {K : Fg} {ι : Loc} {H : Hp} : ∀ (ds : List D) (xs : List V), RepVs K ι H ds xs → D.unds ι.ad.length ds
  | [], xs, h => trivial
  | d :: ds, xs, h => by
    obtain ⟨x, r, h1, h2, h3⟩ := h
    exact ⟨RepV.und d x h2, RepVs.und ds r h3⟩
end
theorem RepO.und {K : Fg} {ι : Loc} {H : Hp} {a : Addr} : ∀ {o : DO}, RepO K ι H a o → o.und ι.ad.length
  | .lst _, ⟨xs, q, r⟩ => RepVs.und _ _ r
  | .dK _, ⟨ws, q, z, r⟩ => RepVs.und _ _ r
  | .ins _ _, ⟨dx, ws, q, z, r⟩ => RepVs.und _ _ r
theorem RepH.clean {K : Fg} {ι : Loc} {H : Hp} {h : DH} (r : RepH K ι H h) : Clean h := fun o ho => by
  obtain ⟨i, hi⟩ := List.getElem?_of_mem ho
  obtain ⟨a, k1, k2⟩ := r.addr hi
  have := k2.und
  rw [r.len] at this
  exact this
theorem PostC.cov {K : Fg} {ι : Loc} {H : Hp} {h : DH} {Q : VK} {E : XK} {sp r : Res D} (rh : RepH K ι H h) (c : Cov h sp r) (p : PostC K ι H Q E sp) : PostC K ι H Q E r := by
  cases sp with
  | bad => exact p.elim
  | ok d h' =>
    rcases c with rfl | ⟨g, rfl, h1, h2, h3⟩
    · exact p
    · intro ι' v H' e rh' rv
      exact p _ v H' (e.drop (by rw [rh.len]; exact h1)) (rh'.drop (h3 rh.clean)) (RepV.drop d v h2 rv)
  | err x h' =>
    rcases c with rfl | ⟨g, rfl, h1, h2, h3⟩
    · exact p
    · intro ι' cls dx H' e rh' rx
      exact p _ cls dx H' (e.drop (by rw [rh.len]; exact h1)) (rh'.drop (h3 rh.clean)) (RepX.drop h2 rx)
/-- a def's body on its arguments -/
def SRes.toR : SRes → Res D
  | .nx _ h => .ok .non h
  | .rt d h => .ok d h
  | .err x _ h => .err x h
  | _ => .bad
def start (n : Nat) (ds : List D) : SS := ds.map some ++ List.replicate (n - ds.length) none
def run (T : Tab) (n : Nat) (c : CSs) (ds : List D) (h : DH) : Res D := (semSs T c (start n ds) h).toR
/-- the table of what is around, over a base -/
structure TabOk (P : Program) (w : World) (K : Fg) (mg : Str → Option Value) (base : Heap) (k : Nat) (T : Tab) : Prop where
  fns : ∀ e : Ent, e ∈ T.fns → ∃ (f : Addr) (fd : FuncData) (ps : List Str), FnOk P w K mg base (L2.CX P w) k f fd ps (spD K e.np e.sem) ∧ mg e.name = some (.ref f) ∧ PySem.W.keepIn K (.ref f) = true ∧ Binds K fd ps []
  cs : ∀ p : Str × D, p ∈ T.cs → ∃ (v : V) (u : Value), mg p.1 = some u ∧ RelV v u ∧ ∀ ι H, RepV K ι H p.2 v
  bl : ∀ x : Str, x ∈ T.bl → mg x = none
  xs : ∀ e : XEnt, e ∈ T.xs → ∃ (C fI : Addr) (fd : FuncData) (ps : List Str) (j : Nat), XFacts P w K mg base j e C fI fd ps ∧ j + 1 ≤ k
  x0 : ∀ x : Str, x ∈ T.x0 → ∃ C : Addr, PySem.W.excIn K C [.type "ValueError", .type "Exception", .type "BaseException", .type "object"] "ValueError.__new__" = true ∧ PySem.W.nsIn K mainGlobals x = some (some (.ref C)) ∧ mg x = some (.ref C) ∧ PySem.W.keepIn K (.ref C) = true
  ix : ∀ cn : Str, (∃ p ∈ T.isx, p.2.1 = cn) → ∃ (c : V) (cv : Value), (∀ u, L2.RelV c u → u = cv) ∧ ((mg cn = some cv ∧ L2.RelV c cv) ∨ (mg cn = none ∧ ∃ n, bootBuiltins cn = some (.type n) ∧ c = .ty n)) ∧
    ∀ p ∈ T.isx, p.2.1 = cn → ∃ C, PySem.W.nsIn K mainGlobals p.1 = some (some (.ref C)) ∧ ExcC K C ∧ PySem.W.kitOne K (.ref C) cv = some p.2.2
theorem rep_start {K : Fg} {ι : Loc} {H : Hp} {ds : List D} {vs : List V} {N : List Str} (r : RepVs K ι H ds vs) : RepS K ι H (start N.length ds) (L2.start N vs) := by
  have l := r.length
  unfold start L2.start
  refine ⟨by simp [l], fun i d q => ?_⟩
  by_cases hi : i < ds.length
  · rw [List.getElem?_append_left (by simpa using hi), List.getElem?_map] at q
    cases z : ds[i]? with
    | none => rw [z] at q; cases q
    | some d' =>
      rw [z] at q
      cases q
      obtain ⟨v, h1, h2⟩ := r.get z
      exact ⟨v, by rw [List.getElem?_append_left (by simp; omega), List.getElem?_map, h1]; rfl, h2⟩
  · rw [List.getElem?_append_right (by simpa using hi)] at q
    rw [List.getElem?_replicate] at q
    split at q <;> cases q
theorem TabOk.gx {P : Program} {w : World} {K : Fg} {mg : Str → Option Value} {base : Heap} {k : Nat} {T : Tab} {X : Cx} {W : WX} {N : List Str} {sc : Scope} (t : TabOk P w K mg base k T) (eP : X.prog = P) (ew : X.w = w) (eK : X.K = K) (em : X.mg = mg) (eb : X.base = base) (eN : X.N = N) (nd : X.N.Nodup)
    (es : X.env.scope = sc) (calm : X.calm = true) (tk : Takes X W) (hr : Room k X.A) (lm : T.lams ≠ [] → ∃ k c P, LamF T X.N X k c P) : GX T N sc X W := by
  subst eP ew eK em eb
  exact { N := eN, nd := nd, sc := es, hu := (by have u := hr.un; omega), calm := calm, tk := tk, fns := fun e q => (by
            obtain ⟨f, fd, ps, h1, h2, h3, h4⟩ := t.fns e q
            exact ⟨f, fd, ps, k, h1, hr, h2, h3, h4⟩),
          cs := t.cs, bl := t.bl, xs := fun e q => (by
            obtain ⟨C, fI, fd, ps, j, F, hj⟩ := t.xs e q
            exact ⟨C, fI, fd, ps, j, F, hr.mono hj⟩), lm := lm, x0 := t.x0, ix := t.ix }
theorem GX.gs {T : Tab} {N : List Str} {sc : Scope} {X : Cx} {W : WX} (g : GX T N sc X W) (fn : ∀ y, X.fn y = true) (kd : X.env.scope.kind = .function) (po : PassesOwn (model X.prog X.w) X.A X.env X.xe) (stk : X.stack = X.env :: X.outer) (frm : X.env.frame = some X.env.locals) : GS T N sc X W :=
  { g with fn := fn, kd := kd, po := po, stk := stk, frm := frm }
/-- what a lambda's body computes -/
theorem lam_snd {P : Program} {w : World} {K : Fg} {mg : Str → Option Value} {base : Heap} {k : Nat} {T0 : Tab} {N : List Str} (t : TabOk P w K mg base k T0) (h0 : T0.lams = []) (b : CE) (scope : Scope) (body : Expr) (Y : Cx) (W' : WX) (h : isE N T0 scope b body = true)
    (eP : Y.prog = P) (ew : Y.w = w) (eK : Y.K = K) (em : Y.mg = mg) (eb : Y.base = base) (eN : Y.N = N) (nd : Y.N.Nodup) (es : Y.env.scope = scope) (calm : Y.calm = true) (tk : Takes Y W') (hr : Room k Y.A) : DE Y W' body (semE T0 b) :=
  isE_ok b scope Y W' body (t.gx eP ew eK em eb eN nd es calm tk hr fun n => absurd h0 n) h
/-- the promise of what the code computes -/
theorem spD_of {P : Program} {w : World} {K : Fg} {mg : Str → Option Value} {base : Heap} {qual : Str} {st : Stmt} {f : Addr} {N : List Str} {np : Nat} {T : Tab} {c : CSs} {sem : List D → DH → Res D} {cdv : Value} {A : Around} {outer : List Env} {s : Shared} {H : Hp} {vs : List V} {Q : VK} {E : XK}
    (g : GS T N (defScope st) (cxOf (L2.CX P w) P w K mg base N qual (defScope st) f cdv A outer s H E) (fun cls d _ H => E cls d H)) (hc : isSs N T (defScope st) c (defBody st) = true)
    (hs : ∀ ds h, ds.length = np → Cov h (sem ds h) (run T N.length c ds h)) (h : spD K np sem vs H Q E) :
    ∃ t, PSs (cxOf (L2.CX P w) P w K mg base N qual (defScope st) f cdv A outer s H E) (defBody st) t ∧ t { nx := fun _ H' => Q .non H', rt := Q } (L2.start N vs) H := by
  obtain ⟨ι, ds, h, rv, rh, hl, p⟩ := h
  refine ⟨_, isSs_ok c _ _ (defBody st) g hc, ι, start N.length ds, h, rep_start rv, rh, ?_⟩
  have p := PostC.cov rh (hs ds h hl) p
  unfold run at p
  cases e : semSs T c (start N.length ds) h with
  | nx s h' => rw [e] at p; exact fun ι' σ' H' e1 _ rh' => p ι' .non H' e1 rh' rfl
  | rt d h' => rw [e] at p; exact fun ι' v H' e1 rh' rv' => p ι' v H' e1 rh' rv'
  | err x s h' => rw [e] at p; exact fun ι' σ' cls dx H' e1 _ rh' rx => p ι' cls dx H' e1 rh' rx
  | bk _ _ => rw [e] at p; exact p.elim
  | ct _ _ => rw [e] at p; exact p.elim
  | bad => rw [e] at p; exact p.elim
theorem def_ok {P : Program} {w : World} {K : Fg} {mg : Str → Option Value} {base : Heap} {x qual : Str} {st : Stmt} {f : Addr} {fd : FuncData} {N ps : List Str} {k np : Nat} {T : Tab} {c : CSs} {sem : List D → DH → Res D}
    (F : Fun K x qual st f fd) (S : FnScope N ps (defScope st)) (hnp : ps.length = np) (t : TabOk P w K mg base k T) (hlm : T.lams = []) (hc : isSs N T (defScope st) c (defBody st) = true)
    (hs : ∀ ds h, ds.length = np → Cov h (sem ds h) (run T N.length c ds h)) : FnOk P w K mg base (L2.CX P w) (k + 1) f fd ps (spD K np sem) := by
  refine F.okX S (fun vs H Q E h => ?_) (fun cdv A outer s H vs Q E hr h => ?_)
  · obtain ⟨ι, ds, h, rv, _, hl, _⟩ := h
    rw [hnp, ← hl, rv.length]
  · exact spD_of (GX.gs (t.gx rfl rfl rfl rfl rfl rfl S.nd rfl rfl (takes_of rfl rfl rfl rfl) hr (fun n => absurd hlm n)) (fun _ => rfl) S.kind (passes_of rfl) rfl rfl) hc hs h
/-- .. of a def that makes lambdas -/
theorem def_okL {P : Program} {w : World} {K : Fg} {mg : Str → Option Value} {base : Heap} {x qual : Str} {st : Stmt} {f cc PT : Addr} {oc kV doc pm ct : Value} {od an : Option Addr} {osl : Array (Option Value)} {N ps : List Str} {k np : Nat} {T T0 : Tab} {bs : List CE} {c : CSs} {sem : List D → DH → Res D}
    (lk : K.lookup f = some ⟨oc, od, .func (PySem.W.fnOf x qual (defArgs st) (defBody st) (defScope st) .none kV doc pm an (.ref cc) ct), osl⟩) (hcd : PySem.W.codeIn K (.ref cc) qual = true)
    (S : FnScope N ps (defScope st)) (hnp : ps.length = np) (t : TabOk P w K mg base (k + 2) T) (t0 : TabOk P w K mg base k T0) (h0 : T0.lams = []) (hlm : T.lams = bs.map fun b => ⟨semE T0 b, fun sc e => isE N T0 sc b e⟩)
    (tb : LamX.TabB base mg cc PT) (hm : (PT, qual ++ ".<locals>." ++ "<lambda>") ∈ Tbs.l) (hu : ∀ p ∈ Tbs.l, p.1 = PT → p.2 = qual ++ ".<locals>." ++ "<lambda>") (htk : ∀ t ∈ T.tks, TkSat K mg t) (hc : isSs N T (defScope st) c (defBody st) = true)
    (hs : ∀ ds h, ds.length = np → Cov h (sem ds h) (run T N.length c ds h)) : FnOk P w K mg base (L2.CX P w) (k + 3) f (PySem.W.fnOf x qual (defArgs st) (defBody st) (defScope st) .none kV doc pm an (.ref cc) ct) ps (spD K np sem) := by
  refine fn_of lk hcd S (fun vs H Q E h => ?_) (fun A outer s H vs Q E hr h => ?_)
  · obtain ⟨ι, ds, h, rv, _, hl, _⟩ := h
    rw [hnp, ← hl, rv.length]
  · refine spD_of (GX.gs (t.gx rfl rfl rfl rfl rfl rfl S.nd rfl rfl (takes_of rfl rfl rfl rfl) hr (fun _ => ⟨k, cc, PT, rfl, tb, hm, hu, hr, fun l hl scope body Y W' => ?_, htk⟩)) (fun _ => rfl) S.kind (passes_of rfl) rfl rfl) hc hs h
    rw [hlm] at hl
    obtain ⟨b, _, rfl⟩ := List.mem_map.mp hl
    exact lam_snd t0 h0 b scope body Y W'
end DL
end

section
set_option maxHeartbeats 2000000
/-! reckoning with what is computed -/
namespace DL
open PySem PySem.Spec PyProof.Rows L2



/-! ### shapes that reckon well -/
def condO {α : Type} (o : Option Bool) (x y : Res α) : Res α := match o with
  | some true => x
  | some false => y
  | none => .bad
def SRes.seq (r : SRes) (k : SS → DH → SRes) : SRes := match r with
  | .nx s h => k s h
  | r => r
section
variable {α β : Type} {p : Prop} [Decidable p]
theorem condO_some (k : Bool) (x y : Res α) : condO (some k) x y = if k = true then x else y := by cases k <;> rfl
theorem condO_none (x y : Res α) : condO none x y = .bad := rfl
theorem bind_ite (x y : Res α) (k : α → DH → Res β) : (if p then x else y).bind k = if p then x.bind k else y.bind k := by split <;> rfl
theorem toS_ite (x y : Res α) (s : SS) (k : α → DH → SRes) : (if p then x else y).toS s k = if p then x.toS s k else y.toS s k := by split <;> rfl
theorem seq_nx (s : SS) (h : DH) (k : SS → DH → SRes) : (SRes.nx s h).seq k = k s h := rfl
theorem seq_rt (d : D) (h : DH) (k : SS → DH → SRes) : (SRes.rt d h).seq k = .rt d h := rfl
theorem seq_bk (s : SS) (h : DH) (k : SS → DH → SRes) : (SRes.bk s h).seq k = .bk s h := rfl
theorem seq_ct (s : SS) (h : DH) (k : SS → DH → SRes) : (SRes.ct s h).seq k = .ct s h := rfl
theorem seq_err (x : Exn) (s : SS) (h : DH) (k : SS → DH → SRes) : (SRes.err x s h).seq k = .err x s h := rfl
theorem seq_bad (k : SS → DH → SRes) : SRes.bad.seq k = .bad := rfl
theorem seq_ite (x y : SRes) (k : SS → DH → SRes) : (if p then x else y).seq k = if p then x.seq k else y.seq k := by split <;> rfl
theorem toR_nx (s : SS) (h : DH) : (SRes.nx s h).toR = .ok .non h := rfl
theorem toR_rt (d : D) (h : DH) : (SRes.rt d h).toR = .ok d h := rfl
theorem toR_err (x : Exn) (s : SS) (h : DH) : (SRes.err x s h).toR = .err x h := rfl
theorem toR_bad : SRes.bad.toR = .bad := rfl
theorem toR_ite (x y : SRes) : (if p then x else y).toR = if p then x.toR else y.toR := by split <;> rfl
theorem sseq_c (a b : MS) (s : SS) (h : DH) : sseq a b s h = (a s h).seq b := by
  unfold sseq SRes.seq
  cases a s h <;> rfl
theorem vand_c (a b : M D) (s : SS) (h : DH) : vand a b s h = (a s h).bind fun x h1 => condO (truD h1 x) (b s h1) (.ok x h1) := by
  unfold vand bnd condO
  cases a s h <;> try rfl
theorem vor_c (a b : M D) (s : SS) (h : DH) : vor a b s h = (a s h).bind fun x h1 => condO (truD h1 x) (.ok x h1) (b s h1) := by
  unfold vor bnd condO
  cases a s h <;> try rfl
theorem chain_c (f g : F2) (a b c : M D) (s : SS) (h : DH) : chain f g a b c s h = (a s h).bind fun x h1 => (b s h1).bind fun y h2 => condO (boolO (f h2 x y)) ((c s h2).bind fun z h3 => ofO ((boolO (g h3 y z)).map .bl) h3) (.ok (.bl false) h2) := by
  unfold chain bnd condO
  cases a s h with
  | ok x h1 =>
    simp only [bind_ok]
    all_goals (cases b s h1 with
    | ok y h2 => (simp only [bind_ok]; all_goals rfl)
    | err _ _ => rfl
    | bad => rfl)
  | err _ _ => rfl
  | bad => rfl
theorem chainT_c (f g : F2) (a b c : M D) (s : SS) (h : DH) : chainT f g a b c s h = (a s h).bind fun x h1 => (b s h1).bind fun y h2 => condO (boolO (f h2 x y)) ((c s h2).bind fun z h3 => ofO (boolO (g h3 y z)) h3) (.ok false h2) := by
  unfold chainT bnd condO
  cases a s h with
  | ok x h1 =>
    simp only [bind_ok]
    all_goals (cases b s h1 with
    | ok y h2 => (simp only [bind_ok]; all_goals rfl)
    | err _ _ => rfl
    | bad => rfl)
  | err _ _ => rfl
  | bad => rfl
theorem tand_c (a b : M Bool) (s : SS) (h : DH) : tand a b s h = (a s h).bind fun c h1 => if c = true then b s h1 else .ok false h1 := by
  unfold tand bnd mret
  cases a s h with
  | ok c h1 => simp only [bind_ok]; split <;> rfl
  | err _ _ => rfl
  | bad => rfl
theorem tor_c (a b : M Bool) (s : SS) (h : DH) : tor a b s h = (a s h).bind fun c h1 => if c = true then .ok true h1 else b s h1 := by
  unfold tor bnd mret
  cases a s h with
  | ok c h1 => simp only [bind_ok]; split <;> rfl
  | err _ _ => rfl
  | bad => rfl
theorem mif_c (c : M Bool) (a b : M D) (s : SS) (h : DH) : mif c a b s h = (c s h).bind fun k h1 => if k = true then a s h1 else b s h1 := by
  unfold mif bnd
  cases c s h with
  | ok c h1 => simp only [bind_ok]; split <;> rfl
  | err _ _ => rfl
  | bad => rfl
theorem put_nm (i : Nat) (d : D) (s : SS) : Tg.put (.nm i) d s = some (s.set i (some d)) := by simp only [Tg.put]
theorem put_tp (ts : List Tg) (ds : List D) (s : SS) : Tg.put (.tp ts) (.tup ds) s = Tg.puts ts ds s := by simp only [Tg.put]
theorem puts_nil (s : SS) : Tg.puts [] [] s = some s := by simp only [Tg.puts]
theorem puts_cons (t : Tg) (ts : List Tg) (d : D) (ds : List D) (s : SS) : Tg.puts (t :: ts) (d :: ds) s = match Tg.put t d s with
    | some s1 => Tg.puts ts ds s1
    | none => none := by
  simp only [Tg.puts]
  try rfl
theorem truD_bl (h : DH) (k : Bool) : truD h (.bl k) = some k := rfl
theorem truD_int (h : DH) (i : Int) : truD h (.int i) = some (i != 0) := rfl
theorem truD_non (h : DH) : truD h .non = some false := rfl
theorem boolO_bl (k : Bool) : boolO (some (.bl k)) = some k := rfl
theorem bin_add_int (h : DH) (i j : Int) : binD .Add h (.int i) (.int j) = some (.int (i + j)) := rfl
theorem bin_sub_int (h : DH) (i j : Int) : binD .Sub h (.int i) (.int j) = some (.int (i - j)) := rfl
theorem bin_mod_int (h : DH) (i j : Int) (hj : 0 < j) : binD .Mod h (.int i) (.int j) = some (.int (i % j)) := by
  show (if 0 < j then _ else none) = _
  rw [if_pos hj]
theorem bin_mul_int (h : DH) (i j : Int) (c : CMul i j) : binD .Mult h (.int i) (.int j) = some (.int (i * j)) := by
  show fOr (fI CMul fun i j => .int (i * j)) _ h (.int i) (.int j) = _
  unfold fOr fI
  simp only [if_pos c]
theorem bin_div_int (h : DH) (i j : Int) (hj : 0 < j ∧ j < 1073741824) : binD .FloorDiv h (.int i) (.int j) = some (.int (i / j)) := by
  show fOr (fI CDiv fun i j => .int (i / j)) _ h (.int i) (.int j) = _
  unfold fOr fI
  have c : CDiv i j := hj
  simp only [if_pos c]
theorem bin_pow_int (h : DH) (i j : Int) (c : CPow i j) : binD .Pow h (.int i) (.int j) = some (.int (i ^ j.toNat)) := by
  show (if CPow i j then _ else none) = _
  rw [if_pos c]
theorem cmp_le_int (h : DH) (i j : Int) : cmpD .LtE h (.int i) (.int j) = some (.bl (decide (i ≤ j))) := rfl
theorem cmp_lt_int (h : DH) (i j : Int) : cmpD .Lt h (.int i) (.int j) = some (.bl (decide (i < j))) := rfl
theorem cmp_ge_int (h : DH) (i j : Int) : cmpD .GtE h (.int i) (.int j) = some (.bl (decide (j ≤ i))) := rfl
theorem cmp_gt_int (h : DH) (i j : Int) : cmpD .Gt h (.int i) (.int j) = some (.bl (decide (j < i))) := rfl
theorem ne_of {h : DH} {x y z : D} (e : fNe h x y = some z) : cmpD .NotEq h x y = some z := by
  show fOr fNe fNeK h x y = _
  unfold fOr
  rw [e]
theorem eq_of {h : DH} {x y z : D} (e : fEq h x y = some z) : cmpD .Eq h x y = some z := by
  show fOr fEq fEqK h x y = _
  unfold fOr
  rw [e]
theorem cmp_eq_int (h : DH) (i j : Int) : cmpD .Eq h (.int i) (.int j) = some (.bl (i == j)) := rfl
theorem cmp_ne_int (h : DH) (i j : Int) : cmpD .NotEq h (.int i) (.int j) = some (.bl (!(i == j))) := rfl
theorem cmp_ne_bl (h : DH) (i j : Bool) : cmpD .NotEq h (.bl i) (.bl j) = some (.bl (!(i == j))) := rfl
theorem cmp_is_non (h : DH) (d : D) (v : d.sure = true) : cmpD .Is h d .non = some (.bl d.isNon) := by
  have e : fIs h d .non = some (.bl d.isNon) := by
    unfold fIs
    rw [if_pos v]
  show fOr fIs fIsB h d .non = _
  unfold fOr
  rw [e]
theorem cmp_is_bl (h : DH) (a b : Bool) : cmpD .Is h (.bl a) (.bl b) = some (.bl (decide (a = b))) := rfl
theorem cmp_isnot_bl (h : DH) (a b : Bool) : cmpD .IsNot h (.bl a) (.bl b) = some (.bl (!decide (a = b))) := rfl
end
/-! ### isinstance -/
theorem kit_int_int : kitB "int" "int" = some true := by decide +kernel
theorem kit_bool_int : kitB "bool" "int" = some true := by decide +kernel
theorem kit_str_int : kitB "str" "int" = some false := by decide +kernel
theorem kit_non_int : kitB "NoneType" "int" = some false := by decide +kernel
theorem kit_tup_int : kitB "tuple" "int" = some false := by decide +kernel
theorem kit_lst_int : kitB "list" "int" = some false := by decide +kernel
theorem kit_int_bool : kitB "int" "bool" = some false := by decide +kernel
theorem kit_bool_bool : kitB "bool" "bool" = some true := by decide +kernel
theorem kit_str_bool : kitB "str" "bool" = some false := by decide +kernel
theorem kit_non_bool : kitB "NoneType" "bool" = some false := by decide +kernel
theorem kit_tup_bool : kitB "tuple" "bool" = some false := by decide +kernel
theorem kit_lst_bool : kitB "list" "bool" = some false := by decide +kernel
theorem kit_int_str : kitB "int" "str" = some false := by decide +kernel
theorem kit_bool_str : kitB "bool" "str" = some false := by decide +kernel
theorem kit_str_str : kitB "str" "str" = some true := by decide +kernel
theorem kit_non_str : kitB "NoneType" "str" = some false := by decide +kernel
theorem kit_tup_str : kitB "tuple" "str" = some false := by decide +kernel
theorem kit_lst_str : kitB "list" "str" = some false := by decide +kernel
theorem kit_int_tuple : kitB "int" "tuple" = some false := by decide +kernel
theorem kit_bool_tuple : kitB "bool" "tuple" = some false := by decide +kernel
theorem kit_str_tuple : kitB "str" "tuple" = some false := by decide +kernel
theorem kit_non_tuple : kitB "NoneType" "tuple" = some false := by decide +kernel
theorem kit_tup_tuple : kitB "tuple" "tuple" = some true := by decide +kernel
theorem kit_lst_tuple : kitB "list" "tuple" = some false := by decide +kernel
theorem kit_int_list : kitB "int" "list" = some false := by decide +kernel
theorem kit_bool_list : kitB "bool" "list" = some false := by decide +kernel
theorem kit_str_list : kitB "str" "list" = some false := by decide +kernel
theorem kit_non_list : kitB "NoneType" "list" = some false := by decide +kernel
theorem kit_tup_list : kitB "tuple" "list" = some false := by decide +kernel
theorem kit_lst_list : kitB "list" "list" = some true := by decide +kernel
/-- no changing object, no thing of the text -/
def D.val : D → Bool
  | .ref _ => false
  | .opq _ => false
  | .exc _ _ _ => false
  | _ => true
def D.isInt : D → Bool
  | .int _ => true
  | _ => false
def D.isBool : D → Bool
  | .bl _ => true
  | _ => false
def D.isStr : D → Bool
  | .str _ => true
  | _ => false
def D.isTup : D → Bool
  | .tup _ => true
  | _ => false
def D.isLst : D → Bool
  | .lst _ => true
  | .fls _ => true
  | _ => false
section
variable {h : DH} {d : D}
theorem isi_int (v : d.val = true) : fIsi h [d, .opq (.ty "int")] = some (.bl (d.isInt || d.isBool)) := by
  cases d <;> simp [D.val] at v <;> simp [fIsi, D.tyo, D.isInt, D.isBool, kit_int_int, kit_bool_int, kit_str_int, kit_non_int, kit_tup_int, kit_lst_int]
theorem isi_bool (v : d.val = true) : fIsi h [d, .opq (.ty "bool")] = some (.bl d.isBool) := by
  cases d <;> simp [D.val] at v <;> simp [fIsi, D.tyo, D.isInt, D.isBool, kit_int_bool, kit_bool_bool, kit_str_bool, kit_non_bool, kit_tup_bool, kit_lst_bool]
theorem isi_str (v : d.val = true) : fIsi h [d, .opq (.ty "str")] = some (.bl d.isStr) := by
  cases d <;> simp [D.val] at v <;> simp [fIsi, D.tyo, D.isStr, kit_int_str, kit_bool_str, kit_str_str, kit_non_str, kit_tup_str, kit_lst_str]
theorem isi_tuple (v : d.val = true) : fIsi h [d, .opq (.ty "tuple")] = some (.bl d.isTup) := by
  cases d <;> simp [D.val] at v <;> simp [fIsi, D.tyo, D.isTup, kit_int_tuple, kit_bool_tuple, kit_str_tuple, kit_non_tuple, kit_tup_tuple, kit_lst_tuple]
theorem isi_list (v : d.val = true) : fIsi h [d, .opq (.ty "list")] = some (.bl d.isLst) := by
  cases d <;> simp [D.val] at v <;> simp [fIsi, D.tyo, D.isLst, kit_int_list, kit_bool_list, kit_str_list, kit_non_list, kit_tup_list, kit_lst_list]
theorem isiT_tl (v : d.val = true) : fIsiT h [d, .tup [.opq (.ty "tuple"), .opq (.ty "list")]] = some (.bl (d.isTup || d.isLst)) := by
  cases d <;> simp [D.val] at v <;> simp [fIsiT, D.tyo, D.tyns, D.tyn, kitAll, D.isLst, D.isTup, kit_int_list, kit_bool_list, kit_str_list, kit_non_list, kit_tup_list, kit_lst_list, kit_int_tuple, kit_bool_tuple, kit_str_tuple, kit_non_tuple, kit_tup_tuple, kit_lst_tuple]
end
end DL
end

section
set_option maxHeartbeats 2000000
/-! what holds behind what is computed -/
namespace DL
open PySem PySem.Spec PyProof.Rows L2

def Res.wp {α : Type} (r : Res α) (Q : α → DH → Prop) : Prop := match r with
  | .ok a h => Q a h
  | _ => False
structure Kont where
  nx : SS → DH → Prop
  rt : D → DH → Prop
  bk : SS → DH → Prop
  ct : SS → DH → Prop
def SRes.wp (r : SRes) (K : Kont) : Prop := match r with
  | .nx s h => K.nx s h
  | .rt d h => K.rt d h
  | .bk s h => K.bk s h
  | .ct s h => K.ct s h
  | _ => False
section
variable {α β : Type} {p : Prop} [Decidable p]
theorem Res.wp_ok (a : α) (h : DH) (Q : α → DH → Prop) : (Res.ok a h).wp Q = Q a h := propext Iff.rfl
theorem Res.wp_err (x : Exn) (h : DH) (Q : α → DH → Prop) : (Res.err x h).wp Q = False := propext Iff.rfl
theorem Res.wp_bad (Q : α → DH → Prop) : (Res.bad : Res α).wp Q = False := propext Iff.rfl
theorem Res.wp_bind (r : Res α) (k : α → DH → Res β) (Q : β → DH → Prop) : (r.bind k).wp Q = r.wp fun a h => (k a h).wp Q := by cases r <;> rfl
theorem Res.wp_ite (x y : Res α) (Q : α → DH → Prop) : (if p then x else y).wp Q = if p then x.wp Q else y.wp Q := by split <;> rfl
theorem Res.wp_condO (k : Bool) (x y : Res α) (Q : α → DH → Prop) : (condO (some k) x y).wp Q = if k = true then x.wp Q else y.wp Q := by cases k <;> rfl
theorem Res.wp_mono {r : Res α} {Q Q' : α → DH → Prop} (h : r.wp Q) (i : ∀ a h, Q a h → Q' a h) : r.wp Q' := by
  cases r with
  | ok a h1 => exact i a h1 h
  | err _ _ => exact h
  | bad => exact h
theorem SRes.wp_nx (s : SS) (h : DH) (K : Kont) : (SRes.nx s h).wp K = K.nx s h := propext Iff.rfl
theorem SRes.wp_rt (d : D) (h : DH) (K : Kont) : (SRes.rt d h).wp K = K.rt d h := propext Iff.rfl
theorem SRes.wp_bk (s : SS) (h : DH) (K : Kont) : (SRes.bk s h).wp K = K.bk s h := propext Iff.rfl
theorem SRes.wp_ct (s : SS) (h : DH) (K : Kont) : (SRes.ct s h).wp K = K.ct s h := propext Iff.rfl
theorem SRes.wp_err (x : Exn) (s : SS) (h : DH) (K : Kont) : (SRes.err x s h).wp K = False := propext Iff.rfl
theorem SRes.wp_bad (K : Kont) : SRes.bad.wp K = False := propext Iff.rfl
theorem SRes.wp_toS (r : Res α) (s : SS) (k : α → DH → SRes) (K : Kont) : (r.toS s k).wp K = r.wp fun a h => (k a h).wp K := by cases r <;> rfl
theorem SRes.wp_seq (r : SRes) (k : SS → DH → SRes) (K : Kont) : (r.seq k).wp K = r.wp { K with nx := fun s h => (k s h).wp K } := by cases r <;> rfl
theorem SRes.wp_ite (x y : SRes) (K : Kont) : (if p then x else y).wp K = if p then x.wp K else y.wp K := by split <;> rfl
theorem Res.wp_toR (r : SRes) (Q : D → DH → Prop) : r.toR.wp Q = r.wp ⟨fun _ h => Q .non h, Q, fun _ _ => False, fun _ _ => False⟩ := by cases r <;> rfl
theorem SRes.wp_mono {r : SRes} {K K' : Kont} (h : r.wp K) (i1 : ∀ s h, K.nx s h → K'.nx s h) (i2 : ∀ s h, K.rt s h → K'.rt s h) (i3 : ∀ s h, K.bk s h → K'.bk s h) (i4 : ∀ s h, K.ct s h → K'.ct s h) : r.wp K' := by
  cases r with
  | nx s h1 => exact i1 _ _ h
  | rt s h1 => exact i2 _ _ h
  | bk s h1 => exact i3 _ _ h
  | ct s h1 => exact i4 _ _ h
  | err _ _ _ => exact h
  | bad => exact h
end
/-- a computation that holds comes to a result -/
theorem Res.wp_is {α : Type} {r : Res α} {Q : α → DH → Prop} (h : r.wp Q) : ∃ a h', r = .ok a h' ∧ Q a h' := by
  cases r with
  | ok a h1 => exact ⟨a, h1, rfl, h⟩
  | err _ _ => exact h.elim
  | bad => exact h.elim
/-! ### loops -/
/-- for: an invariant of what was walked -/
theorem wp_for {it : IT} {t : Tg} {body : MS} {K : Kont} (P : Nat → SS → DH → Prop) (n : Nat) (ds : Nat → D)
    (hg : ∀ i s h, P i s h → i < n → it.get i h = some (some (ds i))) (he : ∀ s h, P n s h → it.get n h = some none)
    (hb : ∀ i s h, P i s h → i < n → ∃ s2, t.put (ds i) s = some s2 ∧ (body s2 h).wp ⟨P (i + 1), K.rt, K.nx, P (i + 1)⟩)
    (hd : ∀ s h, P n s h → K.nx s h) : ∀ k i s h, P i s h → i ≤ n → n ≤ i + k → (forG it t body k i s h).wp K := by
  intro k
  induction k with
  | zero =>
    intro i s h p hi hk
    have e : i = n := by omega
    subst e
    unfold forG
    rw [he s h p]
    exact hd s h p
  | succ k ih =>
    intro i s h p hi hk
    by_cases e : i = n
    · subst e
      unfold forG
      rw [he s h p]
      exact hd s h p
    · have hlt : i < n := by omega
      unfold forG
      rw [hg i s h p hlt]
      obtain ⟨s2, e2, w⟩ := hb i s h p hlt
      simp only [e2]
      cases q : body s2 h with
      | nx s3 h3 => rw [q] at w; exact ih (i + 1) s3 h3 w (by omega) (by omega)
      | ct s3 h3 => rw [q] at w; exact ih (i + 1) s3 h3 w (by omega) (by omega)
      | bk s3 h3 => rw [q] at w; exact w
      | rt d h3 => rw [q] at w; exact w
      | err _ _ _ => rw [q] at w; exact w
      | bad => rw [q] at w; exact w
/-- over known values -/
theorem wp_forV {ds : List D} {t : Tg} {body : MS} {K : Kont} (P : Nat → SS → DH → Prop)
    (hb : ∀ i d s h, P i s h → ds[i]? = some d → ∃ s2, t.put d s = some s2 ∧ (body s2 h).wp ⟨P (i + 1), K.rt, K.nx, P (i + 1)⟩)
    (hd : ∀ s h, P ds.length s h → K.nx s h) {s : SS} {h : DH} (h0 : P 0 s h) : (forG (itVals ds) t body ds.length 0 s h).wp K := by
  refine wp_for P ds.length (fun i => (ds[i]?).getD .non) (fun i s h _ hi => ?_) (fun s h _ => ?_) (fun i s h p hi => ?_) hd ds.length 0 s h h0 (Nat.zero_le _) (by omega)
  · show some ds[i]? = _
    rw [List.getElem?_eq_getElem hi]; rfl
  · show some ds[ds.length]? = _
    rw [List.getElem?_eq_none (Nat.le_refl _)]
  · refine hb i _ s h p ?_
    rw [List.getElem?_eq_getElem hi]; rfl
/-- over a range -/
theorem wp_forR {lo : Int} {n : Nat} {t : Tg} {body : MS} {K : Kont} (P : Nat → SS → DH → Prop)
    (hb : ∀ i s h, P i s h → i < n → ∃ s2, t.put (.int (lo + i)) s = some s2 ∧ (body s2 h).wp ⟨P (i + 1), K.rt, K.nx, P (i + 1)⟩)
    (hd : ∀ s h, P n s h → K.nx s h) {s : SS} {h : DH} (h0 : P 0 s h) : (forG (itRange lo n) t body n 0 s h).wp K := by
  refine wp_for P n (fun i => .int (lo + i)) (fun i s h _ hi => ?_) (fun s h _ => ?_) hb hd n 0 s h h0 (Nat.zero_le _) (by omega)
  · show some (if i < n then some (D.int (lo + i)) else none) = _
    rw [if_pos hi]
  · show some (if n < n then some (D.int (lo + n)) else none) = _
    rw [if_neg (Nat.lt_irrefl _)]
/-- while: with a measure -/
theorem wp_wh {c : M Bool} {body : MS} {K : Kont} (P : Nat → SS → DH → Prop)
    (hb : ∀ m s h, P m s h → (c s h).wp fun b h1 => if b = true then ∃ j, m = j + 1 ∧ (body s h1).wp ⟨P j, K.rt, K.nx, P j⟩ else K.nx s h1) : ∀ k m s h, P m s h → m ≤ k → (whG c body k s h).wp K := by
  intro k
  induction k with
  | zero =>
    intro m s h p hm
    have w := hb m s h p
    unfold whG
    cases q : c s h with
    | ok b h1 =>
      rw [q] at w
      simp only [Res.wp] at w
      cases b with
      | true =>
        simp only [if_true] at w
        obtain ⟨j, e, _⟩ := w
        omega
      | false => exact w
    | err _ _ => rw [q] at w; exact w
    | bad => rw [q] at w; exact w
  | succ k ih =>
    intro m s h p hm
    have w := hb m s h p
    unfold whG
    cases q : c s h with
    | ok b h1 =>
      rw [q] at w
      simp only [Res.wp] at w
      cases b with
      | true =>
        simp only [if_true] at w
        obtain ⟨j, e, w⟩ := w
        simp only [toS_ok, if_true]
        cases q2 : body s h1 with
        | nx s3 h3 => rw [q2] at w; exact ih j s3 h3 w (by omega)
        | ct s3 h3 => rw [q2] at w; exact ih j s3 h3 w (by omega)
        | bk s3 h3 => rw [q2] at w; exact w
        | rt d h3 => rw [q2] at w; exact w
        | err _ _ _ => rw [q2] at w; exact w
        | bad => rw [q2] at w; exact w
      | false => exact w
    | err _ _ => rw [q] at w; exact w
    | bad => rw [q] at w; exact w
/-- a comprehension: an invariant of what was gathered -/
theorem wp_lc {it : IT} {t : Tg} {tt : M Bool} {te : M D} {s0 : SS} {Q : List D → DH → Prop} (P : Nat → List D → DH → Prop) (n : Nat) (ds : Nat → D) (hn : n ≤ sizeLine)
    (hg : ∀ i acc h, P i acc h → i < n → it.get i h = some (some (ds i))) (he : ∀ acc h, P n acc h → it.get n h = some none)
    (hb : ∀ i acc h, P i acc h → i < n → acc.length ≤ i → ∃ s2, t.put (ds i) s0 = some s2 ∧ (tt s2 h).wp fun b h1 => if b = true then (te s2 h1).wp fun y h2 => P (i + 1) (acc ++ [y]) h2 else P (i + 1) acc h1)
    (hd : ∀ acc h, P n acc h → Q acc h) : ∀ k i acc h, P i acc h → i ≤ n → acc.length ≤ i → n ≤ i + k → (lcG it t tt te s0 k i acc h).wp Q := by
  intro k
  induction k with
  | zero =>
    intro i acc h p hi hl hk
    have e : i = n := by omega
    subst e
    unfold lcG
    rw [he acc h p]
    exact hd acc h p
  | succ k ih =>
    intro i acc h p hi hl hk
    by_cases e : i = n
    · subst e
      unfold lcG
      rw [he acc h p]
      exact hd acc h p
    · have hlt : i < n := by omega
      unfold lcG
      rw [hg i acc h p hlt]
      obtain ⟨s2, e2, w⟩ := hb i acc h p hlt hl
      simp only [e2]
      cases q : tt s2 h with
      | err _ _ => rw [q] at w; exact w
      | bad => rw [q] at w; exact w
      | ok b h1 =>
        rw [q] at w
        cases b with
        | false => exact ih (i + 1) acc h1 (by simpa [Res.wp] using w) (by omega) (by omega) (by omega)
        | true =>
          have w : (te s2 h1).wp fun y h2 => P (i + 1) (acc ++ [y]) h2 := by simpa [Res.wp] using w
          simp only
          cases q2 : te s2 h1 with
          | err _ _ => rw [q2] at w; exact w.elim
          | bad => rw [q2] at w; exact w.elim
          | ok y h2 =>
            rw [q2] at w
            have hz : acc.length < sizeLine := by omega
            simp only [hz, if_true]
            exact ih (i + 1) (acc ++ [y]) h2 w (by omega) (by simp; omega) (by omega)
theorem wp_lcV {ds : List D} {t : Tg} {tt : M Bool} {te : M D} {s0 : SS} {Q : List D → DH → Prop} (P : Nat → List D → DH → Prop) (hn : ds.length ≤ sizeLine)
    (hb : ∀ i d acc h, P i acc h → ds[i]? = some d → acc.length ≤ i → ∃ s2, t.put d s0 = some s2 ∧ (tt s2 h).wp fun b h1 => if b = true then (te s2 h1).wp fun y h2 => P (i + 1) (acc ++ [y]) h2 else P (i + 1) acc h1)
    (hd : ∀ acc h, P ds.length acc h → Q acc h) {h : DH} (h0 : P 0 [] h) : (lcG (itVals ds) t tt te s0 ds.length 0 [] h).wp Q := by
  refine wp_lc P ds.length (fun i => (ds[i]?).getD .non) hn (fun i acc h _ hi => ?_) (fun acc h _ => ?_) (fun i acc h p hi hl => ?_) hd ds.length 0 [] h h0 (Nat.zero_le _) (Nat.le_refl _) (by omega)
  · show some ds[i]? = _
    rw [List.getElem?_eq_getElem hi]; rfl
  · show some ds[ds.length]? = _
    rw [List.getElem?_eq_none (Nat.le_refl _)]
  · refine hb i _ acc h p ?_ hl
    rw [List.getElem?_eq_getElem hi]; rfl
theorem wp_lcR {lo : Int} {n : Nat} {t : Tg} {tt : M Bool} {te : M D} {s0 : SS} {Q : List D → DH → Prop} (P : Nat → List D → DH → Prop) (hn : n ≤ sizeLine)
    (hb : ∀ i acc h, P i acc h → i < n → acc.length ≤ i → ∃ s2, t.put (.int (lo + i)) s0 = some s2 ∧ (tt s2 h).wp fun b h1 => if b = true then (te s2 h1).wp fun y h2 => P (i + 1) (acc ++ [y]) h2 else P (i + 1) acc h1)
    (hd : ∀ acc h, P n acc h → Q acc h) {h : DH} (h0 : P 0 [] h) : (lcG (itRange lo n) t tt te s0 n 0 [] h).wp Q := by
  refine wp_lc P n (fun i => .int (lo + i)) hn (fun i acc h _ hi => ?_) (fun acc h _ => ?_) hb hd n 0 [] h h0 (Nat.zero_le _) (Nat.le_refl _) (by omega)
  · show some (if i < n then some (D.int (lo + i)) else none) = _
    rw [if_pos hi]
  · show some (if n < n then some (D.int (lo + n)) else none) = _
    rw [if_neg (Nat.lt_irrefl _)]
/-- a comprehension over known values whose parts change nothing -/
theorem lc_pure {ds : List D} {t : Tg} {tt : M Bool} {te : M D} {s0 : SS} {h : DH} (p : D → Bool) (f : D → D) (hn : ds.length ≤ sizeLine)
    (hb : ∀ d, d ∈ ds → ∃ s2, t.put d s0 = some s2 ∧ tt s2 h = .ok (p d) h ∧ (p d = true → te s2 h = .ok (f d) h)) : lcG (itVals ds) t tt te s0 ds.length 0 [] h = .ok ((ds.filter p).map f) h := by
  have w : (lcG (itVals ds) t tt te s0 ds.length 0 [] h).wp fun acc h' => acc = (ds.filter p).map f ∧ h' = h := by
    refine wp_lcV (fun i acc h' => acc = ((ds.take i).filter p).map f ∧ h' = h) hn (fun i d acc h' ⟨e1, e2⟩ hd hl => ?_) (fun acc h' ⟨e1, e2⟩ => ⟨by rw [e1, List.take_length], e2⟩) ⟨rfl, rfl⟩
    subst e2
    obtain ⟨s2, k1, k2, k3⟩ := hb d (List.mem_of_getElem? hd)
    refine ⟨s2, k1, ?_⟩
    rw [k2]
    have et : ds.take (i + 1) = ds.take i ++ [d] := by rw [List.take_succ, hd]; rfl
    cases q : p d with
    | true =>
      show (te s2 h').wp _
      rw [k3 q]
      refine ⟨?_, rfl⟩
      rw [et, List.filter_append, List.map_append, ← e1]
      simp [q]
    | false =>
      refine ⟨?_, rfl⟩
      rw [et, List.filter_append, List.map_append, ← e1]
      simp [q]
  obtain ⟨a, h', e, e1, e2⟩ := Res.wp_is w
  rw [e, e1, e2]
def rangeR (ds : List D) (h : DH) : Res IT := match ds with
  | [.int j] => if -(2 ^ 62) ≤ j ∧ j < 2 ^ 62 then .ok (itRange 0 j.toNat) h else .bad
  | _ => .bad
theorem mrange1_c (r : M (List D)) (s : SS) (h : DH) : mrange1 r s h = (r s h).bind fun ds h' => rangeR ds h' := rfl
theorem rangeR_int (h : DH) (v : Int) (h1 : 0 ≤ v) (h2 : v ≤ 1000000) : rangeR [.int v] h = .ok (itRange 0 v.toNat) h := by
  show (if -(2 ^ 62 : Int) ≤ v ∧ v < 2 ^ 62 then Res.ok (itRange 0 v.toNat) h else Res.bad) = _
  rw [if_pos (by constructor <;> omega)]
theorem rangeR_nat (h : DH) (n : Nat) (hn : n ≤ 1000000) : rangeR [.int (n : Int)] h = .ok (itRange 0 n) h := by
  have e := rangeR_int h (n : Int) (by omega) (by omega)
  rw [Int.toNat_natCast] at e
  exact e
end DL
end

section
set_option maxHeartbeats 2000000
/-! the laws' own helpers -/
namespace DL
open PySem PySem.Spec PyProof.Rows L2
def c__law_take : CSs := .cons (.ite (.cmp .Eq (.ix (.slot 0) (.int 0)) (.int 0)) (.cons (.b (.asg (.ix (.bin .Add (.sl (.ix (.slot 0) (.int 3)) (.at (.ix (.slot 0) (.int 2))) (.no)) (.val (.lit (.cons (.int 0) (.nil))))) (.int 0)) (.nm 2))) (.cons (.b (.augS .Add (.slot 0) (.int 2) (.int 1))) (.cons (.ite (.cmp .GtE (.slot 2) (.bin .Pow (.int 10) (.int 18))) (.cons (.b (.sub (.slot 2) (.slot 0) (.int 0))) (.nil)) (.nil)) (.cons (.b (.asg (.bin .Add (.bin .Add (.bin .Mult (.ix (.slot 0) (.int 1)) (.int 48271)) (.bin .Mod (.bi .int (.cons (.slot 2) (.nil))) (.int 2147483647))) (.bin .Mult (.int 7919) (.ix (.slot 0) (.int 2)))) (.nm 3))) (.cons (.b (.sub (.bin .Mod (.bi .int (.cons (.slot 3) (.nil))) (.int 2147483647)) (.slot 0) (.int 1))) (.nil)))))) (.nil)) (.cons (.ite (.cmp .Gt (.ix (.slot 0) (.int 0)) (.int 0)) (.cons (.b (.asg (.bin .Mod (.bi .int (.cons (.ix (.slot 0) (.int 0)) (.nil))) (.slot 1)) (.nm 4))) (.cons (.b (.sub (.bin .FloorDiv (.bi .int (.cons (.ix (.slot 0) (.int 0)) (.nil))) (.slot 1)) (.slot 0) (.int 0))) (.cons (.b (.ret (.slot 4))) (.nil)))) (.nil)) (.cons (.b (.asg (.bin .Mod (.bi .int (.cons (.bin .Mult (.bin .Add (.ix (.slot 0) (.int 1)) (.int 1)) (.int 39373)) (.nil))) (.int 1000000007)) (.nm 5))) (.cons (.b (.asg (.bin .Mod (.bi .int (.cons (.bin .Mult (.bin .Mod (.bi .int (.cons (.bin .Mult (.slot 5) (.slot 5)) (.nil))) (.int 998244353)) (.int 30011)) (.nil))) (.int 998244353)) (.nm 6))) (.cons (.b (.ret (.bin .Mod (.bi .int (.cons (.bin .FloorDiv (.slot 6) (.int 7)) (.nil))) (.slot 1)))) (.nil)))))
def c__law_some : CSs := .cons (.b (.ret (.ix (.slot 1) (.call "_law_take" (.cons (.slot 0) (.cons (.bi .len (.cons (.slot 1) (.nil))) (.nil))))))) (.nil)
def c__law_bag : CSs := .cons (.b (.ret (.new (.lit (.cons (.int 0) (.cons (.int 1234567891) (.cons (.int 0) (.cons (.val (.lc (.at (.sl (.slot 0) (.no) (.at (.int 63)))) (.nm 1) (.no) (.bi .abs (.cons (.slot 1) (.nil))) [1])) (.nil))))))))) (.nil)
def c__law_is_int : CSs := .cons (.b (.ret (.vand (.bi .isi (.cons (.slot 0) (.cons (.ty "int" "int") (.nil)))) (.v1 (.vnot (.bi .isi (.cons (.slot 0) (.cons (.ty "bool" "bool") (.nil))))))))) (.nil)
def c__law_divisor : CSs := .cons (.fr (.range1 (.int 3000)) (.nm 2) (.cons (.ite (.cmp .Eq (.slot 1) (.int 0)) (.cons (.b (.ret (.slot 0))) (.nil)) (.nil)) (.cons (.b (.par2 0 1 (.cons (.slot 1) (.cons (.bin .Mod (.bi .int (.cons (.slot 0) (.nil))) (.slot 1)) (.nil))))) (.nil)))) (.cons (.b (.ret (.int 1))) (.nil))
theorem atI0 {α : Type} (a : α) (l : List α) : atI (a :: l) 0 = some a := by simp [atI, ixN]
theorem fSlA_lst (h : DH) (l : List D) (lo hi : Option Int) : fSlA h (.lst l) lo hi = some (.lst (cutG l lo hi)) := rfl
theorem fSlA_tup (h : DH) (l : List D) (lo hi : Option Int) : fSlA h (.tup l) lo hi = some (.tup (cutG l lo hi)) := rfl
theorem fInt_int (h : DH) (i : Int) : fInt h [.int i] = some (.int i) := rfl
/-- o[i] of a changing object -/
def ixR (o : Option DO) (i : Int) : Option D := match o with
  | some (.lst ds) => atI ds i
  | some (.dK kvs) => dLook kvs (.inl i)
  | _ => none
theorem ixA_ref (h : DH) (b : Nat) (i : Int) : ixA h (.ref b) (.int i) = ixR h[b]? i := by
  cases e : h[b]? with
  | none => simp [ixA, fOr, ixD, fIxK, D.seq, D.dict, D.key, ixR, e]
  | some o =>
    cases o with
    | lst ds =>
      simp only [ixA, fOr, ixD, fIxK, D.seq, D.dict, D.key, ixR, e, Option.bind_some]
      cases atI ds i <;> rfl
    | dK kvs => simp [ixA, fOr, ixD, fIxK, D.seq, D.dict, D.key, ixR, e]
    | ins _ _ => simp [ixA, fOr, ixD, fIxK, D.seq, D.dict, D.key, ixR, e]
theorem ixA_lst (h : DH) (ds : List D) (i : Int) : ixA h (.lst ds) (.int i) = atI ds i := by
  simp only [ixA, fOr, ixD, fIxK, D.seq, D.dict, D.key, Option.bind_some]
  cases atI ds i <;> rfl
theorem ixA_tup (h : DH) (ds : List D) (i : Int) : ixA h (.tup ds) (.int i) = atI ds i := by
  simp only [ixA, fOr, ixD, fIxK, D.seq, D.dict, D.key, Option.bind_some]
  cases atI ds i <;> rfl
def getR (o : Option DO) (i : Int) : Option D := match o with
  | some (.lst ds) => if 0 ≤ i then ds[i.toNat]? else none
  | some (.dK kvs) => dLook kvs (.inl i)
  | _ => none
theorem getD_ref (h : DH) (b : Nat) (i : Int) : getD h (.ref b) (.int i) = getR h[b]? i := by
  cases e : h[b]? with
  | none => simp [getD, getR, e]
  | some o => cases o <;> simp [getD, getR, e, D.key]
def setR (o : Option DO) (i : Int) (v : D) : Option DO := match o with
  | some (.lst ds) => (ixN ds.length i).map fun m => .lst (ds.set m v)
  | some (.dK kvs) => if kvs.length < sizeLine then some (.dK (dPut kvs (.inl i) v)) else none
  | _ => none
theorem setD_ref (h : DH) (b : Nat) (i : Int) (v : D) : setD h (.ref b) (.int i) v = (setR h[b]? i v).map fun o => h.set b o := by
  cases e : h[b]? with
  | none => simp [setD, setR, e]
  | some o =>
    cases o with
    | lst ds =>
      simp only [setD, setR, e, Option.map_map]
      rfl
    | dK kvs =>
      simp only [setD, setR, e, D.key]
      split <;> rfl
    | ins _ _ => simp [setD, setR, e]
theorem mul_r (h : DH) (i j : Int) (c : -18446744073709551616 < j ∧ j < 18446744073709551616) : binD .Mult h (.int i) (.int j) = some (.int (i * j)) := bin_mul_int h i j (.inr c)
theorem mul_l (h : DH) (i j : Int) (c : -18446744073709551616 < i ∧ i < 18446744073709551616) : binD .Mult h (.int i) (.int j) = some (.int (i * j)) := bin_mul_int h i j (.inl c)
theorem add_lst (h : DH) (a b : List D) (c : a.length + b.length ≤ sizeLine) : binD .Add h (.lst a) (.lst b) = some (.lst (a ++ b)) := by
  show (if a.length + b.length ≤ sizeLine then _ else none) = _
  rw [if_pos c]
theorem add_tup (h : DH) (a b : List D) (c : a.length + b.length ≤ sizeLine) : binD .Add h (.tup a) (.tup b) = some (.tup (a ++ b)) := by
  show (match (if a.length + b.length ≤ sizeLine then some (D.tup (a ++ b)) else none : Option D) with
    | some z => some z
    | none => _) = _
  rw [if_pos c]
theorem pow_is (h : DH) (i j : Int) (c : 0 ≤ j ∧ j ≤ 1000000 ∧ i.natAbs < 18446744073709551616) : binD .Pow h (.int i) (.int j) = some (.int (i ^ j.toNat)) := bin_pow_int h i j c
theorem pow_10_18 (h : DH) : binD .Pow h (.int 10) (.int 18) = some (.int 1000000000000000000) := pow_is h 10 18 (by decide)
theorem cutG_len {α : Type} (l : List α) (lo hi : Option Int) : (cutG l lo hi).length ≤ l.length := by
  unfold cutG
  rw [List.length_take, List.length_drop]
  omega
theorem cutG_map {α β : Type} (f : α → β) (l : List α) (lo hi : Option Int) : cutG (l.map f) lo hi = (cutG l lo hi).map f := by
  unfold cutG
  rw [List.length_map, List.map_take, List.map_drop]
/-- the bag -/
def bagO (st sd k : Int) (cs : List Int) : DO := .lst [.int st, .int sd, .int k, .lst (cs.map .int)]
def BagAt (b : Nat) (h : DH) : Prop := ∃ st sd k cs, h[b]? = some (bagO st sd k cs) ∧ cs.length ≤ 63
def Keep (b : Nat) (h h' : DH) : Prop := h'.length = h.length ∧ ∀ j, j ≠ b → h'[j]? = h[j]?
theorem Keep.refl (b : Nat) (h : DH) : Keep b h h := ⟨rfl, fun _ _ => rfl⟩
theorem Keep.trans {b : Nat} {h h1 h2 : DH} (a : Keep b h h1) (c : Keep b h1 h2) : Keep b h h2 := ⟨c.1.trans a.1, fun j hj => (c.2 j hj).trans (a.2 j hj)⟩
theorem Keep.set (b : Nat) (h : DH) (o : DO) : Keep b h (h.set b o) := ⟨by simp, fun j hj => by rw [List.getElem?_set_ne (Ne.symm hj)]⟩
theorem ixR_bag0 (st sd k : Int) (cs : List Int) : ixR (some (bagO st sd k cs)) 0 = some (.int st) := rfl
theorem ixR_bag1 (st sd k : Int) (cs : List Int) : ixR (some (bagO st sd k cs)) 1 = some (.int sd) := rfl
theorem ixR_bag2 (st sd k : Int) (cs : List Int) : ixR (some (bagO st sd k cs)) 2 = some (.int k) := rfl
theorem ixR_bag3 (st sd k : Int) (cs : List Int) : ixR (some (bagO st sd k cs)) 3 = some (.lst (cs.map .int)) := rfl
theorem getR_bag2 (st sd k : Int) (cs : List Int) : getR (some (bagO st sd k cs)) 2 = some (.int k) := rfl
theorem setR_bag0 (st sd k v : Int) (cs : List Int) : setR (some (bagO st sd k cs)) 0 (.int v) = some (bagO v sd k cs) := rfl
theorem setR_bag1 (st sd k v : Int) (cs : List Int) : setR (some (bagO st sd k cs)) 1 (.int v) = some (bagO st v k cs) := rfl
theorem setR_bag2 (st sd k v : Int) (cs : List Int) : setR (some (bagO st sd k cs)) 2 (.int v) = some (bagO st sd v cs) := rfl
section
variable {T : Tab} {h : DH} {b : Nat}
theorem wp_take0 {st sd k : Int} {cs : List Int} {m : Int} {Q : D → DH → Prop} (e : h[b]? = some (bagO st sd k cs)) (hl : cs.length ≤ 63) (hm : 0 < m) (hm2 : m < 1073741824)
    (q : ∀ v st' sd' k', 0 ≤ v → v < m → Q (.int v) (h.set b (bagO st' sd' k' cs))) : (run T 7 c__law_take [.ref b, .int m] h).wp Q := by
  have hb : b < h.length := (List.getElem?_eq_some_iff.mp e).1
  have s1 : ∀ o : DO, (h.set b o)[b]? = some o := fun o => List.getElem?_set_self hb
  have e0 : h = h.set b (bagO st sd k cs) := by
    refine List.ext_getElem? fun i => ?_
    by_cases hi : b = i
    · subst hi; rw [s1, e]
    · rw [List.getElem?_set_ne hi]
  obtain ⟨c, hc⟩ : ∃ c : Int, atI (cutG (cs.map D.int) (some k) none ++ [.int 0]) 0 = some (.int c) := by
    rw [cutG_map]
    cases cutG cs (some k) none with
    | nil => exact ⟨0, rfl⟩
    | cons x l => exact ⟨x, atI0 _ _⟩
  have hA : ∀ h : DH, binD .Add h (.lst (cutG (cs.map D.int) (some k) none)) (.lst [.int 0]) = some (.lst (cutG (cs.map D.int) (some k) none ++ [.int 0])) := fun h => add_lst h _ _ (by
    have := cutG_len (cs.map D.int) (some k) none
    rw [List.length_map] at this
    have z : (64 : Nat) ≤ sizeLine := by decide
    show _ + 1 ≤ sizeLine
    omega)
  have z1 : (1 : Nat) ≤ sizeLine := by decide
  have iop : ∀ (h : DH) (i j : Int), iopD .Add h (.int i) (.int j) = some (.int (i + j)) := fun _ _ _ => rfl
  have sq : ∀ (h : DH) (x : Int), binD .Mult h (.int (x % 1000000007)) (.int (x % 1000000007)) = some (.int (x % 1000000007 * (x % 1000000007))) := fun h x => mul_r h _ _ (by omega)
  have vm : ∀ x : Int, 0 ≤ x % m ∧ x % m < m := fun x => ⟨Int.emod_nonneg x (by omega), Int.emod_lt_of_pos x hm⟩
  unfold run c__law_take DL.start
  simp only [semSs, semS, semB, semE, semT, semL, semA, semO, semQ, semN, semK, semI, BI.f, MI.f, sseq_c, sret, sretN, snext, sbreak, scont, sdrop, sif, sasg, spar2, spar3, ssub, saug, saugS, toS_ok, toS_err, toS_bad, bnd, mret, mnil, mcons, mtup, mcallB, mcall, mval, mnew, mnewD, mlist, mlistOf, mlistZip, mmeth, msl, mpart, mif_c, vnot, vand_c, vor_c, tnot, tand_c, tor_c, tru, t2, e2, DL.e1, chain_c, chainT_c, bind_ok, bind_err, bind_bad, ofO_some, ofO_none, mslot, mstar, mrev, mjoin, swh, List.getElem?_cons_zero, List.getElem?_cons_succ, List.set_cons_zero, List.set_cons_succ, Option.map_some, Option.map_none, if_true, if_false, Bool.false_eq_true, put_nm, put_tp, puts_nil, puts_cons, List.length_cons, List.length_nil, List.map_cons, List.map_nil, List.cons_append, List.nil_append, List.replicate_succ, List.replicate_zero, ite_true, ite_false, bind_ite, toS_ite, seq_nx, seq_rt, seq_bk, seq_ct, seq_err, seq_bad, seq_ite, toR_nx, toR_rt, toR_err, toR_bad, toR_ite, condO_some, condO_none, truD_bl, truD_int, truD_non, boolO_bl, bin_add_int, bin_sub_int, cmp_le_int, cmp_lt_int, cmp_ge_int, cmp_gt_int, cmp_eq_int, cmp_ne_int, cmp_ne_bl, Res.wp_ok, Res.wp_err, Res.wp_bad, Res.wp_bind, Res.wp_ite, SRes.wp_toS, SRes.wp_nx, SRes.wp_rt, SRes.wp_bk, SRes.wp_ct, SRes.wp_err, SRes.wp_bad, SRes.wp_seq, SRes.wp_ite, Res.wp_condO, Res.wp_toR, Nat.reduceAdd, Nat.reduceSub, Nat.reduceLT, Nat.reduceEqDiff, reduceIte, Nat.zero_add, and_self, true_and, and_true, Int.reduceLT, Int.reduceNeg, ixA_ref, ixA_lst, getD_ref, setD_ref, e, s1, List.set_set, ixR_bag0, ixR_bag1, ixR_bag2, ixR_bag3, getR_bag2, setR_bag0, setR_bag1, setR_bag2, fSlA_lst, hA, hc, iop, fInt_int, mul_r, mul_l, sq, pow_10_18, bin_mod_int, hm, hm2, bin_div_int, z1]
  have q0 : ∀ v, 0 ≤ v → v < m → Q (.int v) h := fun v a b => by rw [e0]; exact q v _ _ _ a b
  repeat' split
  all_goals first | exact q _ _ _ _ (vm _).1 (vm _).2 | exact q0 _ (vm _).1 (vm _).2
end
end DL
end

section
set_option maxHeartbeats 2000000
/-! the laws' own helpers: some, bag, alike -/
namespace DL
open PySem PySem.Spec PyProof.Rows L2
theorem len_lst (h : DH) (ds : List D) : fcOr fLen fLenK h [.lst ds] = some (.int ds.length) := rfl
theorem len_fls (h : DH) (ds : List D) : fcOr fLen fLenK h [.fls ds] = some (.int ds.length) := rfl
theorem len_tup (h : DH) (ds : List D) : fcOr fLen fLenK h [.tup ds] = some (.int ds.length) := rfl
theorem len_str (h : DH) (x : Str) (hl : x.length ≤ sizeLine) : fcOr fLen fLenK h [.str x] = some (.int x.length) := by
  simp only [fcOr, fLen, lenD, if_pos hl]
  rfl
theorem len_refL (h : DH) (b : Nat) (ds : List D) (e : h[b]? = some (.lst ds)) : fcOr fLen fLenK h [.ref b] = some (.int ds.length) := by
  simp only [fcOr, fLen, lenD, D.seq, e]
  rfl
theorem bagAt_set {b : Nat} {h : DH} {st sd k : Int} {cs : List Int} (hb : b < h.length) (hl : cs.length ≤ 63) : BagAt b (h.set b (bagO st sd k cs)) := ⟨st, sd, k, cs, List.getElem?_set_self hb, hl⟩
theorem wp_take {T : Tab} {h : DH} {b : Nat} {m : Int} {Q : D → DH → Prop} (B : BagAt b h) (hm : 0 < m) (hm2 : m < 1073741824) (q : ∀ v h', 0 ≤ v → v < m → BagAt b h' → Keep b h h' → Q (.int v) h') : (run T 7 c__law_take [.ref b, .int m] h).wp Q := by
  obtain ⟨st, sd, k, cs, e, hl⟩ := B
  exact wp_take0 e hl hm hm2 fun v st' sd' k' h1 h2 => q v _ h1 h2 (bagAt_set (List.getElem?_eq_some_iff.mp e).1 hl) (.set b h _)
theorem wp_some {T T' : Tab} {h : DH} {b : Nat} {ds : List D} {Q : D → DH → Prop} (ht : T.fn "_law_take" = some ⟨"_law_take", 2, run T' 7 c__law_take⟩) (B : BagAt b h) (h0 : ds ≠ []) (hl : ds.length < 1073741) (q : ∀ d h', d ∈ ds → BagAt b h' → Keep b h h' → Q d h') :
    (run T 2 c__law_some [.ref b, .lst ds] h).wp Q := by
  have z : (1073741 : Nat) ≤ sizeLine := by decide
  have hp : 0 < ds.length := List.length_pos_iff.mpr h0
  unfold run c__law_some DL.start
  simp only [semSs, semS, semB, semE, semT, semL, semA, semO, semQ, semN, semK, semI, BI.f, MI.f, sseq_c, sret, sretN, snext, sbreak, scont, sdrop, sif, sasg, spar2, spar3, ssub, saug, saugS, toS_ok, toS_err, toS_bad, bnd, mret, mnil, mcons, mtup, mcallB, mcall, mval, mnew, mnewD, mlist, mlistOf, mlistZip, mmeth, msl, mpart, mif_c, vnot, vand_c, vor_c, tnot, tand_c, tor_c, tru, t2, e2, DL.e1, chain_c, chainT_c, bind_ok, bind_err, bind_bad, ofO_some, ofO_none, mslot, mstar, mrev, mjoin, swh, List.getElem?_cons_zero, List.getElem?_cons_succ, List.set_cons_zero, List.set_cons_succ, Option.map_some, Option.map_none, if_true, if_false, Bool.false_eq_true, put_nm, put_tp, puts_nil, puts_cons, List.length_cons, List.length_nil, List.map_cons, List.map_nil, List.cons_append, List.nil_append, List.replicate_succ, List.replicate_zero, ite_true, ite_false, bind_ite, toS_ite, seq_nx, seq_rt, seq_bk, seq_ct, seq_err, seq_bad, seq_ite, toR_nx, toR_rt, toR_err, toR_bad, toR_ite, condO_some, condO_none, truD_bl, truD_int, truD_non, boolO_bl, bin_add_int, bin_sub_int, cmp_le_int, cmp_lt_int, cmp_ge_int, cmp_gt_int, cmp_eq_int, cmp_ne_int, cmp_ne_bl, Res.wp_ok, Res.wp_err, Res.wp_bad, Res.wp_bind, Res.wp_ite, SRes.wp_toS, SRes.wp_nx, SRes.wp_rt, SRes.wp_bk, SRes.wp_ct, SRes.wp_err, SRes.wp_bad, SRes.wp_seq, SRes.wp_ite, Res.wp_condO, Res.wp_toR, Nat.reduceAdd, Nat.reduceSub, Nat.reduceLT, Nat.reduceEqDiff, reduceIte, Nat.zero_add, and_self, true_and, and_true, Int.reduceLT, Int.reduceNeg, ht, len_lst]
  refine wp_take B (by omega) (by omega) fun v h' h1 h2 B' k => ?_
  obtain ⟨d, hd⟩ : ∃ d, atI ds v = some d := by
    have hv : v.toNat < ds.length := by omega
    refine ⟨ds[v.toNat], ?_⟩
    simp [atI, ixN, h1, h2, hv]
  simp only [semSs, semS, semB, semE, semT, semL, semA, semO, semQ, semN, semK, semI, BI.f, MI.f, sseq_c, sret, sretN, snext, sbreak, scont, sdrop, sif, sasg, spar2, spar3, ssub, saug, saugS, toS_ok, toS_err, toS_bad, bnd, mret, mnil, mcons, mtup, mcallB, mcall, mval, mnew, mnewD, mlist, mlistOf, mlistZip, mmeth, msl, mpart, mif_c, vnot, vand_c, vor_c, tnot, tand_c, tor_c, tru, t2, e2, DL.e1, chain_c, chainT_c, bind_ok, bind_err, bind_bad, ofO_some, ofO_none, mslot, mstar, mrev, mjoin, swh, List.getElem?_cons_zero, List.getElem?_cons_succ, List.set_cons_zero, List.set_cons_succ, Option.map_some, Option.map_none, if_true, if_false, Bool.false_eq_true, put_nm, put_tp, puts_nil, puts_cons, List.length_cons, List.length_nil, List.map_cons, List.map_nil, List.cons_append, List.nil_append, List.replicate_succ, List.replicate_zero, ite_true, ite_false, bind_ite, toS_ite, seq_nx, seq_rt, seq_bk, seq_ct, seq_err, seq_bad, seq_ite, toR_nx, toR_rt, toR_err, toR_bad, toR_ite, condO_some, condO_none, truD_bl, truD_int, truD_non, boolO_bl, bin_add_int, bin_sub_int, cmp_le_int, cmp_lt_int, cmp_ge_int, cmp_gt_int, cmp_eq_int, cmp_ne_int, cmp_ne_bl, Res.wp_ok, Res.wp_err, Res.wp_bad, Res.wp_bind, Res.wp_ite, SRes.wp_toS, SRes.wp_nx, SRes.wp_rt, SRes.wp_bk, SRes.wp_ct, SRes.wp_err, SRes.wp_bad, SRes.wp_seq, SRes.wp_ite, Res.wp_condO, Res.wp_toR, Nat.reduceAdd, Nat.reduceSub, Nat.reduceLT, Nat.reduceEqDiff, reduceIte, Nat.zero_add, and_self, true_and, and_true, Int.reduceLT, Int.reduceNeg, ixA_lst, hd]
  refine q d h' ?_ B' k
  unfold atI at hd
  cases e : ixN ds.length v with
  | none => rw [e] at hd; cases hd
  | some j => rw [e] at hd; exact List.mem_of_getElem? hd
theorem run_bag {T : Tab} {h : DH} {ns : List Int} (hn : ns.length ≤ 63) : ∃ cs : List Int, cs.length ≤ 63 ∧ run T 2 c__law_bag [.fls (ns.map .int)] h = .ok (.ref h.length) (h ++ [bagO 0 1234567891 0 cs]) := by
  refine ⟨(cutG ns none (some 63)).map fun i => if i < 0 then -i else i, ?_, ?_⟩
  · rw [List.length_map]; have := cutG_len ns none (some 63); omega
  · have e : ∀ h : DH, fSlA h (.fls (ns.map D.int)) none (some 63) = some (.lst ((cutG ns none (some 63)).map .int)) := fun h => by
      show some (D.lst (cutG (ns.map D.int) none (some 63))) = _
      rw [cutG_map]
    have l : ((cutG ns none (some 63)).map D.int).length ≤ 63 := by rw [List.length_map]; have := cutG_len ns none (some 63); omega
    have z : (64 : Nat) ≤ sizeLine := by decide
    have l2 := l
    rw [List.length_map] at l2
    unfold run c__law_bag DL.start
    simp only [semSs, semS, semB, semE, semT, semL, semA, semO, semQ, semN, semK, semI, BI.f, MI.f, sseq_c, sret, sretN, snext, sbreak, scont, sdrop, sif, sasg, spar2, spar3, ssub, saug, saugS, toS_ok, toS_err, toS_bad, bnd, mret, mnil, mcons, mtup, mcallB, mcall, mval, mnew, mnewD, mlist, mlistOf, mlistZip, mmeth, msl, mpart, mif_c, vnot, vand_c, vor_c, tnot, tand_c, tor_c, tru, t2, e2, DL.e1, chain_c, chainT_c, bind_ok, bind_err, bind_bad, ofO_some, ofO_none, mslot, mstar, mrev, mjoin, swh, List.getElem?_cons_zero, List.getElem?_cons_succ, List.set_cons_zero, List.set_cons_succ, Option.map_some, Option.map_none, if_true, if_false, Bool.false_eq_true, put_nm, put_tp, puts_nil, puts_cons, List.length_cons, List.length_nil, List.map_cons, List.map_nil, List.cons_append, List.nil_append, List.replicate_succ, List.replicate_zero, ite_true, ite_false, bind_ite, toS_ite, seq_nx, seq_rt, seq_bk, seq_ct, seq_err, seq_bad, seq_ite, toR_nx, toR_rt, toR_err, toR_bad, toR_ite, condO_some, condO_none, truD_bl, truD_int, truD_non, boolO_bl, bin_add_int, bin_sub_int, cmp_le_int, cmp_lt_int, cmp_ge_int, cmp_gt_int, cmp_eq_int, cmp_ne_int, cmp_ne_bl, Res.wp_ok, Res.wp_err, Res.wp_bad, Res.wp_bind, Res.wp_ite, SRes.wp_toS, SRes.wp_nx, SRes.wp_rt, SRes.wp_bk, SRes.wp_ct, SRes.wp_err, SRes.wp_bad, SRes.wp_seq, SRes.wp_ite, Res.wp_condO, Res.wp_toR, Nat.reduceAdd, Nat.reduceSub, Nat.reduceLT, Nat.reduceEqDiff, reduceIte, Nat.zero_add, and_self, true_and, and_true, Int.reduceLT, Int.reduceNeg, e, mlc, mit, itOf, wipeD]
    show (((((((((Res.bind (lcG (itVals ((cutG ns none (some 63)).map D.int)) _ _ _ _ ((cutG ns none (some 63)).map D.int).length 0 [] h) _).bind _).bind _).bind _).bind _).bind _).bind _).toS _ _).seq _).toR = _
    rw [lc_pure (fun _ => true) (fun d => match d with
      | .int i => .int (if i < 0 then -i else i)
      | d => d) (by omega) fun d hd => ?_]
    · have ef : ((cutG ns none (some 63)).map D.int).filter (fun _ => true) = (cutG ns none (some 63)).map D.int := List.filter_eq_self.mpr fun _ _ => rfl
      have z4 : (4 : Nat) ≤ sizeLine := by decide
      rw [ef]
      simp only [semSs, semS, semB, semE, semT, semL, semA, semO, semQ, semN, semK, semI, BI.f, MI.f, sseq_c, sret, sretN, snext, sbreak, scont, sdrop, sif, sasg, spar2, spar3, ssub, saug, saugS, toS_ok, toS_err, toS_bad, bnd, mret, mnil, mcons, mtup, mcallB, mcall, mval, mnew, mnewD, mlist, mlistOf, mlistZip, mmeth, msl, mpart, mif_c, vnot, vand_c, vor_c, tnot, tand_c, tor_c, tru, t2, e2, DL.e1, chain_c, chainT_c, bind_ok, bind_err, bind_bad, ofO_some, ofO_none, mslot, mstar, mrev, mjoin, swh, List.getElem?_cons_zero, List.getElem?_cons_succ, List.set_cons_zero, List.set_cons_succ, Option.map_some, Option.map_none, if_true, if_false, Bool.false_eq_true, put_nm, put_tp, puts_nil, puts_cons, List.length_cons, List.length_nil, List.map_cons, List.map_nil, List.cons_append, List.nil_append, List.replicate_succ, List.replicate_zero, ite_true, ite_false, bind_ite, toS_ite, seq_nx, seq_rt, seq_bk, seq_ct, seq_err, seq_bad, seq_ite, toR_nx, toR_rt, toR_err, toR_bad, toR_ite, condO_some, condO_none, truD_bl, truD_int, truD_non, boolO_bl, bin_add_int, bin_sub_int, cmp_le_int, cmp_lt_int, cmp_ge_int, cmp_gt_int, cmp_eq_int, cmp_ne_int, cmp_ne_bl, Res.wp_ok, Res.wp_err, Res.wp_bad, Res.wp_bind, Res.wp_ite, SRes.wp_toS, SRes.wp_nx, SRes.wp_rt, SRes.wp_bk, SRes.wp_ct, SRes.wp_err, SRes.wp_bad, SRes.wp_seq, SRes.wp_ite, Res.wp_condO, Res.wp_toR, Nat.reduceAdd, Nat.reduceSub, Nat.reduceLT, Nat.reduceEqDiff, reduceIte, Nat.zero_add, and_self, true_and, and_true, Int.reduceLT, Int.reduceNeg, z4, List.map_map]
      unfold bagO
      rw [List.map_map]
      rfl
    · obtain ⟨i, _, rfl⟩ := List.mem_map.mp hd
      exact ⟨_, rfl, rfl, fun _ => rfl⟩
/-! ### alike -/
mutual
def D.nodes : D → Nat
  | .tup ds => D.nodess ds + 1
  | .lst ds => D.nodess ds + 1
  | .fls ds => D.nodess ds + 1
  | _ => 1
def D.nodess : List D → Nat
  | [] => 0
  | d :: ds => D.nodes d + D.nodess ds
end
mutual
def D.okd : D → Bool
  | .tup ds => D.okds ds
  | .lst ds => D.okds ds
  | .fls ds => D.okds ds
  | .str x => PyData.strOk x
  | .ref _ => false
  | .opq _ => false
  | .exc _ _ _ => false
  | _ => true
def D.okds : List D → Bool
  | [] => true
  | d :: ds => D.okd d && D.okds ds
end
theorem nodes_pos (d : D) : 1 ≤ d.nodes := by cases d <;> simp [D.nodes]
theorem nodess_len : ∀ ds : List D, ds.length ≤ D.nodess ds
  | [] => Nat.le_refl _
  | d :: ds => by
    have h1 := nodess_len ds
    have h2 := nodes_pos d
    simp only [List.length_cons, D.nodess]
    omega
theorem nodess_append : ∀ a b : List D, D.nodess (a ++ b) = D.nodess a + D.nodess b
  | [], b => by simp [D.nodess]
  | d :: ds, b => by simp only [List.cons_append, D.nodess, nodess_append ds b]; omega
theorem okds_all : ∀ {ds : List D}, D.okds ds = true → ∀ d ∈ ds, d.okd = true
  | [], _, _, h => by cases h
  | d :: ds, h, x, hx => by
    simp only [D.okds, Bool.and_eq_true] at h
    rcases List.mem_cons.mp hx with e | hx
    · rw [e]; exact h.1
    · exact okds_all h.2 x hx
def twin (d : D) : D := .tup [d, d]
theorem pairs_twin : ∀ ds : List D, pairsD ds ds = ds.map twin
  | [] => rfl
  | d :: ds => by simp only [pairsD, List.map_cons, pairs_twin ds]; rfl
theorem atI_nat {α : Type} (l : List α) (i : Nat) : atI l (i : Int) = l[i]? := by
  unfold atI ixN
  by_cases h : i < l.length
  · simp [h]
  · simp [h]
def fuelA : SS → DH → Nat := fun s _ => match s[0]? with
  | some (some d) => d.nodes + 1
  | _ => 0
def c__law_alike : CSs := .cons (.b (.par2 2 3 (.cons (.new (.lit (.cons (.tup (.cons (.slot 0) (.cons (.slot 1) (.nil)))) (.nil)))) (.cons (.int 0) (.nil))))) (.cons (.wh (fuelA) (.cmp .Lt (.slot 3) (.bi .len (.cons (.slot 2) (.nil)))) (.cons (.b (.asg (.ix (.slot 2) (.slot 3)) (.tp [.nm 4, .nm 5]))) (.cons (.b (.aug 3 .Add (.int 1))) (.cons (.ite (.bo false (.cons (.cmp .NotEq (.bi .isi (.cons (.slot 4) (.cons (.ty "bool" "bool") (.nil)))) (.bi .isi (.cons (.slot 5) (.cons (.ty "bool" "bool") (.nil))))) (.one (.cmp .NotEq (.bi .isi (.cons (.slot 4) (.cons (.ty "str" "str") (.nil)))) (.bi .isi (.cons (.slot 5) (.cons (.ty "str" "str") (.nil)))))))) (.cons (.b (.ret (.bl false))) (.nil)) (.nil)) (.cons (.ite (.cmp .NotEq (.bi .isiT (.cons (.slot 4) (.cons (.tup (.cons (.ty "tuple" "tuple") (.cons (.ty "list" "list") (.nil)))) (.nil)))) (.bi .isiT (.cons (.slot 5) (.cons (.tup (.cons (.ty "tuple" "tuple") (.cons (.ty "list" "list") (.nil)))) (.nil))))) (.cons (.b (.ret (.bl false))) (.nil)) (.nil)) (.cons (.ite (.tru (.bi .isiT (.cons (.slot 4) (.cons (.tup (.cons (.ty "tuple" "tuple") (.cons (.ty "list" "list") (.nil)))) (.nil))))) (.cons (.ite (.bo false (.cons (.cmp .NotEq (.bi .isi (.cons (.slot 4) (.cons (.ty "tuple" "tuple") (.nil)))) (.bi .isi (.cons (.slot 5) (.cons (.ty "tuple" "tuple") (.nil))))) (.one (.cmp .NotEq (.bi .len (.cons (.slot 4) (.nil))) (.bi .len (.cons (.slot 5) (.nil))))))) (.cons (.b (.ret (.bl false))) (.nil)) (.nil)) (.cons (.b (.drop (.meth .extend (.slot 2) (.cons (.val (.zip (.slot 4) (.slot 5))) (.nil))))) (.nil))) (.cons (.ite (.cmp .NotEq (.slot 4) (.slot 5)) (.cons (.b (.ret (.bl false))) (.nil)) (.nil)) (.nil))) (.nil))))))) (.cons (.b (.ret (.bl true))) (.nil)))
theorem iop_add (h : DH) (i j : Int) : iopD .Add h (.int i) (.int j) = some (.int (i + j)) := rfl
theorem val_ok {d : D} (h : d.okd = true) : d.val = true := by cases d <;> simp [D.okd] at h <;> rfl
theorem cmp_ne_same {h : DH} {d : D} (k : d.okd = true) (k1 : d.isTup = false) (k2 : d.isLst = false) : cmpD .NotEq h d d = some (.bl false) := by
  cases d with
  | non => rfl
  | bl b => cases b <;> rfl
  | int i => simp [cmp_ne_int]
  | str x =>
    have k : PyData.strOk x = true := k
    have sh : SeqAt.shaped (.str x) = true := by
      unfold SeqAt.shaped
      simp [PyData.canLay0, PyData.depth, k]
    refine ne_of ?_
    unfold fNe
    simp [D.pyh, D.py, sh, PyData.eqv]
  | tup _ => cases k1
  | lst _ => cases k2
  | fls _ => cases k2
  | ref _ => cases k
  | opq _ => cases k
  | exc _ _ _ => cases k

/-- one turn of the walk over pairs -/
theorem wp_alike {T : Tab} {h : DH} {d : D} (hk : d.okd = true) (hn : d.nodes ≤ 1000000) : ∃ g, run T 6 c__law_alike [d, d] h = .ok (.bl true) (h ++ g) := by
  have z6 : (1000000 : Nat) ≤ sizeLine := by decide
  have z2 : (2 : Nat) ≤ sizeLine := by decide
  have z1 : (1 : Nat) ≤ sizeLine := by decide
  have lw : ∀ o : DO, (h ++ [o])[h.length]? = some o := fun o => by simp
  have ls : ∀ o o' : DO, (h ++ [o]).set h.length o' = h ++ [o'] := fun o o' => by simp
  have w : (run T 6 c__law_alike [d, d] h).wp fun r h' => r = .bl true ∧ ∃ g, h' = h ++ g := by
    unfold run c__law_alike DL.start
    simp only [semSs, semS, semB, semE, semT, semL, semA, semO, semQ, semN, semK, semI, BI.f, MI.f, sseq_c, sret, sretN, snext, sbreak, scont, sdrop, sif, sasg, spar2, spar3, ssub, saug, saugS, toS_ok, toS_err, toS_bad, bnd, mret, mnil, mcons, mtup, mcallB, mcall, mval, mnew, mnewD, mlist, mlistOf, mlistZip, mmeth, msl, mpart, mif_c, vnot, vand_c, vor_c, tnot, tand_c, tor_c, tru, t2, e2, DL.e1, chain_c, chainT_c, bind_ok, bind_err, bind_bad, ofO_some, ofO_none, mslot, mstar, mrev, mjoin, swh, List.getElem?_cons_zero, List.getElem?_cons_succ, List.set_cons_zero, List.set_cons_succ, Option.map_some, Option.map_none, if_true, if_false, Bool.false_eq_true, put_nm, put_tp, puts_nil, puts_cons, List.length_cons, List.length_nil, List.map_cons, List.map_nil, List.cons_append, List.nil_append, List.replicate_succ, List.replicate_zero, ite_true, ite_false, bind_ite, toS_ite, seq_nx, seq_rt, seq_bk, seq_ct, seq_err, seq_bad, seq_ite, toR_nx, toR_rt, toR_err, toR_bad, toR_ite, condO_some, condO_none, truD_bl, truD_int, truD_non, boolO_bl, bin_add_int, bin_sub_int, cmp_le_int, cmp_lt_int, cmp_ge_int, cmp_gt_int, cmp_eq_int, cmp_ne_int, cmp_ne_bl, Res.wp_ok, Res.wp_err, Res.wp_bad, Res.wp_bind, Res.wp_ite, SRes.wp_toS, SRes.wp_nx, SRes.wp_rt, SRes.wp_bk, SRes.wp_ct, SRes.wp_err, SRes.wp_bad, SRes.wp_seq, SRes.wp_ite, Res.wp_condO, Res.wp_toR, Nat.reduceAdd, Nat.reduceSub, Nat.reduceLT, Nat.reduceEqDiff, reduceIte, Nat.zero_add, and_self, true_and, and_true, Int.reduceLT, Int.reduceNeg, z1, z2, swh, fuelA]
    refine wp_wh (fun m s h' => ∃ (ps : List D) (i : Nat) (o1 o2 : Option D), s = [some d, some d, some (.ref h.length), some (.int i), o1, o2] ∧ h' = h ++ [.lst (ps.map twin)] ∧ i ≤ ps.length ∧ D.okds ps = true ∧ m = D.nodess (ps.drop i) ∧ i + D.nodess (ps.drop i) = d.nodes) ?_ _ d.nodes _ _ ⟨[d], 0, none, none, rfl, rfl, Nat.zero_le _, by simp [D.okds, hk], by simp [D.nodess], by simp [D.nodess]⟩ (Nat.le_succ _)
    rintro m s h' ⟨ps, i, o1, o2, rfl, rfl, hi, ho, rfl, hs⟩
    have hle : ps.length ≤ d.nodes := by
      have := nodess_len (ps.drop i)
      rw [List.length_drop] at this
      omega
    simp only [semSs, semS, semB, semE, semT, semL, semA, semO, semQ, semN, semK, semI, BI.f, MI.f, sseq_c, sret, sretN, snext, sbreak, scont, sdrop, sif, sasg, spar2, spar3, ssub, saug, saugS, toS_ok, toS_err, toS_bad, bnd, mret, mnil, mcons, mtup, mcallB, mcall, mval, mnew, mnewD, mlist, mlistOf, mlistZip, mmeth, msl, mpart, mif_c, vnot, vand_c, vor_c, tnot, tand_c, tor_c, tru, t2, e2, DL.e1, chain_c, chainT_c, bind_ok, bind_err, bind_bad, ofO_some, ofO_none, mslot, mstar, mrev, mjoin, swh, List.getElem?_cons_zero, List.getElem?_cons_succ, List.set_cons_zero, List.set_cons_succ, Option.map_some, Option.map_none, if_true, if_false, Bool.false_eq_true, put_nm, put_tp, puts_nil, puts_cons, List.length_cons, List.length_nil, List.map_cons, List.map_nil, List.cons_append, List.nil_append, List.replicate_succ, List.replicate_zero, ite_true, ite_false, bind_ite, toS_ite, seq_nx, seq_rt, seq_bk, seq_ct, seq_err, seq_bad, seq_ite, toR_nx, toR_rt, toR_err, toR_bad, toR_ite, condO_some, condO_none, truD_bl, truD_int, truD_non, boolO_bl, bin_add_int, bin_sub_int, cmp_le_int, cmp_lt_int, cmp_ge_int, cmp_gt_int, cmp_eq_int, cmp_ne_int, cmp_ne_bl, Res.wp_ok, Res.wp_err, Res.wp_bad, Res.wp_bind, Res.wp_ite, SRes.wp_toS, SRes.wp_nx, SRes.wp_rt, SRes.wp_bk, SRes.wp_ct, SRes.wp_err, SRes.wp_bad, SRes.wp_seq, SRes.wp_ite, Res.wp_condO, Res.wp_toR, Nat.reduceAdd, Nat.reduceSub, Nat.reduceLT, Nat.reduceEqDiff, reduceIte, Nat.zero_add, and_self, true_and, and_true, Int.reduceLT, Int.reduceNeg, len_refL _ _ _ (lw _), List.length_map]
    by_cases hlt : i < ps.length
    · have hlt' : (i : Int) < (ps.length : Int) := by omega
      obtain ⟨x, hx⟩ : ∃ x, ps[i]? = some x := ⟨ps[i], List.getElem?_eq_getElem hlt⟩
      have kx : x.okd = true := okds_all ho x (List.mem_of_getElem? hx)
      have vx := val_ok kx
      have ax : atI (ps.map twin) (i : Int) = some (.tup [x, x]) := by rw [atI_nat, List.getElem?_map, hx]; rfl
      have hdr : ps.drop i = x :: ps.drop (i + 1) := by
        rw [List.drop_eq_getElem_cons hlt]
        congr 1
        rw [List.getElem?_eq_getElem hlt] at hx
        exact Option.some.inj hx
      have nx := nodes_pos x
      simp only [decide_eq_true_eq, hlt', if_true]
      rw [hdr, D.nodess] at hs ⊢
      refine ⟨x.nodes - 1 + D.nodess (ps.drop (i + 1)), by omega, ?_⟩
      simp only [semSs, semS, semB, semE, semT, semL, semA, semO, semQ, semN, semK, semI, BI.f, MI.f, sseq_c, sret, sretN, snext, sbreak, scont, sdrop, sif, sasg, spar2, spar3, ssub, saug, saugS, toS_ok, toS_err, toS_bad, bnd, mret, mnil, mcons, mtup, mcallB, mcall, mval, mnew, mnewD, mlist, mlistOf, mlistZip, mmeth, msl, mpart, mif_c, vnot, vand_c, vor_c, tnot, tand_c, tor_c, tru, t2, e2, DL.e1, chain_c, chainT_c, bind_ok, bind_err, bind_bad, ofO_some, ofO_none, mslot, mstar, mrev, mjoin, swh, List.getElem?_cons_zero, List.getElem?_cons_succ, List.set_cons_zero, List.set_cons_succ, Option.map_some, Option.map_none, if_true, if_false, Bool.false_eq_true, put_nm, put_tp, puts_nil, puts_cons, List.length_cons, List.length_nil, List.map_cons, List.map_nil, List.cons_append, List.nil_append, List.replicate_succ, List.replicate_zero, ite_true, ite_false, bind_ite, toS_ite, seq_nx, seq_rt, seq_bk, seq_ct, seq_err, seq_bad, seq_ite, toR_nx, toR_rt, toR_err, toR_bad, toR_ite, condO_some, condO_none, truD_bl, truD_int, truD_non, boolO_bl, bin_add_int, bin_sub_int, cmp_le_int, cmp_lt_int, cmp_ge_int, cmp_gt_int, cmp_eq_int, cmp_ne_int, cmp_ne_bl, Res.wp_ok, Res.wp_err, Res.wp_bad, Res.wp_bind, Res.wp_ite, SRes.wp_toS, SRes.wp_nx, SRes.wp_rt, SRes.wp_bk, SRes.wp_ct, SRes.wp_err, SRes.wp_bad, SRes.wp_seq, SRes.wp_ite, Res.wp_condO, Res.wp_toR, Nat.reduceAdd, Nat.reduceSub, Nat.reduceLT, Nat.reduceEqDiff, reduceIte, Nat.zero_add, and_self, true_and, and_true, Int.reduceLT, Int.reduceNeg, ixA_ref, lw, ixR, ax, isi_bool vx, isi_str vx, isiT_tl vx, isi_tuple vx, beq_self_eq_true, Bool.not_true, iop_add, z2]
      have step : ∀ (xs : List D), x.seq (h ++ [.lst (ps.map twin)]) = some xs → x.nodes = D.nodess xs + 1 → D.okds xs = true → ∀ o1 o2 : Option D, ∃ (ps' : List D) (i' : Nat), [some d, some d, some (D.ref h.length), some (.int (i + 1)), o1, o2] = [some d, some d, some (.ref h.length), some (.int i'), o1, o2] ∧ h ++ [.lst (ps.map twin ++ xs.map twin)] = h ++ [.lst (ps'.map twin)] ∧
          i' ≤ ps'.length ∧ D.okds ps' = true ∧ x.nodes - 1 + D.nodess (ps.drop (i + 1)) = D.nodess (ps'.drop i') ∧ i' + D.nodess (ps'.drop i') = d.nodes := fun xs h1 h2 h3 o1 o2 => by
        refine ⟨ps ++ xs, i + 1, by rw [Int.natCast_add]; rfl, by rw [List.map_append], by rw [List.length_append]; omega, ?_, ?_, ?_⟩
        · have oa : ∀ a b : List D, D.okds a = true → D.okds b = true → D.okds (a ++ b) = true := by
            intro a b h1 h2
            induction a with
            | nil => exact h2
            | cons y ys ih =>
              simp only [D.okds, Bool.and_eq_true, List.cons_append] at h1 ⊢
              exact ⟨h1.1, ih h1.2⟩
          exact oa ps xs ho h3
        · rw [List.drop_append_of_le_length (by omega), nodess_append]; omega
        · rw [List.drop_append_of_le_length (by omega), nodess_append]; omega
      have leaf : x.isTup = false → x.isLst = false → D.nodess (ps.drop (i + 1)) = x.nodes - 1 + D.nodess (ps.drop (i + 1)) := fun a b => by
        have : x.nodes = 1 := by cases x <;> first | rfl | exact absurd a (by decide) | exact absurd b (by decide) | (cases a; done) | (cases b; done)
        omega
      have zz : ∀ xs : List D, x.nodes = D.nodess xs + 1 → ps.length + xs.length ≤ sizeLine := fun xs e => by
        have := nodess_len xs
        have h2 := nodess_len (ps.drop (i + 1))
        rw [List.length_drop] at h2
        omega
      have stop : ∀ o1 o2 : Option D, D.nodess (ps.drop (i + 1)) = x.nodes - 1 + D.nodess (ps.drop (i + 1)) → ∃ (ps' : List D) (i' : Nat), [some d, some d, some (D.ref h.length), some (.int (i + 1)), o1, o2] = [some d, some d, some (.ref h.length), some (.int i'), o1, o2] ∧ h ++ [.lst (ps.map twin)] = h ++ [.lst (ps'.map twin)] ∧
          i' ≤ ps'.length ∧ D.okds ps' = true ∧ x.nodes - 1 + D.nodess (ps.drop (i + 1)) = D.nodess (ps'.drop i') ∧ i' + D.nodess (ps'.drop i') = d.nodes := fun o1 o2 e =>
        ⟨ps, i + 1, by rw [Int.natCast_add]; rfl, rfl, by omega, ho, e.symm, by omega⟩
      cases x with
      | ref _ => cases kx
      | opq _ => cases kx
      | exc _ _ _ => cases kx
      | tup xs =>
        simp only [semSs, semS, semB, semE, semT, semL, semA, semO, semQ, semN, semK, semI, BI.f, MI.f, sseq_c, sret, sretN, snext, sbreak, scont, sdrop, sif, sasg, spar2, spar3, ssub, saug, saugS, toS_ok, toS_err, toS_bad, bnd, mret, mnil, mcons, mtup, mcallB, mcall, mval, mnew, mnewD, mlist, mlistOf, mlistZip, mmeth, msl, mpart, mif_c, vnot, vand_c, vor_c, tnot, tand_c, tor_c, tru, t2, e2, DL.e1, chain_c, chainT_c, bind_ok, bind_err, bind_bad, ofO_some, ofO_none, mslot, mstar, mrev, mjoin, swh, List.getElem?_cons_zero, List.getElem?_cons_succ, List.set_cons_zero, List.set_cons_succ, Option.map_some, Option.map_none, if_true, if_false, Bool.false_eq_true, put_nm, put_tp, puts_nil, puts_cons, List.length_cons, List.length_nil, List.map_cons, List.map_nil, List.cons_append, List.nil_append, List.replicate_succ, List.replicate_zero, ite_true, ite_false, bind_ite, toS_ite, seq_nx, seq_rt, seq_bk, seq_ct, seq_err, seq_bad, seq_ite, toR_nx, toR_rt, toR_err, toR_bad, toR_ite, condO_some, condO_none, truD_bl, truD_int, truD_non, boolO_bl, bin_add_int, bin_sub_int, cmp_le_int, cmp_lt_int, cmp_ge_int, cmp_gt_int, cmp_eq_int, cmp_ne_int, cmp_ne_bl, Res.wp_ok, Res.wp_err, Res.wp_bad, Res.wp_bind, Res.wp_ite, SRes.wp_toS, SRes.wp_nx, SRes.wp_rt, SRes.wp_bk, SRes.wp_ct, SRes.wp_err, SRes.wp_bad, SRes.wp_seq, SRes.wp_ite, Res.wp_condO, Res.wp_toR, Nat.reduceAdd, Nat.reduceSub, Nat.reduceLT, Nat.reduceEqDiff, reduceIte, Nat.zero_add, and_self, true_and, and_true, Int.reduceLT, Int.reduceNeg, D.isTup, D.isLst, Bool.or_false, Bool.false_or, len_tup, Bool.not_true, beq_self_eq_true, D.live, lw, D.seq, pairs_twin, fExtend, D.tseq, List.length_map, zz xs rfl, ls]
        obtain ⟨ps', i', q⟩ := step xs rfl rfl kx _ _
        exact ⟨ps', i', _, _, q⟩
      | lst xs =>
        simp only [semSs, semS, semB, semE, semT, semL, semA, semO, semQ, semN, semK, semI, BI.f, MI.f, sseq_c, sret, sretN, snext, sbreak, scont, sdrop, sif, sasg, spar2, spar3, ssub, saug, saugS, toS_ok, toS_err, toS_bad, bnd, mret, mnil, mcons, mtup, mcallB, mcall, mval, mnew, mnewD, mlist, mlistOf, mlistZip, mmeth, msl, mpart, mif_c, vnot, vand_c, vor_c, tnot, tand_c, tor_c, tru, t2, e2, DL.e1, chain_c, chainT_c, bind_ok, bind_err, bind_bad, ofO_some, ofO_none, mslot, mstar, mrev, mjoin, swh, List.getElem?_cons_zero, List.getElem?_cons_succ, List.set_cons_zero, List.set_cons_succ, Option.map_some, Option.map_none, if_true, if_false, Bool.false_eq_true, put_nm, put_tp, puts_nil, puts_cons, List.length_cons, List.length_nil, List.map_cons, List.map_nil, List.cons_append, List.nil_append, List.replicate_succ, List.replicate_zero, ite_true, ite_false, bind_ite, toS_ite, seq_nx, seq_rt, seq_bk, seq_ct, seq_err, seq_bad, seq_ite, toR_nx, toR_rt, toR_err, toR_bad, toR_ite, condO_some, condO_none, truD_bl, truD_int, truD_non, boolO_bl, bin_add_int, bin_sub_int, cmp_le_int, cmp_lt_int, cmp_ge_int, cmp_gt_int, cmp_eq_int, cmp_ne_int, cmp_ne_bl, Res.wp_ok, Res.wp_err, Res.wp_bad, Res.wp_bind, Res.wp_ite, SRes.wp_toS, SRes.wp_nx, SRes.wp_rt, SRes.wp_bk, SRes.wp_ct, SRes.wp_err, SRes.wp_bad, SRes.wp_seq, SRes.wp_ite, Res.wp_condO, Res.wp_toR, Nat.reduceAdd, Nat.reduceSub, Nat.reduceLT, Nat.reduceEqDiff, reduceIte, Nat.zero_add, and_self, true_and, and_true, Int.reduceLT, Int.reduceNeg, D.isTup, D.isLst, Bool.or_false, Bool.false_or, len_lst, Bool.not_true, beq_self_eq_true, D.live, lw, D.seq, pairs_twin, fExtend, D.tseq, List.length_map, zz xs rfl, ls]
        obtain ⟨ps', i', q⟩ := step xs rfl rfl kx _ _
        exact ⟨ps', i', _, _, q⟩
      | fls xs =>
        simp only [semSs, semS, semB, semE, semT, semL, semA, semO, semQ, semN, semK, semI, BI.f, MI.f, sseq_c, sret, sretN, snext, sbreak, scont, sdrop, sif, sasg, spar2, spar3, ssub, saug, saugS, toS_ok, toS_err, toS_bad, bnd, mret, mnil, mcons, mtup, mcallB, mcall, mval, mnew, mnewD, mlist, mlistOf, mlistZip, mmeth, msl, mpart, mif_c, vnot, vand_c, vor_c, tnot, tand_c, tor_c, tru, t2, e2, DL.e1, chain_c, chainT_c, bind_ok, bind_err, bind_bad, ofO_some, ofO_none, mslot, mstar, mrev, mjoin, swh, List.getElem?_cons_zero, List.getElem?_cons_succ, List.set_cons_zero, List.set_cons_succ, Option.map_some, Option.map_none, if_true, if_false, Bool.false_eq_true, put_nm, put_tp, puts_nil, puts_cons, List.length_cons, List.length_nil, List.map_cons, List.map_nil, List.cons_append, List.nil_append, List.replicate_succ, List.replicate_zero, ite_true, ite_false, bind_ite, toS_ite, seq_nx, seq_rt, seq_bk, seq_ct, seq_err, seq_bad, seq_ite, toR_nx, toR_rt, toR_err, toR_bad, toR_ite, condO_some, condO_none, truD_bl, truD_int, truD_non, boolO_bl, bin_add_int, bin_sub_int, cmp_le_int, cmp_lt_int, cmp_ge_int, cmp_gt_int, cmp_eq_int, cmp_ne_int, cmp_ne_bl, Res.wp_ok, Res.wp_err, Res.wp_bad, Res.wp_bind, Res.wp_ite, SRes.wp_toS, SRes.wp_nx, SRes.wp_rt, SRes.wp_bk, SRes.wp_ct, SRes.wp_err, SRes.wp_bad, SRes.wp_seq, SRes.wp_ite, Res.wp_condO, Res.wp_toR, Nat.reduceAdd, Nat.reduceSub, Nat.reduceLT, Nat.reduceEqDiff, reduceIte, Nat.zero_add, and_self, true_and, and_true, Int.reduceLT, Int.reduceNeg, D.isTup, D.isLst, Bool.or_false, Bool.false_or, len_fls, Bool.not_true, beq_self_eq_true, D.live, lw, D.seq, pairs_twin, fExtend, D.tseq, List.length_map, zz xs rfl, ls]
        obtain ⟨ps', i', q⟩ := step xs rfl rfl kx _ _
        exact ⟨ps', i', _, _, q⟩
      | non =>
        simp only [semSs, semS, semB, semE, semT, semL, semA, semO, semQ, semN, semK, semI, BI.f, MI.f, sseq_c, sret, sretN, snext, sbreak, scont, sdrop, sif, sasg, spar2, spar3, ssub, saug, saugS, toS_ok, toS_err, toS_bad, bnd, mret, mnil, mcons, mtup, mcallB, mcall, mval, mnew, mnewD, mlist, mlistOf, mlistZip, mmeth, msl, mpart, mif_c, vnot, vand_c, vor_c, tnot, tand_c, tor_c, tru, t2, e2, DL.e1, chain_c, chainT_c, bind_ok, bind_err, bind_bad, ofO_some, ofO_none, mslot, mstar, mrev, mjoin, swh, List.getElem?_cons_zero, List.getElem?_cons_succ, List.set_cons_zero, List.set_cons_succ, Option.map_some, Option.map_none, if_true, if_false, Bool.false_eq_true, put_nm, put_tp, puts_nil, puts_cons, List.length_cons, List.length_nil, List.map_cons, List.map_nil, List.cons_append, List.nil_append, List.replicate_succ, List.replicate_zero, ite_true, ite_false, bind_ite, toS_ite, seq_nx, seq_rt, seq_bk, seq_ct, seq_err, seq_bad, seq_ite, toR_nx, toR_rt, toR_err, toR_bad, toR_ite, condO_some, condO_none, truD_bl, truD_int, truD_non, boolO_bl, bin_add_int, bin_sub_int, cmp_le_int, cmp_lt_int, cmp_ge_int, cmp_gt_int, cmp_eq_int, cmp_ne_int, cmp_ne_bl, Res.wp_ok, Res.wp_err, Res.wp_bad, Res.wp_bind, Res.wp_ite, SRes.wp_toS, SRes.wp_nx, SRes.wp_rt, SRes.wp_bk, SRes.wp_ct, SRes.wp_err, SRes.wp_bad, SRes.wp_seq, SRes.wp_ite, Res.wp_condO, Res.wp_toR, Nat.reduceAdd, Nat.reduceSub, Nat.reduceLT, Nat.reduceEqDiff, reduceIte, Nat.zero_add, and_self, true_and, and_true, Int.reduceLT, Int.reduceNeg, D.isTup, D.isLst, Bool.or_false, Bool.false_or, cmp_ne_same (h := h ++ [.lst (ps.map twin)]) kx rfl rfl]
        obtain ⟨ps', i', q⟩ := stop _ _ (leaf rfl rfl)
        exact ⟨ps', i', _, _, q⟩
      | bl b =>
        simp only [semSs, semS, semB, semE, semT, semL, semA, semO, semQ, semN, semK, semI, BI.f, MI.f, sseq_c, sret, sretN, snext, sbreak, scont, sdrop, sif, sasg, spar2, spar3, ssub, saug, saugS, toS_ok, toS_err, toS_bad, bnd, mret, mnil, mcons, mtup, mcallB, mcall, mval, mnew, mnewD, mlist, mlistOf, mlistZip, mmeth, msl, mpart, mif_c, vnot, vand_c, vor_c, tnot, tand_c, tor_c, tru, t2, e2, DL.e1, chain_c, chainT_c, bind_ok, bind_err, bind_bad, ofO_some, ofO_none, mslot, mstar, mrev, mjoin, swh, List.getElem?_cons_zero, List.getElem?_cons_succ, List.set_cons_zero, List.set_cons_succ, Option.map_some, Option.map_none, if_true, if_false, Bool.false_eq_true, put_nm, put_tp, puts_nil, puts_cons, List.length_cons, List.length_nil, List.map_cons, List.map_nil, List.cons_append, List.nil_append, List.replicate_succ, List.replicate_zero, ite_true, ite_false, bind_ite, toS_ite, seq_nx, seq_rt, seq_bk, seq_ct, seq_err, seq_bad, seq_ite, toR_nx, toR_rt, toR_err, toR_bad, toR_ite, condO_some, condO_none, truD_bl, truD_int, truD_non, boolO_bl, bin_add_int, bin_sub_int, cmp_le_int, cmp_lt_int, cmp_ge_int, cmp_gt_int, cmp_eq_int, cmp_ne_int, cmp_ne_bl, Res.wp_ok, Res.wp_err, Res.wp_bad, Res.wp_bind, Res.wp_ite, SRes.wp_toS, SRes.wp_nx, SRes.wp_rt, SRes.wp_bk, SRes.wp_ct, SRes.wp_err, SRes.wp_bad, SRes.wp_seq, SRes.wp_ite, Res.wp_condO, Res.wp_toR, Nat.reduceAdd, Nat.reduceSub, Nat.reduceLT, Nat.reduceEqDiff, reduceIte, Nat.zero_add, and_self, true_and, and_true, Int.reduceLT, Int.reduceNeg, D.isTup, D.isLst, Bool.or_false, Bool.false_or, cmp_ne_same (h := h ++ [.lst (ps.map twin)]) kx rfl rfl]
        obtain ⟨ps', i', q⟩ := stop _ _ (leaf rfl rfl)
        exact ⟨ps', i', _, _, q⟩
      | int j =>
        simp only [semSs, semS, semB, semE, semT, semL, semA, semO, semQ, semN, semK, semI, BI.f, MI.f, sseq_c, sret, sretN, snext, sbreak, scont, sdrop, sif, sasg, spar2, spar3, ssub, saug, saugS, toS_ok, toS_err, toS_bad, bnd, mret, mnil, mcons, mtup, mcallB, mcall, mval, mnew, mnewD, mlist, mlistOf, mlistZip, mmeth, msl, mpart, mif_c, vnot, vand_c, vor_c, tnot, tand_c, tor_c, tru, t2, e2, DL.e1, chain_c, chainT_c, bind_ok, bind_err, bind_bad, ofO_some, ofO_none, mslot, mstar, mrev, mjoin, swh, List.getElem?_cons_zero, List.getElem?_cons_succ, List.set_cons_zero, List.set_cons_succ, Option.map_some, Option.map_none, if_true, if_false, Bool.false_eq_true, put_nm, put_tp, puts_nil, puts_cons, List.length_cons, List.length_nil, List.map_cons, List.map_nil, List.cons_append, List.nil_append, List.replicate_succ, List.replicate_zero, ite_true, ite_false, bind_ite, toS_ite, seq_nx, seq_rt, seq_bk, seq_ct, seq_err, seq_bad, seq_ite, toR_nx, toR_rt, toR_err, toR_bad, toR_ite, condO_some, condO_none, truD_bl, truD_int, truD_non, boolO_bl, bin_add_int, bin_sub_int, cmp_le_int, cmp_lt_int, cmp_ge_int, cmp_gt_int, cmp_eq_int, cmp_ne_int, cmp_ne_bl, Res.wp_ok, Res.wp_err, Res.wp_bad, Res.wp_bind, Res.wp_ite, SRes.wp_toS, SRes.wp_nx, SRes.wp_rt, SRes.wp_bk, SRes.wp_ct, SRes.wp_err, SRes.wp_bad, SRes.wp_seq, SRes.wp_ite, Res.wp_condO, Res.wp_toR, Nat.reduceAdd, Nat.reduceSub, Nat.reduceLT, Nat.reduceEqDiff, reduceIte, Nat.zero_add, and_self, true_and, and_true, Int.reduceLT, Int.reduceNeg, D.isTup, D.isLst, Bool.or_false, Bool.false_or, cmp_ne_same (h := h ++ [.lst (ps.map twin)]) kx rfl rfl]
        obtain ⟨ps', i', q⟩ := stop _ _ (leaf rfl rfl)
        exact ⟨ps', i', _, _, q⟩
      | str y =>
        simp only [semSs, semS, semB, semE, semT, semL, semA, semO, semQ, semN, semK, semI, BI.f, MI.f, sseq_c, sret, sretN, snext, sbreak, scont, sdrop, sif, sasg, spar2, spar3, ssub, saug, saugS, toS_ok, toS_err, toS_bad, bnd, mret, mnil, mcons, mtup, mcallB, mcall, mval, mnew, mnewD, mlist, mlistOf, mlistZip, mmeth, msl, mpart, mif_c, vnot, vand_c, vor_c, tnot, tand_c, tor_c, tru, t2, e2, DL.e1, chain_c, chainT_c, bind_ok, bind_err, bind_bad, ofO_some, ofO_none, mslot, mstar, mrev, mjoin, swh, List.getElem?_cons_zero, List.getElem?_cons_succ, List.set_cons_zero, List.set_cons_succ, Option.map_some, Option.map_none, if_true, if_false, Bool.false_eq_true, put_nm, put_tp, puts_nil, puts_cons, List.length_cons, List.length_nil, List.map_cons, List.map_nil, List.cons_append, List.nil_append, List.replicate_succ, List.replicate_zero, ite_true, ite_false, bind_ite, toS_ite, seq_nx, seq_rt, seq_bk, seq_ct, seq_err, seq_bad, seq_ite, toR_nx, toR_rt, toR_err, toR_bad, toR_ite, condO_some, condO_none, truD_bl, truD_int, truD_non, boolO_bl, bin_add_int, bin_sub_int, cmp_le_int, cmp_lt_int, cmp_ge_int, cmp_gt_int, cmp_eq_int, cmp_ne_int, cmp_ne_bl, Res.wp_ok, Res.wp_err, Res.wp_bad, Res.wp_bind, Res.wp_ite, SRes.wp_toS, SRes.wp_nx, SRes.wp_rt, SRes.wp_bk, SRes.wp_ct, SRes.wp_err, SRes.wp_bad, SRes.wp_seq, SRes.wp_ite, Res.wp_condO, Res.wp_toR, Nat.reduceAdd, Nat.reduceSub, Nat.reduceLT, Nat.reduceEqDiff, reduceIte, Nat.zero_add, and_self, true_and, and_true, Int.reduceLT, Int.reduceNeg, D.isTup, D.isLst, Bool.or_false, Bool.false_or, cmp_ne_same (h := h ++ [.lst (ps.map twin)]) kx rfl rfl]
        obtain ⟨ps', i', q⟩ := stop _ _ (leaf rfl rfl)
        exact ⟨ps', i', _, _, q⟩
    · have hlt' : ¬ (i : Int) < (ps.length : Int) := by omega
      simp only [decide_eq_true_eq, hlt', if_false]
      exact ⟨_, rfl⟩
  obtain ⟨a, h', e, e1, g, e2⟩ := Res.wp_is w
  exact ⟨g, by rw [e, e1, e2]⟩
end DL
end

section
set_option maxHeartbeats 2000000
/-! alike, of things that hold empty dicts, too -/
namespace DL
open PySem PySem.Spec PyProof.Rows L2
mutual
def D.okR (q : Nat → Bool) : D → Bool
  | .tup ds => D.okRs q ds
  | .lst ds => D.okRs q ds
  | .fls ds => D.okRs q ds
  | .str x => PyData.strOk x
  | .ref i => q i
  | .opq _ => false
  | .exc _ _ _ => false
  | _ => true
def D.okRs (q : Nat → Bool) : List D → Bool
  | [] => true
  | d :: ds => D.okR q d && D.okRs q ds
end
theorem okRs_all {q : Nat → Bool} : ∀ {ds : List D}, D.okRs q ds = true → ∀ d ∈ ds, d.okR q = true
  | [], _, _, h => by cases h
  | d :: ds, h, x, hx => by
    simp only [D.okRs, Bool.and_eq_true] at h
    rcases List.mem_cons.mp hx with e | hx
    · rw [e]; exact h.1
    · exact okRs_all h.2 x hx
theorem kit_dict_bool : kitB "dict" "bool" = some false := by decide +kernel
theorem kit_dict_str : kitB "dict" "str" = some false := by decide +kernel
theorem kit_dict_tuple : kitB "dict" "tuple" = some false := by decide +kernel
theorem kit_dict_list : kitB "dict" "list" = some false := by decide +kernel
theorem okR_tests {q : Nat → Bool} {h : DH} {d : D} (hq : ∀ i, q i = true → h[i]? = some (.dK [])) (k : d.okR q = true) :
    fIsi h [d, .opq (.ty "bool")] = some (.bl d.isBool) ∧ fIsi h [d, .opq (.ty "str")] = some (.bl d.isStr) ∧ fIsiT h [d, .tup [.opq (.ty "tuple"), .opq (.ty "list")]] = some (.bl (d.isTup || d.isLst)) ∧ fIsi h [d, .opq (.ty "tuple")] = some (.bl d.isTup) := by
  by_cases v : d.val = true
  · exact ⟨isi_bool v, isi_str v, isiT_tl v, isi_tuple v⟩
  · cases d with
    | ref i =>
      have e := hq i k
      have t : (D.ref i).tyo h = some "dict" := by simp only [D.tyo, e]
      refine ⟨?_, ?_, ?_, ?_⟩
      · simp only [fIsi, t, kit_dict_bool]; rfl
      · simp only [fIsi, t, kit_dict_str]; rfl
      · simp only [fIsiT, t, D.tyns, D.tyn, kitAll, kit_dict_tuple, kit_dict_list]; rfl
      · simp only [fIsi, t, kit_dict_tuple]; rfl
    | opq _ => cases k
    | exc _ _ _ => cases k
    | _ => exact absurd rfl v
theorem cmp_ne_sameR {q : Nat → Bool} {h : DH} {d : D} (hq : ∀ i, q i = true → h[i]? = some (.dK [])) (k : d.okR q = true) (k1 : d.isTup = false) (k2 : d.isLst = false) : cmpD .NotEq h d d = some (.bl false) := by
  cases d with
  | ref i =>
    have e := hq i k
    have t : (D.ref i).dict h = some [] := by simp only [D.dict, e]
    have p : (D.ref i).pyh h = none := by simp only [D.pyh, e]
    show fOr fNe fNeK h (.ref i) (.ref i) = _
    simp only [fOr, fNe, fNeK, t, p]
  | tup _ => cases k1
  | lst _ => cases k2
  | fls _ => cases k2
  | opq _ => cases k
  | exc _ _ _ => cases k
  | non => exact cmp_ne_same rfl rfl rfl
  | bl b => exact cmp_ne_same rfl rfl rfl
  | int i => exact cmp_ne_same rfl rfl rfl
  | str x => exact cmp_ne_same k rfl rfl
/-- one turn of the walk over pairs -/
theorem wp_alikeR {T : Tab} {h : DH} {q : Nat → Bool} {d : D} (hq : ∀ i, q i = true → h[i]? = some (.dK [])) (hk : d.okR q = true) (hn : d.nodes ≤ 1000000) : ∃ g, run T 6 c__law_alike [d, d] h = .ok (.bl true) (h ++ g) := by
  have z6 : (1000000 : Nat) ≤ sizeLine := by decide
  have z2 : (2 : Nat) ≤ sizeLine := by decide
  have z1 : (1 : Nat) ≤ sizeLine := by decide
  have lw : ∀ o : DO, (h ++ [o])[h.length]? = some o := fun o => by simp
  have ls : ∀ o o' : DO, (h ++ [o]).set h.length o' = h ++ [o'] := fun o o' => by simp
  have w : (run T 6 c__law_alike [d, d] h).wp fun r h' => r = .bl true ∧ ∃ g, h' = h ++ g := by
    unfold run c__law_alike DL.start
    simp only [semSs, semS, semB, semE, semT, semL, semA, semO, semQ, semN, semK, semI, BI.f, MI.f, sseq_c, sret, sretN, snext, sbreak, scont, sdrop, sif, sasg, spar2, spar3, ssub, saug, saugS, toS_ok, toS_err, toS_bad, bnd, mret, mnil, mcons, mtup, mcallB, mcall, mval, mnew, mnewD, mlist, mlistOf, mlistZip, mmeth, msl, mpart, mif_c, vnot, vand_c, vor_c, tnot, tand_c, tor_c, tru, t2, e2, DL.e1, chain_c, chainT_c, bind_ok, bind_err, bind_bad, ofO_some, ofO_none, mslot, mstar, mrev, mjoin, swh, List.getElem?_cons_zero, List.getElem?_cons_succ, List.set_cons_zero, List.set_cons_succ, Option.map_some, Option.map_none, if_true, if_false, Bool.false_eq_true, put_nm, put_tp, puts_nil, puts_cons, List.length_cons, List.length_nil, List.map_cons, List.map_nil, List.cons_append, List.nil_append, List.replicate_succ, List.replicate_zero, ite_true, ite_false, bind_ite, toS_ite, seq_nx, seq_rt, seq_bk, seq_ct, seq_err, seq_bad, seq_ite, toR_nx, toR_rt, toR_err, toR_bad, toR_ite, condO_some, condO_none, truD_bl, truD_int, truD_non, boolO_bl, bin_add_int, bin_sub_int, cmp_le_int, cmp_lt_int, cmp_ge_int, cmp_gt_int, cmp_eq_int, cmp_ne_int, cmp_ne_bl, Res.wp_ok, Res.wp_err, Res.wp_bad, Res.wp_bind, Res.wp_ite, SRes.wp_toS, SRes.wp_nx, SRes.wp_rt, SRes.wp_bk, SRes.wp_ct, SRes.wp_err, SRes.wp_bad, SRes.wp_seq, SRes.wp_ite, Res.wp_condO, Res.wp_toR, Nat.reduceAdd, Nat.reduceSub, Nat.reduceLT, Nat.reduceEqDiff, reduceIte, Nat.zero_add, and_self, true_and, and_true, Int.reduceLT, Int.reduceNeg, z1, z2, swh, fuelA]
    refine wp_wh (fun m s h' => ∃ (ps : List D) (i : Nat) (o1 o2 : Option D), s = [some d, some d, some (.ref h.length), some (.int i), o1, o2] ∧ h' = h ++ [.lst (ps.map twin)] ∧ i ≤ ps.length ∧ D.okRs q ps = true ∧ m = D.nodess (ps.drop i) ∧ i + D.nodess (ps.drop i) = d.nodes) ?_ _ d.nodes _ _ ⟨[d], 0, none, none, rfl, rfl, Nat.zero_le _, by simp [D.okRs, hk], by simp [D.nodess], by simp [D.nodess]⟩ (Nat.le_succ _)
    rintro m s h' ⟨ps, i, o1, o2, rfl, rfl, hi, ho, rfl, hs⟩
    have hg : ∀ i, q i = true → (h ++ [DO.lst (ps.map twin)])[i]? = some (.dK []) := fun i hi => by
      have e := hq i hi
      rw [List.getElem?_append_left (List.getElem?_eq_some_iff.mp e).1]; exact e
    have hle : ps.length ≤ d.nodes := by
      have := nodess_len (ps.drop i)
      rw [List.length_drop] at this
      omega
    simp only [semSs, semS, semB, semE, semT, semL, semA, semO, semQ, semN, semK, semI, BI.f, MI.f, sseq_c, sret, sretN, snext, sbreak, scont, sdrop, sif, sasg, spar2, spar3, ssub, saug, saugS, toS_ok, toS_err, toS_bad, bnd, mret, mnil, mcons, mtup, mcallB, mcall, mval, mnew, mnewD, mlist, mlistOf, mlistZip, mmeth, msl, mpart, mif_c, vnot, vand_c, vor_c, tnot, tand_c, tor_c, tru, t2, e2, DL.e1, chain_c, chainT_c, bind_ok, bind_err, bind_bad, ofO_some, ofO_none, mslot, mstar, mrev, mjoin, swh, List.getElem?_cons_zero, List.getElem?_cons_succ, List.set_cons_zero, List.set_cons_succ, Option.map_some, Option.map_none, if_true, if_false, Bool.false_eq_true, put_nm, put_tp, puts_nil, puts_cons, List.length_cons, List.length_nil, List.map_cons, List.map_nil, List.cons_append, List.nil_append, List.replicate_succ, List.replicate_zero, ite_true, ite_false, bind_ite, toS_ite, seq_nx, seq_rt, seq_bk, seq_ct, seq_err, seq_bad, seq_ite, toR_nx, toR_rt, toR_err, toR_bad, toR_ite, condO_some, condO_none, truD_bl, truD_int, truD_non, boolO_bl, bin_add_int, bin_sub_int, cmp_le_int, cmp_lt_int, cmp_ge_int, cmp_gt_int, cmp_eq_int, cmp_ne_int, cmp_ne_bl, Res.wp_ok, Res.wp_err, Res.wp_bad, Res.wp_bind, Res.wp_ite, SRes.wp_toS, SRes.wp_nx, SRes.wp_rt, SRes.wp_bk, SRes.wp_ct, SRes.wp_err, SRes.wp_bad, SRes.wp_seq, SRes.wp_ite, Res.wp_condO, Res.wp_toR, Nat.reduceAdd, Nat.reduceSub, Nat.reduceLT, Nat.reduceEqDiff, reduceIte, Nat.zero_add, and_self, true_and, and_true, Int.reduceLT, Int.reduceNeg, len_refL _ _ _ (lw _), List.length_map]
    by_cases hlt : i < ps.length
    · have hlt' : (i : Int) < (ps.length : Int) := by omega
      obtain ⟨x, hx⟩ : ∃ x, ps[i]? = some x := ⟨ps[i], List.getElem?_eq_getElem hlt⟩
      have kx : x.okR q = true := okRs_all ho x (List.mem_of_getElem? hx)
      have vx := okR_tests hg kx
      have ax : atI (ps.map twin) (i : Int) = some (.tup [x, x]) := by rw [atI_nat, List.getElem?_map, hx]; rfl
      have hdr : ps.drop i = x :: ps.drop (i + 1) := by
        rw [List.drop_eq_getElem_cons hlt]
        congr 1
        rw [List.getElem?_eq_getElem hlt] at hx
        exact Option.some.inj hx
      have nx := nodes_pos x
      simp only [decide_eq_true_eq, hlt', if_true]
      rw [hdr, D.nodess] at hs ⊢
      refine ⟨x.nodes - 1 + D.nodess (ps.drop (i + 1)), by omega, ?_⟩
      simp only [semSs, semS, semB, semE, semT, semL, semA, semO, semQ, semN, semK, semI, BI.f, MI.f, sseq_c, sret, sretN, snext, sbreak, scont, sdrop, sif, sasg, spar2, spar3, ssub, saug, saugS, toS_ok, toS_err, toS_bad, bnd, mret, mnil, mcons, mtup, mcallB, mcall, mval, mnew, mnewD, mlist, mlistOf, mlistZip, mmeth, msl, mpart, mif_c, vnot, vand_c, vor_c, tnot, tand_c, tor_c, tru, t2, e2, DL.e1, chain_c, chainT_c, bind_ok, bind_err, bind_bad, ofO_some, ofO_none, mslot, mstar, mrev, mjoin, swh, List.getElem?_cons_zero, List.getElem?_cons_succ, List.set_cons_zero, List.set_cons_succ, Option.map_some, Option.map_none, if_true, if_false, Bool.false_eq_true, put_nm, put_tp, puts_nil, puts_cons, List.length_cons, List.length_nil, List.map_cons, List.map_nil, List.cons_append, List.nil_append, List.replicate_succ, List.replicate_zero, ite_true, ite_false, bind_ite, toS_ite, seq_nx, seq_rt, seq_bk, seq_ct, seq_err, seq_bad, seq_ite, toR_nx, toR_rt, toR_err, toR_bad, toR_ite, condO_some, condO_none, truD_bl, truD_int, truD_non, boolO_bl, bin_add_int, bin_sub_int, cmp_le_int, cmp_lt_int, cmp_ge_int, cmp_gt_int, cmp_eq_int, cmp_ne_int, cmp_ne_bl, Res.wp_ok, Res.wp_err, Res.wp_bad, Res.wp_bind, Res.wp_ite, SRes.wp_toS, SRes.wp_nx, SRes.wp_rt, SRes.wp_bk, SRes.wp_ct, SRes.wp_err, SRes.wp_bad, SRes.wp_seq, SRes.wp_ite, Res.wp_condO, Res.wp_toR, Nat.reduceAdd, Nat.reduceSub, Nat.reduceLT, Nat.reduceEqDiff, reduceIte, Nat.zero_add, and_self, true_and, and_true, Int.reduceLT, Int.reduceNeg, ixA_ref, lw, ixR, ax, vx.1, vx.2.1, vx.2.2.1, vx.2.2.2, beq_self_eq_true, Bool.not_true, iop_add, z2]
      have step : ∀ (xs : List D), x.seq (h ++ [.lst (ps.map twin)]) = some xs → x.nodes = D.nodess xs + 1 → D.okRs q xs = true → ∀ o1 o2 : Option D, ∃ (ps' : List D) (i' : Nat), [some d, some d, some (D.ref h.length), some (.int (i + 1)), o1, o2] = [some d, some d, some (.ref h.length), some (.int i'), o1, o2] ∧ h ++ [.lst (ps.map twin ++ xs.map twin)] = h ++ [.lst (ps'.map twin)] ∧
          i' ≤ ps'.length ∧ D.okRs q ps' = true ∧ x.nodes - 1 + D.nodess (ps.drop (i + 1)) = D.nodess (ps'.drop i') ∧ i' + D.nodess (ps'.drop i') = d.nodes := fun xs h1 h2 h3 o1 o2 => by
        refine ⟨ps ++ xs, i + 1, by rw [Int.natCast_add]; rfl, by rw [List.map_append], by rw [List.length_append]; omega, ?_, ?_, ?_⟩
        · have oa : ∀ a b : List D, D.okRs q a = true → D.okRs q b = true → D.okRs q (a ++ b) = true := by
            intro a b h1 h2
            induction a with
            | nil => exact h2
            | cons y ys ih =>
              simp only [D.okRs, Bool.and_eq_true, List.cons_append] at h1 ⊢
              exact ⟨h1.1, ih h1.2⟩
          exact oa ps xs ho h3
        · rw [List.drop_append_of_le_length (by omega), nodess_append]; omega
        · rw [List.drop_append_of_le_length (by omega), nodess_append]; omega
      have leaf : x.isTup = false → x.isLst = false → D.nodess (ps.drop (i + 1)) = x.nodes - 1 + D.nodess (ps.drop (i + 1)) := fun a b => by
        have : x.nodes = 1 := by cases x <;> first | rfl | exact absurd a (by decide) | exact absurd b (by decide) | (cases a; done) | (cases b; done)
        omega
      have zz : ∀ xs : List D, x.nodes = D.nodess xs + 1 → ps.length + xs.length ≤ sizeLine := fun xs e => by
        have := nodess_len xs
        have h2 := nodess_len (ps.drop (i + 1))
        rw [List.length_drop] at h2
        omega
      have stop : ∀ o1 o2 : Option D, D.nodess (ps.drop (i + 1)) = x.nodes - 1 + D.nodess (ps.drop (i + 1)) → ∃ (ps' : List D) (i' : Nat), [some d, some d, some (D.ref h.length), some (.int (i + 1)), o1, o2] = [some d, some d, some (.ref h.length), some (.int i'), o1, o2] ∧ h ++ [.lst (ps.map twin)] = h ++ [.lst (ps'.map twin)] ∧
          i' ≤ ps'.length ∧ D.okRs q ps' = true ∧ x.nodes - 1 + D.nodess (ps.drop (i + 1)) = D.nodess (ps'.drop i') ∧ i' + D.nodess (ps'.drop i') = d.nodes := fun o1 o2 e =>
        ⟨ps, i + 1, by rw [Int.natCast_add]; rfl, rfl, by omega, ho, e.symm, by omega⟩
      cases x with
      | ref j =>
        simp only [semSs, semS, semB, semE, semT, semL, semA, semO, semQ, semN, semK, semI, BI.f, MI.f, sseq_c, sret, sretN, snext, sbreak, scont, sdrop, sif, sasg, spar2, spar3, ssub, saug, saugS, toS_ok, toS_err, toS_bad, bnd, mret, mnil, mcons, mtup, mcallB, mcall, mval, mnew, mnewD, mlist, mlistOf, mlistZip, mmeth, msl, mpart, mif_c, vnot, vand_c, vor_c, tnot, tand_c, tor_c, tru, t2, e2, DL.e1, chain_c, chainT_c, bind_ok, bind_err, bind_bad, ofO_some, ofO_none, mslot, mstar, mrev, mjoin, swh, List.getElem?_cons_zero, List.getElem?_cons_succ, List.set_cons_zero, List.set_cons_succ, Option.map_some, Option.map_none, if_true, if_false, Bool.false_eq_true, put_nm, put_tp, puts_nil, puts_cons, List.length_cons, List.length_nil, List.map_cons, List.map_nil, List.cons_append, List.nil_append, List.replicate_succ, List.replicate_zero, ite_true, ite_false, bind_ite, toS_ite, seq_nx, seq_rt, seq_bk, seq_ct, seq_err, seq_bad, seq_ite, toR_nx, toR_rt, toR_err, toR_bad, toR_ite, condO_some, condO_none, truD_bl, truD_int, truD_non, boolO_bl, bin_add_int, bin_sub_int, cmp_le_int, cmp_lt_int, cmp_ge_int, cmp_gt_int, cmp_eq_int, cmp_ne_int, cmp_ne_bl, Res.wp_ok, Res.wp_err, Res.wp_bad, Res.wp_bind, Res.wp_ite, SRes.wp_toS, SRes.wp_nx, SRes.wp_rt, SRes.wp_bk, SRes.wp_ct, SRes.wp_err, SRes.wp_bad, SRes.wp_seq, SRes.wp_ite, Res.wp_condO, Res.wp_toR, Nat.reduceAdd, Nat.reduceSub, Nat.reduceLT, Nat.reduceEqDiff, reduceIte, Nat.zero_add, and_self, true_and, and_true, Int.reduceLT, Int.reduceNeg, D.isTup, D.isLst, Bool.or_false, Bool.false_or, cmp_ne_sameR (h := h ++ [.lst (ps.map twin)]) hg kx rfl rfl]
        obtain ⟨ps', i', qq⟩ := stop _ _ (leaf rfl rfl)
        exact ⟨ps', i', _, _, qq⟩
      | opq _ => cases kx
      | exc _ _ _ => cases kx
      | tup xs =>
        simp only [semSs, semS, semB, semE, semT, semL, semA, semO, semQ, semN, semK, semI, BI.f, MI.f, sseq_c, sret, sretN, snext, sbreak, scont, sdrop, sif, sasg, spar2, spar3, ssub, saug, saugS, toS_ok, toS_err, toS_bad, bnd, mret, mnil, mcons, mtup, mcallB, mcall, mval, mnew, mnewD, mlist, mlistOf, mlistZip, mmeth, msl, mpart, mif_c, vnot, vand_c, vor_c, tnot, tand_c, tor_c, tru, t2, e2, DL.e1, chain_c, chainT_c, bind_ok, bind_err, bind_bad, ofO_some, ofO_none, mslot, mstar, mrev, mjoin, swh, List.getElem?_cons_zero, List.getElem?_cons_succ, List.set_cons_zero, List.set_cons_succ, Option.map_some, Option.map_none, if_true, if_false, Bool.false_eq_true, put_nm, put_tp, puts_nil, puts_cons, List.length_cons, List.length_nil, List.map_cons, List.map_nil, List.cons_append, List.nil_append, List.replicate_succ, List.replicate_zero, ite_true, ite_false, bind_ite, toS_ite, seq_nx, seq_rt, seq_bk, seq_ct, seq_err, seq_bad, seq_ite, toR_nx, toR_rt, toR_err, toR_bad, toR_ite, condO_some, condO_none, truD_bl, truD_int, truD_non, boolO_bl, bin_add_int, bin_sub_int, cmp_le_int, cmp_lt_int, cmp_ge_int, cmp_gt_int, cmp_eq_int, cmp_ne_int, cmp_ne_bl, Res.wp_ok, Res.wp_err, Res.wp_bad, Res.wp_bind, Res.wp_ite, SRes.wp_toS, SRes.wp_nx, SRes.wp_rt, SRes.wp_bk, SRes.wp_ct, SRes.wp_err, SRes.wp_bad, SRes.wp_seq, SRes.wp_ite, Res.wp_condO, Res.wp_toR, Nat.reduceAdd, Nat.reduceSub, Nat.reduceLT, Nat.reduceEqDiff, reduceIte, Nat.zero_add, and_self, true_and, and_true, Int.reduceLT, Int.reduceNeg, D.isTup, D.isLst, Bool.or_false, Bool.false_or, len_tup, Bool.not_true, beq_self_eq_true, D.live, lw, D.seq, pairs_twin, fExtend, D.tseq, List.length_map, zz xs rfl, ls]
        obtain ⟨ps', i', qq⟩ := step xs rfl rfl kx _ _
        exact ⟨ps', i', _, _, qq⟩
      | lst xs =>
        simp only [semSs, semS, semB, semE, semT, semL, semA, semO, semQ, semN, semK, semI, BI.f, MI.f, sseq_c, sret, sretN, snext, sbreak, scont, sdrop, sif, sasg, spar2, spar3, ssub, saug, saugS, toS_ok, toS_err, toS_bad, bnd, mret, mnil, mcons, mtup, mcallB, mcall, mval, mnew, mnewD, mlist, mlistOf, mlistZip, mmeth, msl, mpart, mif_c, vnot, vand_c, vor_c, tnot, tand_c, tor_c, tru, t2, e2, DL.e1, chain_c, chainT_c, bind_ok, bind_err, bind_bad, ofO_some, ofO_none, mslot, mstar, mrev, mjoin, swh, List.getElem?_cons_zero, List.getElem?_cons_succ, List.set_cons_zero, List.set_cons_succ, Option.map_some, Option.map_none, if_true, if_false, Bool.false_eq_true, put_nm, put_tp, puts_nil, puts_cons, List.length_cons, List.length_nil, List.map_cons, List.map_nil, List.cons_append, List.nil_append, List.replicate_succ, List.replicate_zero, ite_true, ite_false, bind_ite, toS_ite, seq_nx, seq_rt, seq_bk, seq_ct, seq_err, seq_bad, seq_ite, toR_nx, toR_rt, toR_err, toR_bad, toR_ite, condO_some, condO_none, truD_bl, truD_int, truD_non, boolO_bl, bin_add_int, bin_sub_int, cmp_le_int, cmp_lt_int, cmp_ge_int, cmp_gt_int, cmp_eq_int, cmp_ne_int, cmp_ne_bl, Res.wp_ok, Res.wp_err, Res.wp_bad, Res.wp_bind, Res.wp_ite, SRes.wp_toS, SRes.wp_nx, SRes.wp_rt, SRes.wp_bk, SRes.wp_ct, SRes.wp_err, SRes.wp_bad, SRes.wp_seq, SRes.wp_ite, Res.wp_condO, Res.wp_toR, Nat.reduceAdd, Nat.reduceSub, Nat.reduceLT, Nat.reduceEqDiff, reduceIte, Nat.zero_add, and_self, true_and, and_true, Int.reduceLT, Int.reduceNeg, D.isTup, D.isLst, Bool.or_false, Bool.false_or, len_lst, Bool.not_true, beq_self_eq_true, D.live, lw, D.seq, pairs_twin, fExtend, D.tseq, List.length_map, zz xs rfl, ls]
        obtain ⟨ps', i', qq⟩ := step xs rfl rfl kx _ _
        exact ⟨ps', i', _, _, qq⟩
      | fls xs =>
        simp only [semSs, semS, semB, semE, semT, semL, semA, semO, semQ, semN, semK, semI, BI.f, MI.f, sseq_c, sret, sretN, snext, sbreak, scont, sdrop, sif, sasg, spar2, spar3, ssub, saug, saugS, toS_ok, toS_err, toS_bad, bnd, mret, mnil, mcons, mtup, mcallB, mcall, mval, mnew, mnewD, mlist, mlistOf, mlistZip, mmeth, msl, mpart, mif_c, vnot, vand_c, vor_c, tnot, tand_c, tor_c, tru, t2, e2, DL.e1, chain_c, chainT_c, bind_ok, bind_err, bind_bad, ofO_some, ofO_none, mslot, mstar, mrev, mjoin, swh, List.getElem?_cons_zero, List.getElem?_cons_succ, List.set_cons_zero, List.set_cons_succ, Option.map_some, Option.map_none, if_true, if_false, Bool.false_eq_true, put_nm, put_tp, puts_nil, puts_cons, List.length_cons, List.length_nil, List.map_cons, List.map_nil, List.cons_append, List.nil_append, List.replicate_succ, List.replicate_zero, ite_true, ite_false, bind_ite, toS_ite, seq_nx, seq_rt, seq_bk, seq_ct, seq_err, seq_bad, seq_ite, toR_nx, toR_rt, toR_err, toR_bad, toR_ite, condO_some, condO_none, truD_bl, truD_int, truD_non, boolO_bl, bin_add_int, bin_sub_int, cmp_le_int, cmp_lt_int, cmp_ge_int, cmp_gt_int, cmp_eq_int, cmp_ne_int, cmp_ne_bl, Res.wp_ok, Res.wp_err, Res.wp_bad, Res.wp_bind, Res.wp_ite, SRes.wp_toS, SRes.wp_nx, SRes.wp_rt, SRes.wp_bk, SRes.wp_ct, SRes.wp_err, SRes.wp_bad, SRes.wp_seq, SRes.wp_ite, Res.wp_condO, Res.wp_toR, Nat.reduceAdd, Nat.reduceSub, Nat.reduceLT, Nat.reduceEqDiff, reduceIte, Nat.zero_add, and_self, true_and, and_true, Int.reduceLT, Int.reduceNeg, D.isTup, D.isLst, Bool.or_false, Bool.false_or, len_fls, Bool.not_true, beq_self_eq_true, D.live, lw, D.seq, pairs_twin, fExtend, D.tseq, List.length_map, zz xs rfl, ls]
        obtain ⟨ps', i', qq⟩ := step xs rfl rfl kx _ _
        exact ⟨ps', i', _, _, qq⟩
      | non =>
        simp only [semSs, semS, semB, semE, semT, semL, semA, semO, semQ, semN, semK, semI, BI.f, MI.f, sseq_c, sret, sretN, snext, sbreak, scont, sdrop, sif, sasg, spar2, spar3, ssub, saug, saugS, toS_ok, toS_err, toS_bad, bnd, mret, mnil, mcons, mtup, mcallB, mcall, mval, mnew, mnewD, mlist, mlistOf, mlistZip, mmeth, msl, mpart, mif_c, vnot, vand_c, vor_c, tnot, tand_c, tor_c, tru, t2, e2, DL.e1, chain_c, chainT_c, bind_ok, bind_err, bind_bad, ofO_some, ofO_none, mslot, mstar, mrev, mjoin, swh, List.getElem?_cons_zero, List.getElem?_cons_succ, List.set_cons_zero, List.set_cons_succ, Option.map_some, Option.map_none, if_true, if_false, Bool.false_eq_true, put_nm, put_tp, puts_nil, puts_cons, List.length_cons, List.length_nil, List.map_cons, List.map_nil, List.cons_append, List.nil_append, List.replicate_succ, List.replicate_zero, ite_true, ite_false, bind_ite, toS_ite, seq_nx, seq_rt, seq_bk, seq_ct, seq_err, seq_bad, seq_ite, toR_nx, toR_rt, toR_err, toR_bad, toR_ite, condO_some, condO_none, truD_bl, truD_int, truD_non, boolO_bl, bin_add_int, bin_sub_int, cmp_le_int, cmp_lt_int, cmp_ge_int, cmp_gt_int, cmp_eq_int, cmp_ne_int, cmp_ne_bl, Res.wp_ok, Res.wp_err, Res.wp_bad, Res.wp_bind, Res.wp_ite, SRes.wp_toS, SRes.wp_nx, SRes.wp_rt, SRes.wp_bk, SRes.wp_ct, SRes.wp_err, SRes.wp_bad, SRes.wp_seq, SRes.wp_ite, Res.wp_condO, Res.wp_toR, Nat.reduceAdd, Nat.reduceSub, Nat.reduceLT, Nat.reduceEqDiff, reduceIte, Nat.zero_add, and_self, true_and, and_true, Int.reduceLT, Int.reduceNeg, D.isTup, D.isLst, Bool.or_false, Bool.false_or, cmp_ne_sameR (h := h ++ [.lst (ps.map twin)]) hg kx rfl rfl]
        obtain ⟨ps', i', qq⟩ := stop _ _ (leaf rfl rfl)
        exact ⟨ps', i', _, _, qq⟩
      | bl b =>
        simp only [semSs, semS, semB, semE, semT, semL, semA, semO, semQ, semN, semK, semI, BI.f, MI.f, sseq_c, sret, sretN, snext, sbreak, scont, sdrop, sif, sasg, spar2, spar3, ssub, saug, saugS, toS_ok, toS_err, toS_bad, bnd, mret, mnil, mcons, mtup, mcallB, mcall, mval, mnew, mnewD, mlist, mlistOf, mlistZip, mmeth, msl, mpart, mif_c, vnot, vand_c, vor_c, tnot, tand_c, tor_c, tru, t2, e2, DL.e1, chain_c, chainT_c, bind_ok, bind_err, bind_bad, ofO_some, ofO_none, mslot, mstar, mrev, mjoin, swh, List.getElem?_cons_zero, List.getElem?_cons_succ, List.set_cons_zero, List.set_cons_succ, Option.map_some, Option.map_none, if_true, if_false, Bool.false_eq_true, put_nm, put_tp, puts_nil, puts_cons, List.length_cons, List.length_nil, List.map_cons, List.map_nil, List.cons_append, List.nil_append, List.replicate_succ, List.replicate_zero, ite_true, ite_false, bind_ite, toS_ite, seq_nx, seq_rt, seq_bk, seq_ct, seq_err, seq_bad, seq_ite, toR_nx, toR_rt, toR_err, toR_bad, toR_ite, condO_some, condO_none, truD_bl, truD_int, truD_non, boolO_bl, bin_add_int, bin_sub_int, cmp_le_int, cmp_lt_int, cmp_ge_int, cmp_gt_int, cmp_eq_int, cmp_ne_int, cmp_ne_bl, Res.wp_ok, Res.wp_err, Res.wp_bad, Res.wp_bind, Res.wp_ite, SRes.wp_toS, SRes.wp_nx, SRes.wp_rt, SRes.wp_bk, SRes.wp_ct, SRes.wp_err, SRes.wp_bad, SRes.wp_seq, SRes.wp_ite, Res.wp_condO, Res.wp_toR, Nat.reduceAdd, Nat.reduceSub, Nat.reduceLT, Nat.reduceEqDiff, reduceIte, Nat.zero_add, and_self, true_and, and_true, Int.reduceLT, Int.reduceNeg, D.isTup, D.isLst, Bool.or_false, Bool.false_or, cmp_ne_sameR (h := h ++ [.lst (ps.map twin)]) hg kx rfl rfl]
        obtain ⟨ps', i', qq⟩ := stop _ _ (leaf rfl rfl)
        exact ⟨ps', i', _, _, qq⟩
      | int j =>
        simp only [semSs, semS, semB, semE, semT, semL, semA, semO, semQ, semN, semK, semI, BI.f, MI.f, sseq_c, sret, sretN, snext, sbreak, scont, sdrop, sif, sasg, spar2, spar3, ssub, saug, saugS, toS_ok, toS_err, toS_bad, bnd, mret, mnil, mcons, mtup, mcallB, mcall, mval, mnew, mnewD, mlist, mlistOf, mlistZip, mmeth, msl, mpart, mif_c, vnot, vand_c, vor_c, tnot, tand_c, tor_c, tru, t2, e2, DL.e1, chain_c, chainT_c, bind_ok, bind_err, bind_bad, ofO_some, ofO_none, mslot, mstar, mrev, mjoin, swh, List.getElem?_cons_zero, List.getElem?_cons_succ, List.set_cons_zero, List.set_cons_succ, Option.map_some, Option.map_none, if_true, if_false, Bool.false_eq_true, put_nm, put_tp, puts_nil, puts_cons, List.length_cons, List.length_nil, List.map_cons, List.map_nil, List.cons_append, List.nil_append, List.replicate_succ, List.replicate_zero, ite_true, ite_false, bind_ite, toS_ite, seq_nx, seq_rt, seq_bk, seq_ct, seq_err, seq_bad, seq_ite, toR_nx, toR_rt, toR_err, toR_bad, toR_ite, condO_some, condO_none, truD_bl, truD_int, truD_non, boolO_bl, bin_add_int, bin_sub_int, cmp_le_int, cmp_lt_int, cmp_ge_int, cmp_gt_int, cmp_eq_int, cmp_ne_int, cmp_ne_bl, Res.wp_ok, Res.wp_err, Res.wp_bad, Res.wp_bind, Res.wp_ite, SRes.wp_toS, SRes.wp_nx, SRes.wp_rt, SRes.wp_bk, SRes.wp_ct, SRes.wp_err, SRes.wp_bad, SRes.wp_seq, SRes.wp_ite, Res.wp_condO, Res.wp_toR, Nat.reduceAdd, Nat.reduceSub, Nat.reduceLT, Nat.reduceEqDiff, reduceIte, Nat.zero_add, and_self, true_and, and_true, Int.reduceLT, Int.reduceNeg, D.isTup, D.isLst, Bool.or_false, Bool.false_or, cmp_ne_sameR (h := h ++ [.lst (ps.map twin)]) hg kx rfl rfl]
        obtain ⟨ps', i', qq⟩ := stop _ _ (leaf rfl rfl)
        exact ⟨ps', i', _, _, qq⟩
      | str y =>
        simp only [semSs, semS, semB, semE, semT, semL, semA, semO, semQ, semN, semK, semI, BI.f, MI.f, sseq_c, sret, sretN, snext, sbreak, scont, sdrop, sif, sasg, spar2, spar3, ssub, saug, saugS, toS_ok, toS_err, toS_bad, bnd, mret, mnil, mcons, mtup, mcallB, mcall, mval, mnew, mnewD, mlist, mlistOf, mlistZip, mmeth, msl, mpart, mif_c, vnot, vand_c, vor_c, tnot, tand_c, tor_c, tru, t2, e2, DL.e1, chain_c, chainT_c, bind_ok, bind_err, bind_bad, ofO_some, ofO_none, mslot, mstar, mrev, mjoin, swh, List.getElem?_cons_zero, List.getElem?_cons_succ, List.set_cons_zero, List.set_cons_succ, Option.map_some, Option.map_none, if_true, if_false, Bool.false_eq_true, put_nm, put_tp, puts_nil, puts_cons, List.length_cons, List.length_nil, List.map_cons, List.map_nil, List.cons_append, List.nil_append, List.replicate_succ, List.replicate_zero, ite_true, ite_false, bind_ite, toS_ite, seq_nx, seq_rt, seq_bk, seq_ct, seq_err, seq_bad, seq_ite, toR_nx, toR_rt, toR_err, toR_bad, toR_ite, condO_some, condO_none, truD_bl, truD_int, truD_non, boolO_bl, bin_add_int, bin_sub_int, cmp_le_int, cmp_lt_int, cmp_ge_int, cmp_gt_int, cmp_eq_int, cmp_ne_int, cmp_ne_bl, Res.wp_ok, Res.wp_err, Res.wp_bad, Res.wp_bind, Res.wp_ite, SRes.wp_toS, SRes.wp_nx, SRes.wp_rt, SRes.wp_bk, SRes.wp_ct, SRes.wp_err, SRes.wp_bad, SRes.wp_seq, SRes.wp_ite, Res.wp_condO, Res.wp_toR, Nat.reduceAdd, Nat.reduceSub, Nat.reduceLT, Nat.reduceEqDiff, reduceIte, Nat.zero_add, and_self, true_and, and_true, Int.reduceLT, Int.reduceNeg, D.isTup, D.isLst, Bool.or_false, Bool.false_or, cmp_ne_sameR (h := h ++ [.lst (ps.map twin)]) hg kx rfl rfl]
        obtain ⟨ps', i', qq⟩ := stop _ _ (leaf rfl rfl)
        exact ⟨ps', i', _, _, qq⟩
    · have hlt' : ¬ (i : Int) < (ps.length : Int) := by omega
      simp only [decide_eq_true_eq, hlt', if_false]
      exact ⟨_, rfl⟩
  obtain ⟨a, h', e, e1, g, e2⟩ := Res.wp_is w
  exact ⟨g, by rw [e, e1, e2]⟩
end DL
end

section
set_option maxHeartbeats 2000000
/-! the laws' own helpers: what they promise -/
namespace DL
open PySem PySem.Spec PyProof.Rows L2
def Spec (T : Tab) (x : Str) (np : Nat) (S : List D → DH → (D → DH → Prop) → Prop) : Prop := ∃ e, T.fn x = some e ∧ e.np = np ∧ ∀ ds h Q, S ds h Q → (e.sem ds h).wp Q
def STake (ds : List D) (h : DH) (Q : D → DH → Prop) : Prop := ∃ b m, ds = [.ref b, .int m] ∧ BagAt b h ∧ 0 < m ∧ m < 1073741824 ∧ ∀ v h', 0 ≤ v → v < m → BagAt b h' → Keep b h h' → Q (.int v) h'
def SSome (ds : List D) (h : DH) (Q : D → DH → Prop) : Prop := ∃ b xs, ds = [.ref b, .lst xs] ∧ BagAt b h ∧ xs ≠ [] ∧ xs.length < 1073741 ∧ ∀ d h', d ∈ xs → BagAt b h' → Keep b h h' → Q d h'
theorem take_spec {T T' : Tab} (t : T.fn "_law_take" = some ⟨"_law_take", 2, run T' 7 c__law_take⟩) : Spec T "_law_take" 2 STake :=
  ⟨_, t, rfl, fun ds h Q ⟨b, m, e, B, h1, h2, q⟩ => by subst e; exact wp_take B h1 h2 q⟩
theorem some_spec {T T' T2 : Tab} (t : T.fn "_law_some" = some ⟨"_law_some", 2, run T' 2 c__law_some⟩) (t2 : T'.fn "_law_take" = some ⟨"_law_take", 2, run T2 7 c__law_take⟩) : Spec T "_law_some" 2 SSome :=
  ⟨_, t, rfl, fun ds h Q ⟨b, xs, e, B, h1, h2, q⟩ => by subst e; exact wp_some t2 B h1 h2 q⟩
theorem neg_int (h : DH) (i : Int) : negD h (.int i) = some (.int (-i)) := rfl
theorem sz {n : Nat} (h : n ≤ 1000000) : n ≤ sizeLine := Nat.le_trans h (by decide)
end DL
end

section
set_option maxHeartbeats 4000000
/-! what the top has left, whatever the law -/
namespace DL
open PySem PySem.Spec PyProof.Rows L2
/-- a def of the text stands behind the top -/
def DefAt (K : Fg) (x : Str) (st : Stmt) : Prop := ∃ (f : Addr) (oc : Value) (od : Option Addr) (kV doc pm : Value) (an : Option Addr) (cdv ct : Value) (osl : Array (Option Value)),
  PySem.W.nsIn K mainGlobals x = some (some (.ref f)) ∧ K.lookup f = some ⟨oc, od, .func (PySem.W.fnOf x x (defArgs st) (defBody st) (defScope st) .none kV doc pm an cdv ct), osl⟩ ∧ PySem.W.codeIn K cdv x = true ∧ PySem.W.keepIn K (.ref f) = true
theorem DefAt.mk {K : Fg} {x : Str} {st : Stmt} {f : Addr} {oc : Value} {od : Option Addr} {kV doc pm : Value} {an : Option Addr} {cdv ct : Value} {osl : Array (Option Value)}
    (a : PySem.W.nsIn K mainGlobals x = some (some (.ref f))) (l : K.lookup f = some ⟨oc, od, .func (PySem.W.fnOf x x (defArgs st) (defBody st) (defScope st) .none kV doc pm an cdv ct), osl⟩) (c : PySem.W.codeIn K cdv x = true) (k : PySem.W.keepIn K (.ref f) = true) : DefAt K x st :=
  ⟨f, oc, od, kV, doc, pm, an, cdv, ct, osl, a, l, c, k⟩
theorem cov_run (T : Tab) (n : Nat) (c : CSs) (ds : List D) (h : DH) : Cov h (run T n c ds h) (run T n c ds h) := by
  unfold Cov
  split
  · trivial
  · exact .inl (by assumption)
  · exact .inl (by assumption)
theorem cov_app {T : Tab} {n : Nat} {c : CSs} {ds : List D} {h : DH} {d : D} (e : ∃ g, run T n c ds h = .ok d (h ++ g)) (u : d.und h.length) : Cov h (.ok d h) (run T n c ds h) := by
  obtain ⟨g, e⟩ := e
  exact .inr ⟨g, e, Nat.le_refl _, u, id⟩
theorem TabOk.mono {P : Program} {w : World} {K : Fg} {mg : Str → Option Value} {base : Heap} {j k : Nat} {T : Tab} [Tbs] (t : TabOk P w K mg base j T) (h : j ≤ k) : TabOk P w K mg base k T :=
  ⟨fun e he => by
    obtain ⟨f, fd, ps, h1, h2⟩ := t.fns e he
    exact ⟨f, fd, ps, h1.mono h, h2⟩, t.cs, t.bl, fun e he => by
    obtain ⟨C, fI, fd, ps, i, F, hi⟩ := t.xs e he
    exact ⟨C, fI, fd, ps, i, F, by omega⟩, t.x0, t.ix⟩
section
variable [Tbs]
def EntOk (P : Program) (w : World) (K : Fg) (mg : Str → Option Value) (base : Heap) (k : Nat) (e : Ent) : Prop :=
  ∃ (f : Addr) (fd : FuncData) (ps : List Str), FnOk P w K mg base (L2.CX P w) k f fd ps (spD K e.np e.sem) ∧ mg e.name = some (.ref f) ∧ PySem.W.keepIn K (.ref f) = true ∧ Binds K fd ps []
variable {P : Program} {w : World} {K : Fg} {mg : Str → Option Value} {base h : Heap} {k : Nat} {T : Tab}
theorem TabOk.push {e : Ent} (t : TabOk P w K mg base k T) (c : EntOk P w K mg base (k + 1) e) : TabOk P w K mg base (k + 1) { T with fns := T.fns ++ [e] } :=
  ⟨fun x hx => by
    rcases List.mem_append.mp hx with hx | hx
    · exact (t.mono (Nat.le_succ k)).fns x hx
    · have z : x = e := by simpa using hx
      subst z
      exact c, t.cs, t.bl, (t.mono (Nat.le_succ k)).xs, t.x0, t.ix⟩
theorem ent_ok {x : Str} {st : Stmt} {N ps : List Str} {np : Nat} {c : CSs} {sem : List D → DH → Res D} (X : K.In h) (G : h.Ns mainGlobals mg) (d : DefAt K x st) (S : FnScope N ps (defScope st)) (hnp : ps.length = np)
    (hb : ∀ (kV doc pm : Value) (an : Option Addr) (cdv ct : Value) (us : List Value), us.length = ps.length → bindArgs (PySem.W.fnOf x x (defArgs st) (defBody st) (defScope st) .none kV doc pm an cdv ct) ⟨us, []⟩ = pure (ps.zip us))
    (t : TabOk P w K mg base k T) (hlm : T.lams = []) (hc : isSs N T (defScope st) c (defBody st) = true) (hs : ∀ ds h, ds.length = np → Cov h (sem ds h) (run T N.length c ds h)) : EntOk P w K mg base (k + 1) ⟨x, np, sem⟩ := by
  obtain ⟨f, oc, od, kV, doc, pm, an, cdv, ct, osl, a, l, c1, k1⟩ := d
  have F := fun_mk (st := st) l c1 k1
  exact ⟨f, _, ps, def_ok F S hnp t hlm hc hs, PySem.W.mg_of X G a, k1, F.binds hb⟩
/-- the law's own call, by what its code computes of the numbers -/
theorem spD_law {K : Fg} {T : Tab} {n : Nat} {c : CSs} {H : Hp} {a : Addr} {ns : List Int} (hS : SqL K H a (ns.map V.int)) (ht : RepH K ⟨[], []⟩ H []) (ok : ∃ h', run T n c [.fls (ns.map .int)] [] = .ok (.bl true) h') :
    spD K 1 (run T n c) [.ref a] H (fun v _ => v = .bl true) fun _ _ _ => False := by
  have r : ∀ l : List Int, RepVs K ⟨[], []⟩ H (l.map D.int) (l.map V.int) := fun l => by
    induction l with
    | nil => rfl
    | cons x l ih => exact ⟨_, _, rfl, rfl, ih⟩
  refine ⟨⟨[], []⟩, [.fls (ns.map .int)], [], ⟨_, _, rfl, ⟨a, ns.map V.int, rfl, ?_, r ns⟩, rfl⟩, ht, rfl, ?_⟩
  · rcases hS with hS | hS
    · exact .inl ⟨hS, fun z => by rcases z with z | z <;> cases z⟩
    · exact .inr fun H' => .inr hS
  · obtain ⟨h', e⟩ := ok
    show PostC K ⟨[], []⟩ H (fun v _ => v = .bl true) (fun _ _ _ => False) (run T n c [.fls (ns.map .int)] [])
    rw [e]
    exact fun ι' v H' _ _ rv => rv
end
/-! ### classes of exceptions -/
def methOf : Stmt → Stmt
  | .ClassDef _ _ _ b .. => b.getD 0 (.Pass ⟨0, 0, 0, 0⟩)
  | s => s
/-- an error of the class at S is what «except S» names -/
theorem exm_self {K : PySem.W.Frag} {S : Addr} (h1 : PySem.W.subIn K (.ref S) (.type "BaseException") = some true) (h2 : PySem.W.isClsIn K S = true) (h3 : PySem.W.typeIn K (.ref S) = some (.type "type")) (h4 : PySem.W.subIn K (.ref S) (.ref S) = some true) :
    PySem.W.exmOne K (.ref S) (.ref S) = some true := by
  have e1 : (PySem.W.subIn K (.ref S) (.type "BaseException") == some true) = true := by rw [h1] <;> rfl
  have e2 : ((PySem.W.clsIn K S).isSome && PySem.W.typeIn K (.ref S) == some (.type "type")) = true := by
    have h2' : (PySem.W.clsIn K S).isSome = true := h2
    rw [h2', h3] <;> rfl
  show (if (PySem.W.subIn K (.ref S) (.type "BaseException") == some true) = true then (if ((PySem.W.clsIn K S).isSome && PySem.W.typeIn K (.ref S) == some (.type "type")) = true then PySem.W.subIn K (.ref S) (.ref S) else none) else none) = some true
  rw [if_pos e1, if_pos e2]
  exact h4
/-- an __init__ that keeps one argument, two -/
structure Ini1 (st : Stmt) (n1 : Str) : Prop where
  body : ∃ p0 p1 p2 p3 pos pa q0 q1 q2 q3 : Pos, defBody st = [supSt p0 p1 p2 p3 pos (.Name n1 pa) [], ostSt "self" n1 q0 q1 q2 q3] ∧ (p2.endLine == p3.line) = true
  sc : KScope ["self", n1] (defScope st)
  s1 : (defScope st).names.lookup ("super" : Str) = some .globalImplicit
  s2 : (defScope st).names.lookup ("__class__" : Str) = some .free
  hp : ∃ ar, ((defArgs st).posonlyargs ++ (defArgs st).args).head? = some ar ∧ "self" = ar.arg
  d1 : dbg n1 = true
structure Ini2 (st : Stmt) (n1 n2 : Str) : Prop where
  body : ∃ p0 p1 p2 p3 pos pa pb q0 q1 q2 q3 r0 r1 r2 r3 : Pos, defBody st = [supSt p0 p1 p2 p3 pos (.Name n1 pa) [.Name n2 pb], ostSt "self" n1 q0 q1 q2 q3, ostSt "self" n2 r0 r1 r2 r3] ∧ (p2.endLine == p3.line) = true
  sc : KScope ["self", n1, n2] (defScope st)
  s1 : (defScope st).names.lookup ("super" : Str) = some .globalImplicit
  s2 : (defScope st).names.lookup ("__class__" : Str) = some .free
  hp : ∃ ar, ((defArgs st).posonlyargs ++ (defArgs st).args).head? = some ar ∧ "self" = ar.arg
  d1 : dbg n1 = true
  d2 : dbg n2 = true
structure XAt (K : Fg) (file : Str) (cn q : Str) (st : Stmt) (fs : List Str) (C fI cda cc : Addr) : Prop where
  aC : PySem.W.nsIn K mainGlobals cn = some (some (.ref C))
  T : OexC K C
  xf : XfC K C
  xm : PySem.W.exmOne K (.ref C) (.ref C) = some true
  ini : PySem.W.findIn K (.ref C) "__init__" = some (some (.ref fI))
  ty : PySem.W.typeIn K (.ref fI) = some (.type "function")
  lk : ∃ (oc : Value) (od : Option Addr) (dV kV doc pm ct : Value) (an : Option Addr) (osl : Array (Option Value)), K.lookup fI = some ⟨oc, od, .func (PySem.W.fnX "__init__" q (defArgs st) (defBody st) (defScope st) [("__class__", cc)] dV kV doc pm an (.ref cda) ct), osl⟩ ∧
    (∀ us : List Value, us.length = fs.length + 1 → bindArgs (PySem.W.fnX "__init__" q (defArgs st) (defBody st) (defScope st) [("__class__", cc)] dV kV doc pm an (.ref cda) ct) ⟨us, []⟩ = pure ((("self" : Str) :: fs).zip us))
  cd : PySem.W.codeIn K (.ref cda) q = true
  no : ∀ f ∈ fs, PySem.W.findIn K (.ref C) f = some none
  code : ∃ ccl cdd vs ccs file' tf, K.lookup cda = some ⟨ccl, cdd, .fields vs, ccs⟩ ∧ vs[2]? = some (.str file' tf) ∧ (file == file') = true
  cell : ∃ cl cld csl, K.lookup cc = some ⟨cl, cld, .cell (some (.ref C)), csl⟩
  sub : PySem.W.mroIn K C (.ref C) = some true
  subV : PySem.W.subIn K (.ref C) (.type "ValueError") = some true
  opq : PySem.W.nsIn K cStatics "thirdparty.any" = some none
  sini : PySem.W.ks_superIn K C C "__init__" = some (some (.builtin "ValueError.__init__"))
  sup : PySem.W.nsIn K mainGlobals "super" = some none
  hi : ∀ L, interactive (PySem.W.ksEnv q (defScope st) L fI (.ref cda) cc) = false
theorem XAt.ok2 {P : Program} {w : World} {K : Fg} {mg : Str → Option Value} {base h : Heap} {cn q n1 n2 : Str} {st : Stmt} {C fI cda cc : Addr} (I : Ini2 st n1 n2) (A : XAt K P.main.file cn q st [n1, n2] C fI cda cc) (X : K.In h) (G : h.Ns mainGlobals mg) (top : (P.main.scope.names.lookup ("super" : Str)).isSome = false) :
    ∃ (fd : FuncData) (ps : List Str), XFacts P w K mg base 1 ⟨cn, [n1, n2]⟩ C fI fd ps := by
  obtain ⟨oc, od, dV, kV, doc, pm, ct, an, osl, lk, hb⟩ := A.lk
  obtain ⟨p0, p1, p2, p3, pos, pa, pb, q0, q1, q2, q3, r0, r1, r2, r3, eb, hl⟩ := I.body
  obtain ⟨ar, h1, h2⟩ := I.hp
  have SF : SupF P K mg C cda cc := ⟨A.T, A.code, A.cell, A.sub, A.subV, A.opq, A.sini, PySem.W.mg_none_of X G A.sup, top⟩
  have bd := Binds.all (K := K) (ps := ["self", n1, n2]) hb
  rw [eb] at lk bd
  exact ⟨_, _, A.T, A.ini, A.ty, init2 SF lk A.cd I.sc I.s1 I.s2 h1 h2 (A.no n1 (by simp)) (A.no n2 (by simp)) (by decide +kernel) I.d1 I.d2 hl A.hi, bd, PySem.W.mg_of X G A.aC, A.aC, by simp, A.xf, A.no, A.xm⟩
theorem XAt.ok1 {P : Program} {w : World} {K : Fg} {mg : Str → Option Value} {base h : Heap} {cn q n1 : Str} {st : Stmt} {C fI cda cc : Addr} (I : Ini1 st n1) (A : XAt K P.main.file cn q st [n1] C fI cda cc) (X : K.In h) (G : h.Ns mainGlobals mg) (top : (P.main.scope.names.lookup ("super" : Str)).isSome = false) :
    ∃ (fd : FuncData) (ps : List Str), XFacts P w K mg base 1 ⟨cn, [n1]⟩ C fI fd ps := by
  obtain ⟨oc, od, dV, kV, doc, pm, ct, an, osl, lk, hb⟩ := A.lk
  obtain ⟨p0, p1, p2, p3, pos, pa, q0, q1, q2, q3, eb, hl⟩ := I.body
  obtain ⟨ar, h1, h2⟩ := I.hp
  have SF : SupF P K mg C cda cc := ⟨A.T, A.code, A.cell, A.sub, A.subV, A.opq, A.sini, PySem.W.mg_none_of X G A.sup, top⟩
  have bd := Binds.all (K := K) (ps := ["self", n1]) hb
  rw [eb] at lk bd
  exact ⟨_, _, A.T, A.ini, A.ty, init1 SF lk A.cd I.sc I.s1 I.s2 h1 h2 (A.no n1 (by simp)) (by decide +kernel) I.d1 hl A.hi, bd, PySem.W.mg_of X G A.aC, A.aC, by simp, A.xf, A.no, A.xm⟩
theorem XAt.mk2 {K : Fg} {file : Str} {cn qq : Str} {st : Stmt} {fs : List Str} {C fI cda cx : Addr} {nm q : Str} {N : Addr} {bs bm : List Value} {sn : List Str} {sub : List Value} {ab : Bool} {col : Option Bool} {dd : Option Addr} {k0 k1 k2 k3 k5 : Option Value}
    {oc : Value} {od : Option Addr} {kV doc pm ct : Value} {an : Option Addr} {osl : Array (Option Value)} {ccl : Value} {cdd : Option Addr} {vs : Array Value} {ccs : Array (Option Value)} {file2 : Str} {tf : Tok} {cl : Value} {cld : Option Addr} {csl : Array (Option Value)}
    (aC : PySem.W.nsIn K mainGlobals cn = some (some (.ref C)))
    (xL : K.lookup C = some (excClassObj nm q C N bs bm true sn sub ab col dd k0 k1 k2 k3 k5 "ValueError.__new__")) (rf : PySem.HandSPX.refsVE bm = true) (sa : PySem.W.findIn K (.ref C) "__setattr__" = some (some (.builtin "object.__setattr__"))) (exC : PySem.W.subIn K (.ref C) (.type "BaseException") = some true)
    (tyC : PySem.W.typeIn K (.ref C) = some (.type "type")) (kC : PySem.W.keepIn K (.ref C) = true) (ga : PySem.W.findIn K (.ref C) "__getattribute__" = some (some (.builtin "BaseException.__getattribute__"))) (gg : PySem.W.findIn K (.ref C) "__getattr__" = some none) (hdC : PySem.W.hasDictIn K C = true)
    (iC : PySem.W.isClsIn K C = true) (sC : PySem.W.subIn K (.ref C) (.ref C) = some true) (ini : PySem.W.findIn K (.ref C) "__init__" = some (some (.ref fI))) (ty : PySem.W.typeIn K (.ref fI) = some (.type "function"))
    (lk : K.lookup fI = some ⟨oc, od, .func (PySem.W.fnX "__init__" qq (defArgs st) (defBody st) (defScope st) [("__class__", cx)] .none kV doc pm an (.ref cda) ct), osl⟩)
    (hb : ∀ us : List Value, us.length = fs.length + 1 → bindArgs (PySem.W.fnX "__init__" qq (defArgs st) (defBody st) (defScope st) [("__class__", cx)] .none kV doc pm an (.ref cda) ct) ⟨us, []⟩ = pure ((("self" : Str) :: fs).zip us))
    (cd : PySem.W.codeIn K (.ref cda) qq = true)
    (no : ∀ f ∈ fs, PySem.W.findIn K (.ref C) f = some none) (c1 : K.lookup cda = some ⟨ccl, cdd, .fields vs, ccs⟩) (c2 : vs[2]? = some (.str file2 tf)) (c3 : (file == file2) = true) (ce : K.lookup cx = some ⟨cl, cld, .cell (some (.ref C)), csl⟩)
    (sub2 : PySem.W.mroIn K C (.ref C) = some true) (subV : PySem.W.subIn K (.ref C) (.type "ValueError") = some true) (opq : PySem.W.nsIn K cStatics "thirdparty.any" = some none) (sini : PySem.W.ks_superIn K C C "__init__" = some (some (.builtin "ValueError.__init__"))) (sup : PySem.W.nsIn K mainGlobals "super" = some none)
    (hi : ∀ L, interactive (PySem.W.ksEnv qq (defScope st) L fI (.ref cda) cx) = false) : XAt K file cn qq st fs C fI cda cx :=
  { aC := aC, T := ⟨⟨nm, q, N, bs, bm, sn, sub, ab, col, dd, k0, k1, k2, k3, k5, xL, rf⟩, sa, exC, tyC, kC⟩, xf := ⟨ga, gg, exC, hdC⟩, xm := exm_self exC iC tyC sC, ini := ini, ty := ty,
    lk := ⟨oc, od, .none, kV, doc, pm, ct, an, osl, lk, hb⟩, cd := cd, no := no, code := ⟨ccl, cdd, vs, ccs, file2, tf, c1, c2, c3⟩, cell := ⟨cl, cld, csl, ce⟩, sub := sub2, subV := subV, opq := opq, sini := sini, sup := sup, hi := hi }
theorem cst_mk {K : Fg} {x : Str} {i : Int} {t : Tok} (h : PySem.W.nsIn K mainGlobals x = some (some (.int i t))) : ∃ u, PySem.W.nsIn K mainGlobals x = some (some u) ∧ ∃ t, u = .int i t := ⟨_, h, t, rfl⟩
end DL
end

section
set_option maxHeartbeats 4000000
/-! which class is under which -/
namespace DL
open PySem PySem.Spec PyProof.Rows L2
def isxTab (g : Str) (cls : List Str) : List (Str × Str × Bool) := cls.flatMap fun a => (g :: ("ValueError" : Str) :: cls).map fun b => (a, b, decide (a = b) || decide (b = g) || decide (b = "ValueError"))
structure IxAt (K : Fg) (cls : List (Str × Addr)) (n : Str) (C G : Addr) : Prop where
  ns : PySem.W.nsIn K mainGlobals n = some (some (.ref C))
  ec : ExcC K C
  kg : PySem.W.kitOne K (.ref C) (.ref G) = some true
  kv : PySem.W.kitOne K (.ref C) (.type "ValueError") = some true
  kr : (cls.map fun p => PySem.W.kitOne K (.ref C) (.ref p.2)) = cls.map fun p => some (decide (n = p.1))
theorem map_at {α β : Type} {f g : α → β} : ∀ {l : List α}, l.map f = l.map g → ∀ x ∈ l, f x = g x
  | [], _, x, hx => by cases hx
  | y :: l, h, x, hx => by
    simp only [List.map_cons, List.cons.injEq] at h
    rcases List.mem_cons.mp hx with rfl | hx
    · exact h.1
    · exact map_at h.2 x hx
theorem isx_mem {g : Str} {cls : List Str} {p : Str × Str × Bool} (h : p ∈ isxTab g cls) : p.1 ∈ cls ∧ (p.2.1 = g ∨ p.2.1 = "ValueError" ∨ p.2.1 ∈ cls) ∧ p.2.2 = (decide (p.1 = p.2.1) || decide (p.2.1 = g) || decide (p.2.1 = "ValueError")) := by
  unfold isxTab at h
  obtain ⟨a, ha, h⟩ := List.mem_flatMap.mp h
  obtain ⟨b, hb, rfl⟩ := List.mem_map.mp h
  refine ⟨ha, ?_, rfl⟩
  rcases List.mem_cons.mp hb with e | hb
  · exact .inl e
  · rcases List.mem_cons.mp hb with e | hb
    · exact .inr (.inl e)
    · exact .inr (.inr hb)
theorem ix_ok {K : Fg} {mg : Str → Option Value} {g : Str} {G : Addr} {cls : List (Str × Addr)} (hG : mg g = some (.ref G)) (hV : mg "ValueError" = none) (hm : ∀ p ∈ cls, mg p.1 = some (.ref p.2)) (hx : ∀ p ∈ cls, IxAt K cls p.1 p.2 G) (hne : ∀ p ∈ cls, p.1 ≠ g ∧ p.1 ≠ "ValueError") :
    ∀ cn : Str, (∃ p ∈ isxTab g (cls.map (·.1)), p.2.1 = cn) → ∃ (c : V) (cv : Value), (∀ u, L2.RelV c u → u = cv) ∧ ((mg cn = some cv ∧ L2.RelV c cv) ∨ (mg cn = none ∧ ∃ n, bootBuiltins cn = some (.type n) ∧ c = .ty n)) ∧
      ∀ p ∈ isxTab g (cls.map (·.1)), p.2.1 = cn → ∃ C, PySem.W.nsIn K mainGlobals p.1 = some (some (.ref C)) ∧ ExcC K C ∧ PySem.W.kitOne K (.ref C) cv = some p.2.2 := by
  rintro cn ⟨p, hp, e⟩
  obtain ⟨_, h2, _⟩ := isx_mem hp
  rw [e] at h2
  rcases h2 with h2 | h2 | h2
  · subst h2
    refine ⟨.ref G, .ref G, fun u h => h, .inl ⟨hG, rfl⟩, fun p hp e => ?_⟩
    obtain ⟨k1, _, k3⟩ := isx_mem hp
    obtain ⟨q, hq, eq⟩ := List.mem_map.mp k1
    have I := hx q hq
    rw [k3, e, ← eq]
    exact ⟨q.2, I.ns, I.ec, by simp [I.kg]⟩
  · subst h2
    refine ⟨.ty "ValueError", .type "ValueError", fun u h => h, .inr ⟨hV, "ValueError", by decide +kernel, rfl⟩, fun p hp e => ?_⟩
    obtain ⟨k1, _, k3⟩ := isx_mem hp
    obtain ⟨q, hq, eq⟩ := List.mem_map.mp k1
    have I := hx q hq
    rw [k3, e, ← eq]
    exact ⟨q.2, I.ns, I.ec, by simp [I.kv]⟩
  · obtain ⟨r, hr, er⟩ := List.mem_map.mp h2
    refine ⟨.ref r.2, .ref r.2, fun u h => h, .inl ⟨by rw [← er]; exact hm r hr, rfl⟩, fun p hp e => ?_⟩
    obtain ⟨k1, _, k3⟩ := isx_mem hp
    obtain ⟨q, hq, eq⟩ := List.mem_map.mp k1
    have I := hx q hq
    have n1 := (hne r hr).1
    have n2 := (hne r hr).2
    rw [k3, e, ← eq, ← er]
    refine ⟨q.2, I.ns, I.ec, ?_⟩
    rw [map_at I.kr r hr]
    simp [n1, n2]
end DL
end

section
set_option maxHeartbeats 4000000
/-! law k00: the codes -/
namespace DL.K00
open PySem PySem.Spec PyProof.Rows L2
def N__law_value : List Str := ["bag"]
def c__law_value : CSs := .cons (.b (.ret (.call "_law_some" (.cons (.slot 0) (.cons (.val (.lit (.cons (.non) (.cons (.bl true) (.cons (.int 0) (.cons (.neg (.int 1)) (.cons (.bin .Pow (.int 10) (.int 30)) (.cons (.str "") (.cons (.str "zz") (.cons (.tup (.nil)) (.cons (.tup (.cons (.int 1) (.cons (.str "a") (.nil)))) (.cons (.val (.lit (.cons (.int 1) (.nil)))) (.cons (.newD .emp) (.nil)))))))))))))) (.nil)))))) (.nil)
def c_law_0 : CS := .b (.asg (.call "_law_bag" (.cons (.slot 0) (.nil))) (.nm 1))
def c_law_1_0 : CS := .b (.par2 3 4 (.cons (.call "_law_value" (.cons (.slot 1) (.nil))) (.cons (.call "_law_value" (.cons (.slot 1) (.nil))) (.nil))))
def c_law_1_1 : CS := .b (.asg (.tup (.cons (.mkx "BadText" (.cons (.slot 3) (.cons (.slot 4) (.nil)))) (.cons (.mkx "BadGrove" (.cons (.slot 3) (.cons (.slot 4) (.nil)))) (.cons (.mkx "BadPaper" (.cons (.slot 3) (.cons (.slot 4) (.nil)))) (.cons (.mkx "BadBytes" (.cons (.slot 3) (.cons (.slot 4) (.nil)))) (.nil)))))) (.tp [.nm 5, .nm 6, .nm 7, .nm 8]))
def c_law_1_2 : CS := .b (.asg (.tup (.cons (.mkx "NoName" (.cons (.slot 3) (.nil))) (.cons (.mkx "NoCommand" (.cons (.slot 4) (.nil))) (.cons (.mkx "Refused" (.cons (.slot 3) (.nil))) (.cons (.mk0 "Nothing") (.cons (.mkx "TooMany" (.cons (.slot 3) (.cons (.slot 4) (.nil)))) (.nil))))))) (.tp [.nm 9, .nm 10, .nm 11, .nm 12, .nm 13]))
def c_law_1_3 : CS := .b (.asg (.val (.lit (.cons (.xat "line" (.slot 5)) (.cons (.xat "column" (.slot 5)) (.cons (.xat "spot" (.slot 6)) (.cons (.xat "fault" (.slot 6)) (.cons (.xat "spot" (.slot 7)) (.cons (.xat "fault" (.slot 7)) (.cons (.xat "index" (.slot 8)) (.cons (.xat "fault" (.slot 8)) (.nil))))))))))) (.nm 14))
def c_law_1_4 : CS := .b (.asg (.bin .Add (.slot 14) (.val (.lit (.cons (.xat "what" (.slot 13)) (.cons (.xat "limit" (.slot 13)) (.nil)))))) (.nm 14))
def c_law_1_5 : CS := .ite (.bo false (.cons (.not (.tru (.call "_law_alike" (.cons (.slot 14) (.cons (.bin .Mult (.val (.lit (.cons (.slot 3) (.cons (.slot 4) (.nil))))) (.int 5)) (.nil)))))) (.one (.not (.tru (.call "_law_alike" (.cons (.val (.lit (.cons (.xat "name" (.slot 9)) (.cons (.xat "line" (.slot 10)) (.cons (.xat "why" (.slot 11)) (.nil)))))) (.cons (.val (.lit (.cons (.slot 3) (.cons (.slot 4) (.cons (.slot 3) (.nil)))))) (.nil))))))))) (.cons (.b (.ret (.bl false))) (.nil)) (.nil)
def c_law_1_6 : CS := .b (.asg (.val (.lit (.cons (.slot 5) (.cons (.slot 6) (.cons (.slot 7) (.cons (.slot 8) (.cons (.slot 9) (.cons (.slot 10) (.cons (.slot 11) (.cons (.slot 12) (.cons (.slot 13) (.nil)))))))))))) (.nm 15))
def c_law_1_7_0 : CS := .ite (.bo false (.cons (.not (.tru (.isx (.slot 16) "GroveError"))) (.one (.not (.tru (.isx (.slot 16) "ValueError")))))) (.cons (.b (.ret (.bl false))) (.nil)) (.nil)
def c_law_1_7_b : CSs := .cons c_law_1_7_0 (.nil)
def c_law_1_7 : CS := .fr (.at (.slot 15)) (.nm 16) c_law_1_7_b
def c_law_1_8 : CS := .b (.asg (.bin .Add (.val (.lc (.at (.slot 15)) (.nm 16) (.no) (.isx (.slot 16) "BadText") [16])) (.val (.lc (.at (.slot 15)) (.nm 16) (.no) (.isx (.slot 16) "BadGrove") [16]))) (.nm 17))
def c_law_1_9 : CS := .b (.asg (.bin .Add (.bin .Add (.slot 17) (.val (.lc (.at (.slot 15)) (.nm 16) (.no) (.isx (.slot 16) "BadPaper") [16]))) (.val (.lc (.at (.slot 15)) (.nm 16) (.no) (.isx (.slot 16) "BadBytes") [16]))) (.nm 17))
def c_law_1_10 : CS := .b (.asg (.bin .Add (.bin .Add (.slot 17) (.val (.lc (.at (.slot 15)) (.nm 16) (.no) (.isx (.slot 16) "NoName") [16]))) (.val (.lc (.at (.slot 15)) (.nm 16) (.no) (.isx (.slot 16) "NoCommand") [16]))) (.nm 17))
def c_law_1_11 : CS := .b (.asg (.bin .Add (.bin .Add (.slot 17) (.val (.lc (.at (.slot 15)) (.nm 16) (.no) (.isx (.slot 16) "Refused") [16]))) (.val (.lc (.at (.slot 15)) (.nm 16) (.no) (.isx (.slot 16) "Nothing") [16]))) (.nm 17))
def c_law_1_12 : CS := .b (.asg (.bin .Add (.slot 17) (.val (.lc (.at (.slot 15)) (.nm 16) (.no) (.isx (.slot 16) "TooMany") [16]))) (.nm 17))
def c_law_1_13 : CS := .ite (.cmp .NotEq (.slot 17) (.val (.lc (.range1 (.int 81)) (.nm 18) (.no) (.cmp .Eq (.bin .FloorDiv (.bi .int (.cons (.slot 18) (.nil))) (.int 9)) (.bin .Mod (.slot 18) (.int 9))) [18]))) (.cons (.b (.ret (.bl false))) (.nil)) (.nil)
def c_law_1_b : CSs := .cons c_law_1_0 (.cons c_law_1_1 (.cons c_law_1_2 (.cons c_law_1_3 (.cons c_law_1_4 (.cons c_law_1_5 (.cons c_law_1_6 (.cons c_law_1_7 (.cons c_law_1_8 (.cons c_law_1_9 (.cons c_law_1_10 (.cons c_law_1_11 (.cons c_law_1_12 (.cons c_law_1_13 (.nil))))))))))))))
def c_law_1 : CS := .fr (.range1 (.int 4)) (.nm 2) c_law_1_b
def c_law_2 : CS := .b (.ret (.bl true))
def N_law : List Str := ["script", "bag", "turn", "one", "two", "text", "grove", "paper", "octets", "name", "line", "why", "gone", "many", "kept", "every", "error", "told", "at"]
def c_law : CSs := .cons c_law_0 (.cons c_law_1 (.cons c_law_2 (.nil)))
def cls00 : List Str := ["BadText", "BadGrove", "BadPaper", "BadBytes", "NoName", "NoCommand", "Refused", "Nothing", "TooMany"]
def isx00 : List (Str × Str × Bool) := cls00.flatMap fun a => (("GroveError" : Str) :: ("ValueError" : Str) :: cls00).map fun b => (a, b, decide (a = b) || decide (b = "GroveError") || decide (b = "ValueError"))
def xs00 : List XEnt := [⟨"BadText", ["line", "column"]⟩, ⟨"BadGrove", ["spot", "fault"]⟩, ⟨"BadPaper", ["spot", "fault"]⟩, ⟨"BadBytes", ["index", "fault"]⟩, ⟨"NoName", ["name"]⟩, ⟨"NoCommand", ["line"]⟩, ⟨"Refused", ["why"]⟩, ⟨"TooMany", ["what", "limit"]⟩]
end DL.K00
end

section
set_option maxHeartbeats 4000000
/-! law k00: the plain law -/
namespace DL.K00
open PySem PySem.Spec PyProof.Rows L2
/-- where an empty dict stands -/
def qE (h : DH) (i : Nat) : Bool := match h[i]? with
  | some (.dK []) => true
  | _ => false
theorem qE_is {h : DH} {i : Nat} (e : qE h i = true) : h[i]? = some (.dK []) := by
  unfold qE at e
  split at e
  · assumption
  · cases e
theorem qE_of {h : DH} {i : Nat} (e : h[i]? = some (.dK [])) : qE h i = true := by
  unfold qE
  rw [e]
def small (d : D) : Prop := d ∈ [D.non, .bl true, .int 0, .int (-1), .int (10 ^ 30), .str "", .str "zz", .tup [], .tup [.int 1, .str "a"], .lst [.int 1]]
def V00 (h : DH) (d : D) : Prop := small d ∨ ∃ i, d = .ref i ∧ h[i]? = some (.dK [])
def Ds (h h' : DH) : Prop := ∀ i : Nat, h[i]? = some (.dK []) → h'[i]? = some (.dK [])
theorem V00.mono {h h' : DH} {d : D} (v : V00 h d) (k : Ds h h') : V00 h' d := by
  rcases v with v | ⟨i, e, v⟩
  · exact .inl v
  · exact .inr ⟨i, e, k i v⟩
theorem V00.ok {h : DH} {d : D} (v : V00 h d) : d.okR (qE h) = true := by
  have s0 : PyData.strOk "" = true := by decide +kernel
  have s1 : PyData.strOk "zz" = true := by decide +kernel
  have s2 : PyData.strOk "a" = true := by decide +kernel
  rcases v with v | ⟨i, e, v⟩
  · simp only [small, List.mem_cons, List.not_mem_nil, or_false] at v
    rcases v with rfl | rfl | rfl | rfl | rfl | rfl | rfl | rfl | rfl | rfl <;> simp [D.okR, D.okRs, s0, s1, s2]
  · subst e
    exact qE_of v
theorem V00.few {h : DH} {d : D} (v : V00 h d) : d.nodes ≤ 3 := by
  rcases v with v | ⟨i, e, v⟩
  · simp only [small, List.mem_cons, List.not_mem_nil, or_false] at v
    rcases v with rfl | rfl | rfl | rfl | rfl | rfl | rfl | rfl | rfl | rfl <;> simp [D.nodes, D.nodess]
  · subst e
    simp [D.nodes]
def SValue (ds : List D) (h : DH) (Q : D → DH → Prop) : Prop := ∃ b, ds = [.ref b] ∧ BagAt b h ∧ ∀ d h', BagAt b h' → Ds h h' → V00 h' d → Q d h'
theorem _root_.DL.BagAt.grow {b : Nat} {h : DH} {g : DH} (B : BagAt b h) : BagAt b (h ++ g) := by
  obtain ⟨st, sd, k, cs, e, hl⟩ := B
  exact ⟨st, sd, k, cs, by rw [List.getElem?_append_left (List.getElem?_eq_some_iff.mp e).1]; exact e, hl⟩
theorem Ds.grow (h g : DH) : Ds h (h ++ g) := fun i e => by rw [List.getElem?_append_left (List.getElem?_eq_some_iff.mp e).1]; exact e
theorem Ds.trans {h h1 h2 : DH} (a : Ds h h1) (c : Ds h1 h2) : Ds h h2 := fun i e => c i (a i e)
theorem Ds.keep {b : Nat} {h h' : DH} (B : BagAt b h) (k : Keep b h h') : Ds h h' := fun i e => by
  by_cases c : i = b
  · subst c
    obtain ⟨st, sd, kk, cs, eb, _⟩ := B
    rw [e] at eb
    cases eb
  · rw [k.2 i c]; exact e
theorem wp_value {T : Tab} (sm : Spec T "_law_some" 2 SSome) {ds : List D} {h : DH} {Q : D → DH → Prop} (q : SValue ds h Q) : (run T 1 c__law_value ds h).wp Q := by
  obtain ⟨b, rfl, B, q⟩ := q
  obtain ⟨e, t1, t2, t3⟩ := sm
  have pw : ∀ h, binD .Pow h (.int 10) (.int 30) = some (.int (10 ^ 30)) := fun h => pow_is h 10 30 (by decide)
  have z : ∀ n : Nat, n ≤ 11 → n ≤ sizeLine := fun n hn => Nat.le_trans hn (by decide)
  unfold run c__law_value DL.start
  simp only [semSs, semS, semB, semE, semT, semL, semA, semO, semQ, semN, semK, semI, BI.f, MI.f, sseq_c, sret, sretN, snext, sbreak, scont, sdrop, sif, sasg, spar2, spar3, ssub, saug, saugS, toS_ok, toS_err, toS_bad, bnd, mret, mnil, mcons, mtup, mcallB, mcall, mval, mnew, mnewD, mlist, mlistOf, mlistZip, mmeth, msl, mpart, mif_c, vnot, vand_c, vor_c, tnot, tand_c, tor_c, tru, t2, e2, DL.e1, chain_c, chainT_c, bind_ok, bind_err, bind_bad, ofO_some, ofO_none, mslot, mstar, mrev, mjoin, swh, List.getElem?_cons_zero, List.getElem?_cons_succ, List.set_cons_zero, List.set_cons_succ, Option.map_some, Option.map_none, if_true, if_false, Bool.false_eq_true, put_nm, put_tp, puts_nil, puts_cons, List.length_cons, List.length_nil, List.map_cons, List.map_nil, List.cons_append, List.nil_append, List.replicate_succ, List.replicate_zero, ite_true, ite_false, bind_ite, toS_ite, seq_nx, seq_rt, seq_bk, seq_ct, seq_err, seq_bad, seq_ite, toR_nx, toR_rt, toR_err, toR_bad, toR_ite, condO_some, condO_none, truD_bl, truD_int, truD_non, boolO_bl, bin_add_int, bin_sub_int, cmp_le_int, cmp_lt_int, cmp_ge_int, cmp_gt_int, cmp_eq_int, cmp_ne_int, cmp_ne_bl, Res.wp_ok, Res.wp_err, Res.wp_bad, Res.wp_bind, Res.wp_ite, SRes.wp_toS, SRes.wp_nx, SRes.wp_rt, SRes.wp_bk, SRes.wp_ct, SRes.wp_err, SRes.wp_bad, SRes.wp_seq, SRes.wp_ite, Res.wp_condO, Res.wp_toR, Nat.reduceAdd, Nat.reduceSub, Nat.reduceLT, Nat.reduceEqDiff, reduceIte, Nat.zero_add, and_self, true_and, and_true, Int.reduceLT, Int.reduceNeg, t1, t2, pw, neg_int, z 11 (by decide), z 1 (by decide)]
  refine t3 _ _ _ ⟨b, _, rfl, B.grow, by simp, by simp, fun d h' hd B' k => ?_⟩
  simp only [List.mem_cons, List.not_mem_nil, or_false] at hd
  have dd : Ds h h' := (Ds.grow h _).trans (Ds.keep B.grow k)
  have nd : h'[h.length]? = some (.dK []) := Ds.keep B.grow k _ (by simp)
  refine q d h' B' dd ?_
  rcases hd with rfl | rfl | rfl | rfl | rfl | rfl | rfl | rfl | rfl | rfl | rfl
  case inr.inr.inr.inr.inr.inr.inr.inr.inr.inr => exact .inr ⟨_, rfl, nd⟩
  all_goals exact .inl (by simp [small])
end DL.K00
end

section
set_option maxHeartbeats 4000000
/-! law k00: the plain law, the turns -/
namespace DL.K00
open PySem PySem.Spec PyProof.Rows L2
structure K00T (T : Tab) : Prop where
  value : Spec T "_law_value" 1 SValue
  alike : ∃ e, T.fn "_law_alike" = some e ∧ e.np = 2 ∧ ∀ d h (q : Nat → Bool), (∀ i, q i = true → h[i]? = some (.dK [])) → d.okR q = true → d.nodes ≤ 1000000 → ∃ g, e.sem [d, d] h = .ok (.bl true) (h ++ g)
  xs : T.xs = xs00
  isx : T.isx = isx00
structure S00 (b : Nat) (s : SS) (h : DH) : Prop where
  len : s.length = 19
  bag : s[1]? = some (some (.ref b))
  at_ : BagAt b h
section
variable {T : Tab} {s : SS} {h : DH} {b : Nat} {Kn : Kont} {v w : D}
theorem ne_at {i j : Nat} {o : Option D} {x : Option (Option D)} (e : s[j]? = x) (hi : i ≠ j) : (s.set i o)[j]? = x := by rw [List.getElem?_set_ne hi]; exact e
theorem S00.set {h' : DH} {i : Nat} {o : Option D} (p : S00 b s h) (hi : i ≠ 1) (B : BagAt b h') : S00 b (s.set i o) h' := ⟨by rw [List.length_set]; exact p.len, ne_at p.bag hi, B⟩
theorem S00.at {i : Nat} {o : Option D} (p : S00 b s h) (hi : i < 19) : (s.set i o)[i]? = some o := List.getElem?_set_self (by rw [p.len]; exact hi)
theorem wp_seq {m1 m2 : MS} (w : (m1 s h).wp { Kn with nx := fun s h => (m2 s h).wp Kn }) : (sseq m1 m2 s h).wp Kn := by
  rw [sseq_c, SRes.wp_seq]
  exact w
def err2 (x n1 n2 : Str) (a c : D) : D := .exc x [n1, n2] [a, c]
def err1 (x n1 : Str) (a : D) : D := .exc x [n1] [a]
/-- all errors, of two values -/
def errs (v w : D) : List D := [err2 "BadText" "line" "column" v w, err2 "BadGrove" "spot" "fault" v w, err2 "BadPaper" "spot" "fault" v w, err2 "BadBytes" "index" "fault" v w, err1 "NoName" "name" v, err1 "NoCommand" "line" w, err1 "Refused" "why" v, .exc "Nothing" [] [], err2 "TooMany" "what" "limit" v w]
def nmD : D → Str
  | .exc n _ _ => n
  | _ => ⟨#[]⟩
def isB (cn n : Str) : Bool := match isx00.find? fun p => decide (p.1 = n ∧ p.2.1 = cn) with
  | some p => p.2.2
  | none => false
theorem errs_nm : (errs v w).map nmD = cls00 := rfl
theorem isx_exc (cn n : Str) (hn : n ∈ cls00) (hc : cn ∈ ("GroveError" : Str) :: ("ValueError" : Str) :: cls00) (ns : List Str) (ds : List D) : fIsX isx00 cn (.exc n ns ds) = some (.bl (isB cn n)) := by
  have k : ∀ n ∈ cls00, ∀ cn ∈ ("GroveError" : Str) :: ("ValueError" : Str) :: cls00, (isx00.find? fun p => decide (p.1 = n ∧ p.2.1 = cn)).isSome = true := by decide +kernel
  have k := k n hn cn hc
  show (isx00.find? fun p => decide (p.1 = n ∧ p.2.1 = cn)).map (fun p => D.bl p.2.2) = _
  unfold isB
  cases e : isx00.find? fun p => decide (p.1 = n ∧ p.2.1 = cn) with
  | none => rw [e] at k; cases k
  | some p => rfl
theorem errs_exc {d : D} (hd : d ∈ errs v w) : ∃ n ns ds, d = .exc n ns ds ∧ n ∈ cls00 := by
  simp only [errs, List.mem_cons, List.not_mem_nil, or_false] at hd
  rcases hd with rfl | rfl | rfl | rfl | rfl | rfl | rfl | rfl | rfl <;> exact ⟨_, _, _, rfl, by decide +kernel⟩
/-- one column of what is told -/
def col (cn : Str) : List D := cls00.map fun n => .bl (isB cn n)
theorem wp_col (t : K00T T) {cn : Str} (hc : cn ∈ ("GroveError" : Str) :: ("ValueError" : Str) :: cls00) (p : S00 b s h) (h15 : s[15]? = some (some (.lst (errs v w)))) :
    semN T (.lc (.at (.slot 15)) (.nm 16) (.no) (.isx (.slot 16) cn) [16]) s h = .ok (col cn) h := by
  have z : (errs v w).length ≤ sizeLine := by
    have z : (9 : Nat) ≤ sizeLine := by decide
    exact z
  have hl : 16 < (wipeD s [16]).length := by
    show 16 < (s.set 16 none).length
    rw [List.length_set, p.len]
    decide
  simp only [semN, semI, semQ, semE, mlc, mit, bnd, mslot, h15, itOf, DL.bind_ok, ofO_some, D.seq]
  show lcG (itVals (errs v w)) _ _ _ _ (errs v w).length 0 [] h = _
  rw [lc_pure (fun _ => true) (fun d => .bl (isB cn (nmD d))) z fun d hd => ?_]
  · have ef : (errs v w).filter (fun _ => true) = errs v w := List.filter_eq_self.mpr fun _ _ => rfl
    rw [ef]
    rfl
  · obtain ⟨n, ns, ds, rfl, hn⟩ := errs_exc hd
    refine ⟨_, put_nm _ _ _, rfl, fun _ => ?_⟩
    simp only [misx, bnd, mslot, List.getElem?_set_self hl, DL.bind_ok, t.isx, isx_exc cn n hn hc, ofO_some, nmD]
end
end DL.K00
end

section
set_option maxHeartbeats 4000000
/-! law k00: the plain law, a turn -/
namespace DL.K00
open PySem PySem.Spec PyProof.Rows L2
section
variable {T : Tab} {s : SS} {h : DH} {b : Nat} {Kn : Kont} {v w : D}
theorem x_of (t : K00T T) (x : Str) : T.x x = xs00.find? fun e => decide (e.name = x) := by
  unfold Tab.x
  rw [t.xs]
theorem x2 (t : K00T T) : T.x "BadText" = some ⟨"BadText", ["line", "column"]⟩ ∧ T.x "BadGrove" = some ⟨"BadGrove", ["spot", "fault"]⟩ ∧ T.x "BadPaper" = some ⟨"BadPaper", ["spot", "fault"]⟩ ∧ T.x "BadBytes" = some ⟨"BadBytes", ["index", "fault"]⟩ ∧ T.x "NoName" = some ⟨"NoName", ["name"]⟩ ∧
    T.x "NoCommand" = some ⟨"NoCommand", ["line"]⟩ ∧ T.x "Refused" = some ⟨"Refused", ["why"]⟩ ∧ T.x "TooMany" = some ⟨"TooMany", ["what", "limit"]⟩ := by
  simp only [x_of t]
  exact ⟨rfl, rfl, rfl, rfl, rfl, rfl, rfl, rfl⟩
theorem fx : fXat xs00 "line" (err2 "BadText" "line" "column" v w) = some v ∧ fXat xs00 "column" (err2 "BadText" "line" "column" v w) = some w ∧ fXat xs00 "spot" (err2 "BadGrove" "spot" "fault" v w) = some v ∧ fXat xs00 "fault" (err2 "BadGrove" "spot" "fault" v w) = some w ∧
    fXat xs00 "spot" (err2 "BadPaper" "spot" "fault" v w) = some v ∧ fXat xs00 "fault" (err2 "BadPaper" "spot" "fault" v w) = some w ∧ fXat xs00 "index" (err2 "BadBytes" "index" "fault" v w) = some v ∧ fXat xs00 "fault" (err2 "BadBytes" "index" "fault" v w) = some w ∧
    fXat xs00 "name" (err1 "NoName" "name" v) = some v ∧ fXat xs00 "line" (err1 "NoCommand" "line" v) = some v ∧ fXat xs00 "why" (err1 "Refused" "why" v) = some v ∧ fXat xs00 "what" (err2 "TooMany" "what" "limit" v w) = some v ∧ fXat xs00 "limit" (err2 "TooMany" "what" "limit" v w) = some w :=
  ⟨rfl, rfl, rfl, rfl, rfl, rfl, rfl, rfl, rfl, rfl, rfl, rfl, rfl⟩
theorem err2_is (x n1 n2 : Str) (a c : D) : D.exc x [n1, n2] [a, c] = err2 x n1 n2 a c := rfl
theorem err1_is (x n1 : Str) (a : D) : D.exc x [n1] [a] = err1 x n1 a := rfl
theorem zz {n : Nat} (hn : n ≤ 1000 := by decide) : n ≤ sizeLine := Nat.le_trans hn (by decide)
theorem mul5 (h : DH) (v w : D) : binD .Mult h (.lst [v, w]) (.int 5) = some (.lst [v, w, v, w, v, w, v, w, v, w]) := by
  show (if -(2 ^ 63) ≤ (5 : Int) ∧ (5 : Int) < 2 ^ 63 ∧ [v, w].length * (5 : Int).toNat ≤ sizeLine then some (D.lst (List.replicate (5 : Int).toNat [v, w]).flatten) else none) = _
  rw [if_pos ⟨by decide, by decide, zz (by simp)⟩]
  rfl
/-- two values are drawn -/
theorem st0 (t : K00T T) (p : S00 b s h) (q : ∀ v w h', BagAt b h' → V00 h' v → V00 h' w → Kn.nx ((s.set 3 (some v)).set 4 (some w)) h') : (semS T c_law_1_0 s h).wp Kn := by
  obtain ⟨e, t1, t2, t3⟩ := t.value
  unfold c_law_1_0
  simp only [semSs, semS, semB, semE, semT, semL, semA, semO, semQ, semN, semK, semI, BI.f, MI.f, sseq_c, sret, sretN, snext, sbreak, scont, sdrop, sif, sasg, spar2, spar3, ssub, saug, saugS, toS_ok, toS_err, toS_bad, bnd, mret, mnil, mcons, mtup, mcallB, mcall, mval, mnew, mnewD, mlist, mlistOf, mlistZip, mmeth, msl, mpart, mif_c, vnot, vand_c, vor_c, tnot, tand_c, tor_c, tru, t2, e2, DL.e1, chain_c, chainT_c, bind_ok, bind_err, bind_bad, ofO_some, ofO_none, mslot, mstar, mrev, mjoin, swh, List.getElem?_cons_zero, List.getElem?_cons_succ, List.set_cons_zero, List.set_cons_succ, Option.map_some, Option.map_none, if_true, if_false, Bool.false_eq_true, put_nm, put_tp, puts_nil, puts_cons, List.length_cons, List.length_nil, List.map_cons, List.map_nil, List.cons_append, List.nil_append, List.replicate_succ, List.replicate_zero, ite_true, ite_false, bind_ite, toS_ite, seq_nx, seq_rt, seq_bk, seq_ct, seq_err, seq_bad, seq_ite, toR_nx, toR_rt, toR_err, toR_bad, toR_ite, condO_some, condO_none, truD_bl, truD_int, truD_non, boolO_bl, bin_add_int, bin_sub_int, cmp_le_int, cmp_lt_int, cmp_ge_int, cmp_gt_int, cmp_eq_int, cmp_ne_int, cmp_ne_bl, Res.wp_ok, Res.wp_err, Res.wp_bad, Res.wp_bind, Res.wp_ite, SRes.wp_toS, SRes.wp_nx, SRes.wp_rt, SRes.wp_bk, SRes.wp_ct, SRes.wp_err, SRes.wp_bad, SRes.wp_seq, SRes.wp_ite, Res.wp_condO, Res.wp_toR, Nat.reduceAdd, Nat.reduceSub, Nat.reduceLT, Nat.reduceEqDiff, reduceIte, Nat.zero_add, and_self, true_and, and_true, Int.reduceLT, Int.reduceNeg, p.bag, t1, t2]
  refine t3 _ _ _ ⟨b, rfl, p.at_, fun v h1 B1 d1 v1 => ?_⟩
  simp only [semSs, semS, semB, semE, semT, semL, semA, semO, semQ, semN, semK, semI, BI.f, MI.f, sseq_c, sret, sretN, snext, sbreak, scont, sdrop, sif, sasg, spar2, spar3, ssub, saug, saugS, toS_ok, toS_err, toS_bad, bnd, mret, mnil, mcons, mtup, mcallB, mcall, mval, mnew, mnewD, mlist, mlistOf, mlistZip, mmeth, msl, mpart, mif_c, vnot, vand_c, vor_c, tnot, tand_c, tor_c, tru, t2, e2, DL.e1, chain_c, chainT_c, bind_ok, bind_err, bind_bad, ofO_some, ofO_none, mslot, mstar, mrev, mjoin, swh, List.getElem?_cons_zero, List.getElem?_cons_succ, List.set_cons_zero, List.set_cons_succ, Option.map_some, Option.map_none, if_true, if_false, Bool.false_eq_true, put_nm, put_tp, puts_nil, puts_cons, List.length_cons, List.length_nil, List.map_cons, List.map_nil, List.cons_append, List.nil_append, List.replicate_succ, List.replicate_zero, ite_true, ite_false, bind_ite, toS_ite, seq_nx, seq_rt, seq_bk, seq_ct, seq_err, seq_bad, seq_ite, toR_nx, toR_rt, toR_err, toR_bad, toR_ite, condO_some, condO_none, truD_bl, truD_int, truD_non, boolO_bl, bin_add_int, bin_sub_int, cmp_le_int, cmp_lt_int, cmp_ge_int, cmp_gt_int, cmp_eq_int, cmp_ne_int, cmp_ne_bl, Res.wp_ok, Res.wp_err, Res.wp_bad, Res.wp_bind, Res.wp_ite, SRes.wp_toS, SRes.wp_nx, SRes.wp_rt, SRes.wp_bk, SRes.wp_ct, SRes.wp_err, SRes.wp_bad, SRes.wp_seq, SRes.wp_ite, Res.wp_condO, Res.wp_toR, Nat.reduceAdd, Nat.reduceSub, Nat.reduceLT, Nat.reduceEqDiff, reduceIte, Nat.zero_add, and_self, true_and, and_true, Int.reduceLT, Int.reduceNeg, p.bag, t1, t2]
  refine t3 _ _ _ ⟨b, rfl, B1, fun w h2 B2 d2 w2 => ?_⟩
  simp only [semSs, semS, semB, semE, semT, semL, semA, semO, semQ, semN, semK, semI, BI.f, MI.f, sseq_c, sret, sretN, snext, sbreak, scont, sdrop, sif, sasg, spar2, spar3, ssub, saug, saugS, toS_ok, toS_err, toS_bad, bnd, mret, mnil, mcons, mtup, mcallB, mcall, mval, mnew, mnewD, mlist, mlistOf, mlistZip, mmeth, msl, mpart, mif_c, vnot, vand_c, vor_c, tnot, tand_c, tor_c, tru, t2, e2, DL.e1, chain_c, chainT_c, bind_ok, bind_err, bind_bad, ofO_some, ofO_none, mslot, mstar, mrev, mjoin, swh, List.getElem?_cons_zero, List.getElem?_cons_succ, List.set_cons_zero, List.set_cons_succ, Option.map_some, Option.map_none, if_true, if_false, Bool.false_eq_true, put_nm, put_tp, puts_nil, puts_cons, List.length_cons, List.length_nil, List.map_cons, List.map_nil, List.cons_append, List.nil_append, List.replicate_succ, List.replicate_zero, ite_true, ite_false, bind_ite, toS_ite, seq_nx, seq_rt, seq_bk, seq_ct, seq_err, seq_bad, seq_ite, toR_nx, toR_rt, toR_err, toR_bad, toR_ite, condO_some, condO_none, truD_bl, truD_int, truD_non, boolO_bl, bin_add_int, bin_sub_int, cmp_le_int, cmp_lt_int, cmp_ge_int, cmp_gt_int, cmp_eq_int, cmp_ne_int, cmp_ne_bl, Res.wp_ok, Res.wp_err, Res.wp_bad, Res.wp_bind, Res.wp_ite, SRes.wp_toS, SRes.wp_nx, SRes.wp_rt, SRes.wp_bk, SRes.wp_ct, SRes.wp_err, SRes.wp_bad, SRes.wp_seq, SRes.wp_ite, Res.wp_condO, Res.wp_toR, Nat.reduceAdd, Nat.reduceSub, Nat.reduceLT, Nat.reduceEqDiff, reduceIte, Nat.zero_add, and_self, true_and, and_true, Int.reduceLT, Int.reduceNeg]
  exact q v w h2 B2 (v1.mono d2) w2
/-- the errors -/
theorem st1 (t : K00T T) (h3 : s[3]? = some (some v)) (h4 : s[4]? = some (some w)) (q : Kn.nx ((((s.set 5 (some (err2 "BadText" "line" "column" v w))).set 6 (some (err2 "BadGrove" "spot" "fault" v w))).set 7 (some (err2 "BadPaper" "spot" "fault" v w))).set 8 (some (err2 "BadBytes" "index" "fault" v w))) h) : (semS T c_law_1_1 s h).wp Kn := by
  obtain ⟨x1, x2, x3, x4, x5, x6, x7, x8⟩ := x2 t
  unfold c_law_1_1
  simp only [semSs, semS, semB, semE, semT, semL, semA, semO, semQ, semN, semK, semI, BI.f, MI.f, sseq_c, sret, sretN, snext, sbreak, scont, sdrop, sif, sasg, spar2, spar3, ssub, saug, saugS, toS_ok, toS_err, toS_bad, bnd, mret, mnil, mcons, mtup, mcallB, mcall, mval, mnew, mnewD, mlist, mlistOf, mlistZip, mmeth, msl, mpart, mif_c, vnot, vand_c, vor_c, tnot, tand_c, tor_c, tru, t2, e2, DL.e1, chain_c, chainT_c, bind_ok, bind_err, bind_bad, ofO_some, ofO_none, mslot, mstar, mrev, mjoin, swh, List.getElem?_cons_zero, List.getElem?_cons_succ, List.set_cons_zero, List.set_cons_succ, Option.map_some, Option.map_none, if_true, if_false, Bool.false_eq_true, put_nm, put_tp, puts_nil, puts_cons, List.length_cons, List.length_nil, List.map_cons, List.map_nil, List.cons_append, List.nil_append, List.replicate_succ, List.replicate_zero, ite_true, ite_false, bind_ite, toS_ite, seq_nx, seq_rt, seq_bk, seq_ct, seq_err, seq_bad, seq_ite, toR_nx, toR_rt, toR_err, toR_bad, toR_ite, condO_some, condO_none, truD_bl, truD_int, truD_non, boolO_bl, bin_add_int, bin_sub_int, cmp_le_int, cmp_lt_int, cmp_ge_int, cmp_gt_int, cmp_eq_int, cmp_ne_int, cmp_ne_bl, Res.wp_ok, Res.wp_err, Res.wp_bad, Res.wp_bind, Res.wp_ite, SRes.wp_toS, SRes.wp_nx, SRes.wp_rt, SRes.wp_bk, SRes.wp_ct, SRes.wp_err, SRes.wp_bad, SRes.wp_seq, SRes.wp_ite, Res.wp_condO, Res.wp_toR, Nat.reduceAdd, Nat.reduceSub, Nat.reduceLT, Nat.reduceEqDiff, reduceIte, Nat.zero_add, and_self, true_and, and_true, Int.reduceLT, Int.reduceNeg, h3, h4, x1, x2, x3, x4, mexc]
  exact q
theorem st2 (t : K00T T) (h3 : s[3]? = some (some v)) (h4 : s[4]? = some (some w)) (q : Kn.nx (((((s.set 9 (some (err1 "NoName" "name" v))).set 10 (some (err1 "NoCommand" "line" w))).set 11 (some (err1 "Refused" "why" v))).set 12 (some (.exc "Nothing" [] []))).set 13 (some (err2 "TooMany" "what" "limit" v w))) h) : (semS T c_law_1_2 s h).wp Kn := by
  obtain ⟨x1, x2, x3, x4, x5, x6, x7, x8⟩ := x2 t
  unfold c_law_1_2
  simp only [semSs, semS, semB, semE, semT, semL, semA, semO, semQ, semN, semK, semI, BI.f, MI.f, sseq_c, sret, sretN, snext, sbreak, scont, sdrop, sif, sasg, spar2, spar3, ssub, saug, saugS, toS_ok, toS_err, toS_bad, bnd, mret, mnil, mcons, mtup, mcallB, mcall, mval, mnew, mnewD, mlist, mlistOf, mlistZip, mmeth, msl, mpart, mif_c, vnot, vand_c, vor_c, tnot, tand_c, tor_c, tru, t2, e2, DL.e1, chain_c, chainT_c, bind_ok, bind_err, bind_bad, ofO_some, ofO_none, mslot, mstar, mrev, mjoin, swh, List.getElem?_cons_zero, List.getElem?_cons_succ, List.set_cons_zero, List.set_cons_succ, Option.map_some, Option.map_none, if_true, if_false, Bool.false_eq_true, put_nm, put_tp, puts_nil, puts_cons, List.length_cons, List.length_nil, List.map_cons, List.map_nil, List.cons_append, List.nil_append, List.replicate_succ, List.replicate_zero, ite_true, ite_false, bind_ite, toS_ite, seq_nx, seq_rt, seq_bk, seq_ct, seq_err, seq_bad, seq_ite, toR_nx, toR_rt, toR_err, toR_bad, toR_ite, condO_some, condO_none, truD_bl, truD_int, truD_non, boolO_bl, bin_add_int, bin_sub_int, cmp_le_int, cmp_lt_int, cmp_ge_int, cmp_gt_int, cmp_eq_int, cmp_ne_int, cmp_ne_bl, Res.wp_ok, Res.wp_err, Res.wp_bad, Res.wp_bind, Res.wp_ite, SRes.wp_toS, SRes.wp_nx, SRes.wp_rt, SRes.wp_bk, SRes.wp_ct, SRes.wp_err, SRes.wp_bad, SRes.wp_seq, SRes.wp_ite, Res.wp_condO, Res.wp_toR, Nat.reduceAdd, Nat.reduceSub, Nat.reduceLT, Nat.reduceEqDiff, reduceIte, Nat.zero_add, and_self, true_and, and_true, Int.reduceLT, Int.reduceNeg, h3, h4, x5, x6, x7, x8, mexc]
  exact q
/-- what they keep -/
theorem st3 (t : K00T T) (h5 : s[5]? = some (some (err2 "BadText" "line" "column" v w))) (h6 : s[6]? = some (some (err2 "BadGrove" "spot" "fault" v w))) (h7 : s[7]? = some (some (err2 "BadPaper" "spot" "fault" v w))) (h8 : s[8]? = some (some (err2 "BadBytes" "index" "fault" v w)))
    (q : Kn.nx (s.set 14 (some (.lst [v, w, v, w, v, w, v, w]))) h) : (semS T c_law_1_3 s h).wp Kn := by
  obtain ⟨f1, f2, f3, f4, f5, f6, f7, f8, f9, f10, f11, f12, f13⟩ := fx (v := v) (w := w)
  unfold c_law_1_3
  simp only [semSs, semS, semB, semE, semT, semL, semA, semO, semQ, semN, semK, semI, BI.f, MI.f, sseq_c, sret, sretN, snext, sbreak, scont, sdrop, sif, sasg, spar2, spar3, ssub, saug, saugS, toS_ok, toS_err, toS_bad, bnd, mret, mnil, mcons, mtup, mcallB, mcall, mval, mnew, mnewD, mlist, mlistOf, mlistZip, mmeth, msl, mpart, mif_c, vnot, vand_c, vor_c, tnot, tand_c, tor_c, tru, t2, e2, DL.e1, chain_c, chainT_c, bind_ok, bind_err, bind_bad, ofO_some, ofO_none, mslot, mstar, mrev, mjoin, swh, List.getElem?_cons_zero, List.getElem?_cons_succ, List.set_cons_zero, List.set_cons_succ, Option.map_some, Option.map_none, if_true, if_false, Bool.false_eq_true, put_nm, put_tp, puts_nil, puts_cons, List.length_cons, List.length_nil, List.map_cons, List.map_nil, List.cons_append, List.nil_append, List.replicate_succ, List.replicate_zero, ite_true, ite_false, bind_ite, toS_ite, seq_nx, seq_rt, seq_bk, seq_ct, seq_err, seq_bad, seq_ite, toR_nx, toR_rt, toR_err, toR_bad, toR_ite, condO_some, condO_none, truD_bl, truD_int, truD_non, boolO_bl, bin_add_int, bin_sub_int, cmp_le_int, cmp_lt_int, cmp_ge_int, cmp_gt_int, cmp_eq_int, cmp_ne_int, cmp_ne_bl, Res.wp_ok, Res.wp_err, Res.wp_bad, Res.wp_bind, Res.wp_ite, SRes.wp_toS, SRes.wp_nx, SRes.wp_rt, SRes.wp_bk, SRes.wp_ct, SRes.wp_err, SRes.wp_bad, SRes.wp_seq, SRes.wp_ite, Res.wp_condO, Res.wp_toR, Nat.reduceAdd, Nat.reduceSub, Nat.reduceLT, Nat.reduceEqDiff, reduceIte, Nat.zero_add, and_self, true_and, and_true, Int.reduceLT, Int.reduceNeg, h5, h6, h7, h8, t.xs, f1, f2, f3, f4, f5, f6, f7, f8, mxat, zz]
  exact q
theorem st4 (t : K00T T) (h13 : s[13]? = some (some (err2 "TooMany" "what" "limit" v w))) (h14 : s[14]? = some (some (.lst [v, w, v, w, v, w, v, w]))) (q : Kn.nx (s.set 14 (some (.lst [v, w, v, w, v, w, v, w, v, w]))) h) : (semS T c_law_1_4 s h).wp Kn := by
  obtain ⟨f1, f2, f3, f4, f5, f6, f7, f8, f9, f10, f11, f12, f13⟩ := fx (v := v) (w := w)
  unfold c_law_1_4
  simp only [semSs, semS, semB, semE, semT, semL, semA, semO, semQ, semN, semK, semI, BI.f, MI.f, sseq_c, sret, sretN, snext, sbreak, scont, sdrop, sif, sasg, spar2, spar3, ssub, saug, saugS, toS_ok, toS_err, toS_bad, bnd, mret, mnil, mcons, mtup, mcallB, mcall, mval, mnew, mnewD, mlist, mlistOf, mlistZip, mmeth, msl, mpart, mif_c, vnot, vand_c, vor_c, tnot, tand_c, tor_c, tru, t2, e2, DL.e1, chain_c, chainT_c, bind_ok, bind_err, bind_bad, ofO_some, ofO_none, mslot, mstar, mrev, mjoin, swh, List.getElem?_cons_zero, List.getElem?_cons_succ, List.set_cons_zero, List.set_cons_succ, Option.map_some, Option.map_none, if_true, if_false, Bool.false_eq_true, put_nm, put_tp, puts_nil, puts_cons, List.length_cons, List.length_nil, List.map_cons, List.map_nil, List.cons_append, List.nil_append, List.replicate_succ, List.replicate_zero, ite_true, ite_false, bind_ite, toS_ite, seq_nx, seq_rt, seq_bk, seq_ct, seq_err, seq_bad, seq_ite, toR_nx, toR_rt, toR_err, toR_bad, toR_ite, condO_some, condO_none, truD_bl, truD_int, truD_non, boolO_bl, bin_add_int, bin_sub_int, cmp_le_int, cmp_lt_int, cmp_ge_int, cmp_gt_int, cmp_eq_int, cmp_ne_int, cmp_ne_bl, Res.wp_ok, Res.wp_err, Res.wp_bad, Res.wp_bind, Res.wp_ite, SRes.wp_toS, SRes.wp_nx, SRes.wp_rt, SRes.wp_bk, SRes.wp_ct, SRes.wp_err, SRes.wp_bad, SRes.wp_seq, SRes.wp_ite, Res.wp_condO, Res.wp_toR, Nat.reduceAdd, Nat.reduceSub, Nat.reduceLT, Nat.reduceEqDiff, reduceIte, Nat.zero_add, and_self, true_and, and_true, Int.reduceLT, Int.reduceNeg, h13, h14, t.xs, f12, f13, mxat, zz, add_lst h [v, w, v, w, v, w, v, w] [v, w] (zz (by simp))]
  exact q
theorem st5 (t : K00T T) (v1 : V00 h v) (w1 : V00 h w) (h3 : s[3]? = some (some v)) (h4 : s[4]? = some (some w)) (h9 : s[9]? = some (some (err1 "NoName" "name" v))) (h10 : s[10]? = some (some (err1 "NoCommand" "line" w))) (h11 : s[11]? = some (some (err1 "Refused" "why" v))) (h14 : s[14]? = some (some (.lst [v, w, v, w, v, w, v, w, v, w])))
    (q : ∀ g, Kn.nx s (h ++ g)) : (semS T c_law_1_5 s h).wp Kn := by
  obtain ⟨e, t1, t2, t3⟩ := t.alike
  obtain ⟨_, _, _, _, _, _, _, _, f9, _, f11, _, _⟩ := fx (v := v) (w := w)
  obtain ⟨_, _, _, _, _, _, _, _, _, f10, _, _, _⟩ := fx (v := w) (w := w)
  have n1 := v1.few
  have n2 := w1.few
  obtain ⟨g1, a1⟩ := t3 (.lst [v, w, v, w, v, w, v, w, v, w]) h (qE h) (fun i => qE_is) (by simp [D.okR, D.okRs, v1.ok, w1.ok]) (by simp [D.nodes, D.nodess]; omega)
  obtain ⟨g2, a2⟩ := t3 (.lst [v, w, v]) (h ++ g1) (qE (h ++ g1)) (fun i => qE_is) (by simp [D.okR, D.okRs, (v1.mono (Ds.grow h g1)).ok, (w1.mono (Ds.grow h g1)).ok]) (by simp [D.nodes, D.nodess]; omega)
  unfold c_law_1_5
  simp only [semSs, semS, semB, semE, semT, semL, semA, semO, semQ, semN, semK, semI, BI.f, MI.f, sseq_c, sret, sretN, snext, sbreak, scont, sdrop, sif, sasg, spar2, spar3, ssub, saug, saugS, toS_ok, toS_err, toS_bad, bnd, mret, mnil, mcons, mtup, mcallB, mcall, mval, mnew, mnewD, mlist, mlistOf, mlistZip, mmeth, msl, mpart, mif_c, vnot, vand_c, vor_c, tnot, tand_c, tor_c, tru, t2, e2, DL.e1, chain_c, chainT_c, bind_ok, bind_err, bind_bad, ofO_some, ofO_none, mslot, mstar, mrev, mjoin, swh, List.getElem?_cons_zero, List.getElem?_cons_succ, List.set_cons_zero, List.set_cons_succ, Option.map_some, Option.map_none, if_true, if_false, Bool.false_eq_true, put_nm, put_tp, puts_nil, puts_cons, List.length_cons, List.length_nil, List.map_cons, List.map_nil, List.cons_append, List.nil_append, List.replicate_succ, List.replicate_zero, ite_true, ite_false, bind_ite, toS_ite, seq_nx, seq_rt, seq_bk, seq_ct, seq_err, seq_bad, seq_ite, toR_nx, toR_rt, toR_err, toR_bad, toR_ite, condO_some, condO_none, truD_bl, truD_int, truD_non, boolO_bl, bin_add_int, bin_sub_int, cmp_le_int, cmp_lt_int, cmp_ge_int, cmp_gt_int, cmp_eq_int, cmp_ne_int, cmp_ne_bl, Res.wp_ok, Res.wp_err, Res.wp_bad, Res.wp_bind, Res.wp_ite, SRes.wp_toS, SRes.wp_nx, SRes.wp_rt, SRes.wp_bk, SRes.wp_ct, SRes.wp_err, SRes.wp_bad, SRes.wp_seq, SRes.wp_ite, Res.wp_condO, Res.wp_toR, Nat.reduceAdd, Nat.reduceSub, Nat.reduceLT, Nat.reduceEqDiff, reduceIte, Nat.zero_add, and_self, true_and, and_true, Int.reduceLT, Int.reduceNeg, h3, h4, h9, h10, h11, h14, t1, t2, t.xs, f9, f10, f11, mxat, zz, mul5, a1, a2, Bool.not_true]
  rw [List.append_assoc]
  exact q _
theorem st6 (h5 : s[5]? = some (some (err2 "BadText" "line" "column" v w))) (h6 : s[6]? = some (some (err2 "BadGrove" "spot" "fault" v w))) (h7 : s[7]? = some (some (err2 "BadPaper" "spot" "fault" v w))) (h8 : s[8]? = some (some (err2 "BadBytes" "index" "fault" v w)))
    (h9 : s[9]? = some (some (err1 "NoName" "name" v))) (h10 : s[10]? = some (some (err1 "NoCommand" "line" w))) (h11 : s[11]? = some (some (err1 "Refused" "why" v))) (h12 : s[12]? = some (some (.exc "Nothing" [] []))) (h13 : s[13]? = some (some (err2 "TooMany" "what" "limit" v w)))
    (q : Kn.nx (s.set 15 (some (.lst (errs v w)))) h) : (semS T c_law_1_6 s h).wp Kn := by
  unfold c_law_1_6
  simp only [semSs, semS, semB, semE, semT, semL, semA, semO, semQ, semN, semK, semI, BI.f, MI.f, sseq_c, sret, sretN, snext, sbreak, scont, sdrop, sif, sasg, spar2, spar3, ssub, saug, saugS, toS_ok, toS_err, toS_bad, bnd, mret, mnil, mcons, mtup, mcallB, mcall, mval, mnew, mnewD, mlist, mlistOf, mlistZip, mmeth, msl, mpart, mif_c, vnot, vand_c, vor_c, tnot, tand_c, tor_c, tru, t2, e2, DL.e1, chain_c, chainT_c, bind_ok, bind_err, bind_bad, ofO_some, ofO_none, mslot, mstar, mrev, mjoin, swh, List.getElem?_cons_zero, List.getElem?_cons_succ, List.set_cons_zero, List.set_cons_succ, Option.map_some, Option.map_none, if_true, if_false, Bool.false_eq_true, put_nm, put_tp, puts_nil, puts_cons, List.length_cons, List.length_nil, List.map_cons, List.map_nil, List.cons_append, List.nil_append, List.replicate_succ, List.replicate_zero, ite_true, ite_false, bind_ite, toS_ite, seq_nx, seq_rt, seq_bk, seq_ct, seq_err, seq_bad, seq_ite, toR_nx, toR_rt, toR_err, toR_bad, toR_ite, condO_some, condO_none, truD_bl, truD_int, truD_non, boolO_bl, bin_add_int, bin_sub_int, cmp_le_int, cmp_lt_int, cmp_ge_int, cmp_gt_int, cmp_eq_int, cmp_ne_int, cmp_ne_bl, Res.wp_ok, Res.wp_err, Res.wp_bad, Res.wp_bind, Res.wp_ite, SRes.wp_toS, SRes.wp_nx, SRes.wp_rt, SRes.wp_bk, SRes.wp_ct, SRes.wp_err, SRes.wp_bad, SRes.wp_seq, SRes.wp_ite, Res.wp_condO, Res.wp_toR, Nat.reduceAdd, Nat.reduceSub, Nat.reduceLT, Nat.reduceEqDiff, reduceIte, Nat.zero_add, and_self, true_and, and_true, Int.reduceLT, Int.reduceNeg, h5, h6, h7, h8, h9, h10, h11, h12, h13, zz]
  exact q
end
end DL.K00
end

section
set_option maxHeartbeats 4000000
/-! law k00: the plain law, what is told -/
namespace DL.K00
open PySem PySem.Spec PyProof.Rows L2
theorem pys_bl : ∀ l : List Bool, D.pys (l.map D.bl) = some (l.map PyData.bool)
  | [] => rfl
  | x :: l => by simp only [List.map_cons, D.pys, D.py, pys_bl l]
theorem bl_lay : ∀ l : List Bool, PyData.canLayAll0 (l.map PyData.bool) = true
  | [] => rfl
  | x :: l => by have ih := bl_lay l; simp [PyData.canLayAll0, PyData.canLay0]; simpa using ih
theorem bl_depth : ∀ l : List Bool, PyData.depthAll (l.map PyData.bool) = 0
  | [] => rfl
  | x :: l => by have ih := bl_depth l; simp [PyData.depthAll, PyData.depth]; simpa using ih
theorem bl_eqv : ∀ l : List Bool, PyData.eqvAll (l.map PyData.bool) (l.map PyData.bool) = true
  | [] => rfl
  | x :: l => by have ih := bl_eqv l; simp [PyData.eqvAll, PyData.eqv]; simpa using ih
theorem ne_bools (h : DH) (l : List Bool) : cmpD .NotEq h (.lst (l.map D.bl)) (.lst (l.map D.bl)) = some (.bl false) := by
  refine ne_of ?_
  unfold fNe
  simp only [D.pyh, D.py, pys_bl, Option.map_some]
  have sh : SeqAt.shaped (.list (l.map PyData.bool)) = true := by
    unfold SeqAt.shaped
    simp only [PyData.canLay0, bl_lay, PyData.depth, bl_depth]
    rfl
  rw [if_pos ⟨sh, sh⟩]
  show some (D.bl (!(PyData.eqvAll (l.map PyData.bool) (l.map PyData.bool)))) = _
  rw [bl_eqv]
  rfl
def colB (cn : Str) : List Bool := cls00.map (isB cn)
theorem col_is (cn : Str) : col cn = (colB cn).map D.bl := by
  unfold col colB
  rw [List.map_map]
  rfl
theorem colB_len (cn : Str) : (colB cn).length = 9 := by
  unfold colB
  rw [List.length_map]
  rfl
def allB : List Bool := (List.range 81).map fun i => ((0 : Int) + (i : Nat)) / 9 == ((0 : Int) + (i : Nat)) % 9
theorem all_is : colB "BadText" ++ colB "BadGrove" ++ colB "BadPaper" ++ colB "BadBytes" ++ colB "NoName" ++ colB "NoCommand" ++ colB "Refused" ++ colB "Nothing" ++ colB "TooMany" = allB := by decide +kernel
section
variable {T : Tab} {s : SS} {h : DH} {b : Nat} {Kn : Kont} {v w : D}
theorem add_bl (h : DH) (k l : List Bool) (c : k.length + l.length ≤ 1000) : binD .Add h (.lst (k.map D.bl)) (.lst (l.map D.bl)) = some (.lst ((k ++ l).map D.bl)) := by
  rw [List.map_append]
  exact add_lst h _ _ (by rw [List.length_map, List.length_map]; exact zz c)
theorem st7 (t : K00T T) (p : S00 b s h) (h15 : s[15]? = some (some (.lst (errs v w)))) (q : ∀ s', S00 b s' h → s'[15]? = some (some (.lst (errs v w))) → Kn.nx s' h) : (semS T c_law_1_7 s h).wp Kn := by
  have k1 : ∀ n ∈ cls00, isB "GroveError" n = true := by decide +kernel
  have k2 : ∀ n ∈ cls00, isB "ValueError" n = true := by decide +kernel
  unfold c_law_1_7
  simp only [semSs, semS, semB, semE, semT, semL, semA, semO, semQ, semN, semK, semI, BI.f, MI.f, sseq_c, sret, sretN, snext, sbreak, scont, sdrop, sif, sasg, spar2, spar3, ssub, saug, saugS, toS_ok, toS_err, toS_bad, bnd, mret, mnil, mcons, mtup, mcallB, mcall, mval, mnew, mnewD, mlist, mlistOf, mlistZip, mmeth, msl, mpart, mif_c, vnot, vand_c, vor_c, tnot, tand_c, tor_c, tru, t2, e2, DL.e1, chain_c, chainT_c, bind_ok, bind_err, bind_bad, ofO_some, ofO_none, mslot, mstar, mrev, mjoin, swh, List.getElem?_cons_zero, List.getElem?_cons_succ, List.set_cons_zero, List.set_cons_succ, Option.map_some, Option.map_none, if_true, if_false, Bool.false_eq_true, put_nm, put_tp, puts_nil, puts_cons, List.length_cons, List.length_nil, List.map_cons, List.map_nil, List.cons_append, List.nil_append, List.replicate_succ, List.replicate_zero, ite_true, ite_false, bind_ite, toS_ite, seq_nx, seq_rt, seq_bk, seq_ct, seq_err, seq_bad, seq_ite, toR_nx, toR_rt, toR_err, toR_bad, toR_ite, condO_some, condO_none, truD_bl, truD_int, truD_non, boolO_bl, bin_add_int, bin_sub_int, cmp_le_int, cmp_lt_int, cmp_ge_int, cmp_gt_int, cmp_eq_int, cmp_ne_int, cmp_ne_bl, Res.wp_ok, Res.wp_err, Res.wp_bad, Res.wp_bind, Res.wp_ite, SRes.wp_toS, SRes.wp_nx, SRes.wp_rt, SRes.wp_bk, SRes.wp_ct, SRes.wp_err, SRes.wp_bad, SRes.wp_seq, SRes.wp_ite, Res.wp_condO, Res.wp_toR, Nat.reduceAdd, Nat.reduceSub, Nat.reduceLT, Nat.reduceEqDiff, reduceIte, Nat.zero_add, and_self, true_and, and_true, Int.reduceLT, Int.reduceNeg, sfor, mit, bnd, h15, itOf, D.seq]
  refine wp_forV (ds := errs v w) (fun i s' h' => S00 b s' h' ∧ h' = h ∧ s'[15]? = some (some (.lst (errs v w)))) (fun i d s' h' ⟨p', e, r⟩ hd => ⟨_, put_nm _ _ _, ?_⟩) (fun s' h' ⟨p', e, r⟩ => ?_) ⟨p, rfl, h15⟩
  · subst e
    obtain ⟨n, ns, ds, rfl, hn⟩ := errs_exc (List.mem_of_getElem? hd)
    have i1 := isx_exc "GroveError" n hn (by decide +kernel) ns ds
    have i2 := isx_exc "ValueError" n hn (by decide +kernel) ns ds
    rw [k1 n hn] at i1
    rw [k2 n hn] at i2
    have g16 : (s'.set 16 (some (D.exc n ns ds)))[16]? = some (some (.exc n ns ds)) := p'.at (i := 16) (by decide)
    unfold c_law_1_7_b c_law_1_7_0
    simp only [semSs, semS, semB, semE, semT, semL, semA, semO, semQ, semN, semK, semI, BI.f, MI.f, sseq_c, sret, sretN, snext, sbreak, scont, sdrop, sif, sasg, spar2, spar3, ssub, saug, saugS, toS_ok, toS_err, toS_bad, bnd, mret, mnil, mcons, mtup, mcallB, mcall, mval, mnew, mnewD, mlist, mlistOf, mlistZip, mmeth, msl, mpart, mif_c, vnot, vand_c, vor_c, tnot, tand_c, tor_c, tru, t2, e2, DL.e1, chain_c, chainT_c, bind_ok, bind_err, bind_bad, ofO_some, ofO_none, mslot, mstar, mrev, mjoin, swh, List.getElem?_cons_zero, List.getElem?_cons_succ, List.set_cons_zero, List.set_cons_succ, Option.map_some, Option.map_none, if_true, if_false, Bool.false_eq_true, put_nm, put_tp, puts_nil, puts_cons, List.length_cons, List.length_nil, List.map_cons, List.map_nil, List.cons_append, List.nil_append, List.replicate_succ, List.replicate_zero, ite_true, ite_false, bind_ite, toS_ite, seq_nx, seq_rt, seq_bk, seq_ct, seq_err, seq_bad, seq_ite, toR_nx, toR_rt, toR_err, toR_bad, toR_ite, condO_some, condO_none, truD_bl, truD_int, truD_non, boolO_bl, bin_add_int, bin_sub_int, cmp_le_int, cmp_lt_int, cmp_ge_int, cmp_gt_int, cmp_eq_int, cmp_ne_int, cmp_ne_bl, Res.wp_ok, Res.wp_err, Res.wp_bad, Res.wp_bind, Res.wp_ite, SRes.wp_toS, SRes.wp_nx, SRes.wp_rt, SRes.wp_bk, SRes.wp_ct, SRes.wp_err, SRes.wp_bad, SRes.wp_seq, SRes.wp_ite, Res.wp_condO, Res.wp_toR, Nat.reduceAdd, Nat.reduceSub, Nat.reduceLT, Nat.reduceEqDiff, reduceIte, Nat.zero_add, and_self, true_and, and_true, Int.reduceLT, Int.reduceNeg, misx, g16, t.isx, i1, i2, Bool.not_true]
    first | exact ⟨p'.set (i := 16) (by decide) p'.at_, rfl, ne_at (i := 16) r (by decide)⟩ | exact ⟨p'.set (i := 16) (by decide) p'.at_, ne_at (i := 16) r (by decide)⟩
  · rw [e] at p' ⊢
    exact q s' p' r
theorem c_one (t : K00T T) {cn : Str} (hc : cn ∈ ("GroveError" : Str) :: ("ValueError" : Str) :: cls00) (p : S00 b s h) (h15 : s[15]? = some (some (.lst (errs v w)))) :
    semN T (.lc (.at (.slot 15)) (.nm 16) (.no) (.isx (.slot 16) cn) [16]) s h = .ok ((colB cn).map D.bl) h := by
  rw [wp_col t hc p h15, col_is]
theorem st8 (t : K00T T) (p : S00 b s h) (h15 : s[15]? = some (some (.lst (errs v w)))) (q : Kn.nx (s.set 17 (some (.lst ((colB "BadText" ++ colB "BadGrove").map D.bl)))) h) : (semS T c_law_1_8 s h).wp Kn := by
  unfold c_law_1_8
  simp only [semSs, semS, semB, semE, semT, semL, semA, semO, semQ, semK, semI, BI.f, MI.f, sseq_c, sret, sretN, snext, sbreak, scont, sdrop, sif, sasg, spar2, spar3, ssub, saug, saugS, toS_ok, toS_err, toS_bad, bnd, mret, mnil, mcons, mtup, mcallB, mcall, mval, mnew, mnewD, mlist, mlistOf, mlistZip, mmeth, msl, mpart, mif_c, vnot, vand_c, vor_c, tnot, tand_c, tor_c, tru, t2, e2, DL.e1, chain_c, chainT_c, bind_ok, bind_err, bind_bad, ofO_some, ofO_none, mslot, mstar, mrev, mjoin, swh, List.getElem?_cons_zero, List.getElem?_cons_succ, List.set_cons_zero, List.set_cons_succ, Option.map_some, Option.map_none, if_true, if_false, Bool.false_eq_true, put_nm, put_tp, puts_nil, puts_cons, List.length_cons, List.length_nil, List.map_cons, List.map_nil, List.cons_append, List.nil_append, List.replicate_succ, List.replicate_zero, ite_true, ite_false, bind_ite, toS_ite, seq_nx, seq_rt, seq_bk, seq_ct, seq_err, seq_bad, seq_ite, toR_nx, toR_rt, toR_err, toR_bad, toR_ite, condO_some, condO_none, truD_bl, truD_int, truD_non, boolO_bl, bin_add_int, bin_sub_int, cmp_le_int, cmp_lt_int, cmp_ge_int, cmp_gt_int, cmp_eq_int, cmp_ne_int, cmp_ne_bl, Res.wp_ok, Res.wp_err, Res.wp_bad, Res.wp_bind, Res.wp_ite, SRes.wp_toS, SRes.wp_nx, SRes.wp_rt, SRes.wp_bk, SRes.wp_ct, SRes.wp_err, SRes.wp_bad, SRes.wp_seq, SRes.wp_ite, Res.wp_condO, Res.wp_toR, Nat.reduceAdd, Nat.reduceSub, Nat.reduceLT, Nat.reduceEqDiff, reduceIte, Nat.zero_add, and_self, true_and, and_true, Int.reduceLT, Int.reduceNeg, c_one t (cn := "BadText") (by decide +kernel) p h15, c_one t (cn := "BadGrove") (by decide +kernel) p h15, add_bl h (colB "BadText") (colB "BadGrove") (by simp [colB_len])]
  exact q
theorem st9 (t : K00T T) (p : S00 b s h) (h15 : s[15]? = some (some (.lst (errs v w)))) {l : List Bool} (hl : l.length ≤ 100) (h17 : s[17]? = some (some (.lst (l.map D.bl)))) (q : Kn.nx (s.set 17 (some (.lst ((l ++ colB "BadPaper" ++ colB "BadBytes").map D.bl)))) h) : (semS T c_law_1_9 s h).wp Kn := by
  unfold c_law_1_9
  simp only [semSs, semS, semB, semE, semT, semL, semA, semO, semQ, semK, semI, BI.f, MI.f, sseq_c, sret, sretN, snext, sbreak, scont, sdrop, sif, sasg, spar2, spar3, ssub, saug, saugS, toS_ok, toS_err, toS_bad, bnd, mret, mnil, mcons, mtup, mcallB, mcall, mval, mnew, mnewD, mlist, mlistOf, mlistZip, mmeth, msl, mpart, mif_c, vnot, vand_c, vor_c, tnot, tand_c, tor_c, tru, t2, e2, DL.e1, chain_c, chainT_c, bind_ok, bind_err, bind_bad, ofO_some, ofO_none, mslot, mstar, mrev, mjoin, swh, List.getElem?_cons_zero, List.getElem?_cons_succ, List.set_cons_zero, List.set_cons_succ, Option.map_some, Option.map_none, if_true, if_false, Bool.false_eq_true, put_nm, put_tp, puts_nil, puts_cons, List.length_cons, List.length_nil, List.map_cons, List.map_nil, List.cons_append, List.nil_append, List.replicate_succ, List.replicate_zero, ite_true, ite_false, bind_ite, toS_ite, seq_nx, seq_rt, seq_bk, seq_ct, seq_err, seq_bad, seq_ite, toR_nx, toR_rt, toR_err, toR_bad, toR_ite, condO_some, condO_none, truD_bl, truD_int, truD_non, boolO_bl, bin_add_int, bin_sub_int, cmp_le_int, cmp_lt_int, cmp_ge_int, cmp_gt_int, cmp_eq_int, cmp_ne_int, cmp_ne_bl, Res.wp_ok, Res.wp_err, Res.wp_bad, Res.wp_bind, Res.wp_ite, SRes.wp_toS, SRes.wp_nx, SRes.wp_rt, SRes.wp_bk, SRes.wp_ct, SRes.wp_err, SRes.wp_bad, SRes.wp_seq, SRes.wp_ite, Res.wp_condO, Res.wp_toR, Nat.reduceAdd, Nat.reduceSub, Nat.reduceLT, Nat.reduceEqDiff, reduceIte, Nat.zero_add, and_self, true_and, and_true, Int.reduceLT, Int.reduceNeg, h17, c_one t (cn := "BadPaper") (by decide +kernel) p h15, c_one t (cn := "BadBytes") (by decide +kernel) p h15, add_bl h l (colB "BadPaper") (by simp [colB_len]; omega), add_bl h (l ++ colB "BadPaper") (colB "BadBytes") (by simp [colB_len]; omega)]
  exact q
theorem st10 (t : K00T T) (p : S00 b s h) (h15 : s[15]? = some (some (.lst (errs v w)))) {l : List Bool} (hl : l.length ≤ 100) (h17 : s[17]? = some (some (.lst (l.map D.bl)))) (q : Kn.nx (s.set 17 (some (.lst ((l ++ colB "NoName" ++ colB "NoCommand").map D.bl)))) h) : (semS T c_law_1_10 s h).wp Kn := by
  unfold c_law_1_10
  simp only [semSs, semS, semB, semE, semT, semL, semA, semO, semQ, semK, semI, BI.f, MI.f, sseq_c, sret, sretN, snext, sbreak, scont, sdrop, sif, sasg, spar2, spar3, ssub, saug, saugS, toS_ok, toS_err, toS_bad, bnd, mret, mnil, mcons, mtup, mcallB, mcall, mval, mnew, mnewD, mlist, mlistOf, mlistZip, mmeth, msl, mpart, mif_c, vnot, vand_c, vor_c, tnot, tand_c, tor_c, tru, t2, e2, DL.e1, chain_c, chainT_c, bind_ok, bind_err, bind_bad, ofO_some, ofO_none, mslot, mstar, mrev, mjoin, swh, List.getElem?_cons_zero, List.getElem?_cons_succ, List.set_cons_zero, List.set_cons_succ, Option.map_some, Option.map_none, if_true, if_false, Bool.false_eq_true, put_nm, put_tp, puts_nil, puts_cons, List.length_cons, List.length_nil, List.map_cons, List.map_nil, List.cons_append, List.nil_append, List.replicate_succ, List.replicate_zero, ite_true, ite_false, bind_ite, toS_ite, seq_nx, seq_rt, seq_bk, seq_ct, seq_err, seq_bad, seq_ite, toR_nx, toR_rt, toR_err, toR_bad, toR_ite, condO_some, condO_none, truD_bl, truD_int, truD_non, boolO_bl, bin_add_int, bin_sub_int, cmp_le_int, cmp_lt_int, cmp_ge_int, cmp_gt_int, cmp_eq_int, cmp_ne_int, cmp_ne_bl, Res.wp_ok, Res.wp_err, Res.wp_bad, Res.wp_bind, Res.wp_ite, SRes.wp_toS, SRes.wp_nx, SRes.wp_rt, SRes.wp_bk, SRes.wp_ct, SRes.wp_err, SRes.wp_bad, SRes.wp_seq, SRes.wp_ite, Res.wp_condO, Res.wp_toR, Nat.reduceAdd, Nat.reduceSub, Nat.reduceLT, Nat.reduceEqDiff, reduceIte, Nat.zero_add, and_self, true_and, and_true, Int.reduceLT, Int.reduceNeg, h17, c_one t (cn := "NoName") (by decide +kernel) p h15, c_one t (cn := "NoCommand") (by decide +kernel) p h15, add_bl h l (colB "NoName") (by simp [colB_len]; omega), add_bl h (l ++ colB "NoName") (colB "NoCommand") (by simp [colB_len]; omega)]
  exact q
theorem st11 (t : K00T T) (p : S00 b s h) (h15 : s[15]? = some (some (.lst (errs v w)))) {l : List Bool} (hl : l.length ≤ 100) (h17 : s[17]? = some (some (.lst (l.map D.bl)))) (q : Kn.nx (s.set 17 (some (.lst ((l ++ colB "Refused" ++ colB "Nothing").map D.bl)))) h) : (semS T c_law_1_11 s h).wp Kn := by
  unfold c_law_1_11
  simp only [semSs, semS, semB, semE, semT, semL, semA, semO, semQ, semK, semI, BI.f, MI.f, sseq_c, sret, sretN, snext, sbreak, scont, sdrop, sif, sasg, spar2, spar3, ssub, saug, saugS, toS_ok, toS_err, toS_bad, bnd, mret, mnil, mcons, mtup, mcallB, mcall, mval, mnew, mnewD, mlist, mlistOf, mlistZip, mmeth, msl, mpart, mif_c, vnot, vand_c, vor_c, tnot, tand_c, tor_c, tru, t2, e2, DL.e1, chain_c, chainT_c, bind_ok, bind_err, bind_bad, ofO_some, ofO_none, mslot, mstar, mrev, mjoin, swh, List.getElem?_cons_zero, List.getElem?_cons_succ, List.set_cons_zero, List.set_cons_succ, Option.map_some, Option.map_none, if_true, if_false, Bool.false_eq_true, put_nm, put_tp, puts_nil, puts_cons, List.length_cons, List.length_nil, List.map_cons, List.map_nil, List.cons_append, List.nil_append, List.replicate_succ, List.replicate_zero, ite_true, ite_false, bind_ite, toS_ite, seq_nx, seq_rt, seq_bk, seq_ct, seq_err, seq_bad, seq_ite, toR_nx, toR_rt, toR_err, toR_bad, toR_ite, condO_some, condO_none, truD_bl, truD_int, truD_non, boolO_bl, bin_add_int, bin_sub_int, cmp_le_int, cmp_lt_int, cmp_ge_int, cmp_gt_int, cmp_eq_int, cmp_ne_int, cmp_ne_bl, Res.wp_ok, Res.wp_err, Res.wp_bad, Res.wp_bind, Res.wp_ite, SRes.wp_toS, SRes.wp_nx, SRes.wp_rt, SRes.wp_bk, SRes.wp_ct, SRes.wp_err, SRes.wp_bad, SRes.wp_seq, SRes.wp_ite, Res.wp_condO, Res.wp_toR, Nat.reduceAdd, Nat.reduceSub, Nat.reduceLT, Nat.reduceEqDiff, reduceIte, Nat.zero_add, and_self, true_and, and_true, Int.reduceLT, Int.reduceNeg, h17, c_one t (cn := "Refused") (by decide +kernel) p h15, c_one t (cn := "Nothing") (by decide +kernel) p h15, add_bl h l (colB "Refused") (by simp [colB_len]; omega), add_bl h (l ++ colB "Refused") (colB "Nothing") (by simp [colB_len]; omega)]
  exact q
theorem st12 (t : K00T T) (p : S00 b s h) (h15 : s[15]? = some (some (.lst (errs v w)))) {l : List Bool} (hl : l.length ≤ 100) (h17 : s[17]? = some (some (.lst (l.map D.bl)))) (q : Kn.nx (s.set 17 (some (.lst ((l ++ colB "TooMany").map D.bl)))) h) : (semS T c_law_1_12 s h).wp Kn := by
  unfold c_law_1_12
  simp only [semSs, semS, semB, semE, semT, semL, semA, semO, semQ, semK, semI, BI.f, MI.f, sseq_c, sret, sretN, snext, sbreak, scont, sdrop, sif, sasg, spar2, spar3, ssub, saug, saugS, toS_ok, toS_err, toS_bad, bnd, mret, mnil, mcons, mtup, mcallB, mcall, mval, mnew, mnewD, mlist, mlistOf, mlistZip, mmeth, msl, mpart, mif_c, vnot, vand_c, vor_c, tnot, tand_c, tor_c, tru, t2, e2, DL.e1, chain_c, chainT_c, bind_ok, bind_err, bind_bad, ofO_some, ofO_none, mslot, mstar, mrev, mjoin, swh, List.getElem?_cons_zero, List.getElem?_cons_succ, List.set_cons_zero, List.set_cons_succ, Option.map_some, Option.map_none, if_true, if_false, Bool.false_eq_true, put_nm, put_tp, puts_nil, puts_cons, List.length_cons, List.length_nil, List.map_cons, List.map_nil, List.cons_append, List.nil_append, List.replicate_succ, List.replicate_zero, ite_true, ite_false, bind_ite, toS_ite, seq_nx, seq_rt, seq_bk, seq_ct, seq_err, seq_bad, seq_ite, toR_nx, toR_rt, toR_err, toR_bad, toR_ite, condO_some, condO_none, truD_bl, truD_int, truD_non, boolO_bl, bin_add_int, bin_sub_int, cmp_le_int, cmp_lt_int, cmp_ge_int, cmp_gt_int, cmp_eq_int, cmp_ne_int, cmp_ne_bl, Res.wp_ok, Res.wp_err, Res.wp_bad, Res.wp_bind, Res.wp_ite, SRes.wp_toS, SRes.wp_nx, SRes.wp_rt, SRes.wp_bk, SRes.wp_ct, SRes.wp_err, SRes.wp_bad, SRes.wp_seq, SRes.wp_ite, Res.wp_condO, Res.wp_toR, Nat.reduceAdd, Nat.reduceSub, Nat.reduceLT, Nat.reduceEqDiff, reduceIte, Nat.zero_add, and_self, true_and, and_true, Int.reduceLT, Int.reduceNeg, h17, c_one t (cn := "TooMany") (by decide +kernel) p h15, add_bl h l (colB "TooMany") (by simp [colB_len]; omega)]
  exact q
theorem st13 (p : S00 b s h) (h17 : s[17]? = some (some (.lst (allB.map D.bl)))) (q : Kn.nx s h) : (semS T c_law_1_13 s h).wp Kn := by
  have hl : 18 < (wipeD s [18]).length := by
    show 18 < (s.set 18 none).length
    rw [List.length_set, p.len]
    decide
  unfold c_law_1_13
  simp only [semSs, semS, semB, semE, semT, semL, semA, semO, semQ, semN, semK, semI, BI.f, MI.f, sseq_c, sret, sretN, snext, sbreak, scont, sdrop, sif, sasg, spar2, spar3, ssub, saug, saugS, toS_ok, toS_err, toS_bad, bnd, mret, mnil, mcons, mtup, mcallB, mcall, mval, mnew, mnewD, mlist, mlistOf, mlistZip, mmeth, msl, mpart, mif_c, vnot, vand_c, vor_c, tnot, tand_c, tor_c, tru, t2, e2, DL.e1, chain_c, chainT_c, bind_ok, bind_err, bind_bad, ofO_some, ofO_none, mslot, mstar, mrev, mjoin, swh, List.getElem?_cons_zero, List.getElem?_cons_succ, List.set_cons_zero, List.set_cons_succ, Option.map_some, Option.map_none, if_true, if_false, Bool.false_eq_true, put_nm, put_tp, puts_nil, puts_cons, List.length_cons, List.length_nil, List.map_cons, List.map_nil, List.cons_append, List.nil_append, List.replicate_succ, List.replicate_zero, ite_true, ite_false, bind_ite, toS_ite, seq_nx, seq_rt, seq_bk, seq_ct, seq_err, seq_bad, seq_ite, toR_nx, toR_rt, toR_err, toR_bad, toR_ite, condO_some, condO_none, truD_bl, truD_int, truD_non, boolO_bl, bin_add_int, bin_sub_int, cmp_le_int, cmp_lt_int, cmp_ge_int, cmp_gt_int, cmp_eq_int, cmp_ne_int, cmp_ne_bl, Res.wp_ok, Res.wp_err, Res.wp_bad, Res.wp_bind, Res.wp_ite, SRes.wp_toS, SRes.wp_nx, SRes.wp_rt, SRes.wp_bk, SRes.wp_ct, SRes.wp_err, SRes.wp_bad, SRes.wp_seq, SRes.wp_ite, Res.wp_condO, Res.wp_toR, Nat.reduceAdd, Nat.reduceSub, Nat.reduceLT, Nat.reduceEqDiff, reduceIte, Nat.zero_add, and_self, true_and, and_true, Int.reduceLT, Int.reduceNeg, h17, mlc, mrange1_c, rangeR_int h 81 (by decide) (by decide)]
  refine wp_lcR (n := 81) (fun i acc h' => acc = ((List.range i).map fun i => ((0 : Int) + (i : Nat)) / 9 == ((0 : Int) + (i : Nat)) % 9).map D.bl ∧ h' = h) (zz (by decide)) (fun i acc h' ⟨e, eh⟩ hi hl2 => ⟨_, put_nm _ _ _, ?_⟩) (fun acc h' ⟨e, eh⟩ => ?_) ⟨rfl, rfl⟩
  · subst eh
    obtain ⟨k, hk⟩ : ∃ k : Int, k = (0 : Int) + (i : Nat) := ⟨_, rfl⟩
    rw [← hk]
    simp only [semSs, semS, semB, semE, semT, semL, semA, semO, semQ, semN, semK, semI, BI.f, MI.f, sseq_c, sret, sretN, snext, sbreak, scont, sdrop, sif, sasg, spar2, spar3, ssub, saug, saugS, toS_ok, toS_err, toS_bad, bnd, mret, mnil, mcons, mtup, mcallB, mcall, mval, mnew, mnewD, mlist, mlistOf, mlistZip, mmeth, msl, mpart, mif_c, vnot, vand_c, vor_c, tnot, tand_c, tor_c, tru, t2, e2, DL.e1, chain_c, chainT_c, bind_ok, bind_err, bind_bad, ofO_some, ofO_none, mslot, mstar, mrev, mjoin, swh, List.getElem?_cons_zero, List.getElem?_cons_succ, List.set_cons_zero, List.set_cons_succ, Option.map_some, Option.map_none, if_true, if_false, Bool.false_eq_true, put_nm, put_tp, puts_nil, puts_cons, List.length_cons, List.length_nil, List.map_cons, List.map_nil, List.cons_append, List.nil_append, List.replicate_succ, List.replicate_zero, ite_true, ite_false, bind_ite, toS_ite, seq_nx, seq_rt, seq_bk, seq_ct, seq_err, seq_bad, seq_ite, toR_nx, toR_rt, toR_err, toR_bad, toR_ite, condO_some, condO_none, truD_bl, truD_int, truD_non, boolO_bl, bin_add_int, bin_sub_int, cmp_le_int, cmp_lt_int, cmp_ge_int, cmp_gt_int, cmp_eq_int, cmp_ne_int, cmp_ne_bl, Res.wp_ok, Res.wp_err, Res.wp_bad, Res.wp_bind, Res.wp_ite, SRes.wp_toS, SRes.wp_nx, SRes.wp_rt, SRes.wp_bk, SRes.wp_ct, SRes.wp_err, SRes.wp_bad, SRes.wp_seq, SRes.wp_ite, Res.wp_condO, Res.wp_toR, Nat.reduceAdd, Nat.reduceSub, Nat.reduceLT, Nat.reduceEqDiff, reduceIte, Nat.zero_add, and_self, true_and, and_true, Int.reduceLT, Int.reduceNeg, List.getElem?_set_self hl, fInt_int, bin_div_int _ _ 9 (by decide), bin_mod_int _ _ 9 (by decide)]
    rw [e, List.range_succ, List.map_append, List.map_append, hk]
    rfl
  · subst eh
    have e : acc = allB.map D.bl := e
    subst e
    simp only [semSs, semS, semB, semE, semT, semL, semA, semO, semQ, semN, semK, semI, BI.f, MI.f, sseq_c, sret, sretN, snext, sbreak, scont, sdrop, sif, sasg, spar2, spar3, ssub, saug, saugS, toS_ok, toS_err, toS_bad, bnd, mret, mnil, mcons, mtup, mcallB, mcall, mval, mnew, mnewD, mlist, mlistOf, mlistZip, mmeth, msl, mpart, mif_c, vnot, vand_c, vor_c, tnot, tand_c, tor_c, tru, t2, e2, DL.e1, chain_c, chainT_c, bind_ok, bind_err, bind_bad, ofO_some, ofO_none, mslot, mstar, mrev, mjoin, swh, List.getElem?_cons_zero, List.getElem?_cons_succ, List.set_cons_zero, List.set_cons_succ, Option.map_some, Option.map_none, if_true, if_false, Bool.false_eq_true, put_nm, put_tp, puts_nil, puts_cons, List.length_cons, List.length_nil, List.map_cons, List.map_nil, List.cons_append, List.nil_append, List.replicate_succ, List.replicate_zero, ite_true, ite_false, bind_ite, toS_ite, seq_nx, seq_rt, seq_bk, seq_ct, seq_err, seq_bad, seq_ite, toR_nx, toR_rt, toR_err, toR_bad, toR_ite, condO_some, condO_none, truD_bl, truD_int, truD_non, boolO_bl, bin_add_int, bin_sub_int, cmp_le_int, cmp_lt_int, cmp_ge_int, cmp_gt_int, cmp_eq_int, cmp_ne_int, cmp_ne_bl, Res.wp_ok, Res.wp_err, Res.wp_bad, Res.wp_bind, Res.wp_ite, SRes.wp_toS, SRes.wp_nx, SRes.wp_rt, SRes.wp_bk, SRes.wp_ct, SRes.wp_err, SRes.wp_bad, SRes.wp_seq, SRes.wp_ite, Res.wp_condO, Res.wp_toR, Nat.reduceAdd, Nat.reduceSub, Nat.reduceLT, Nat.reduceEqDiff, reduceIte, Nat.zero_add, and_self, true_and, and_true, Int.reduceLT, Int.reduceNeg, ne_bools]
    exact q
theorem body (t : K00T T) (p : S00 b s h) (q : ∀ s' h', S00 b s' h' → Kn.nx s' h') : (semSs T c_law_1_b s h).wp Kn := by
  unfold c_law_1_b
  simp only [semSs]
  refine wp_seq (st0 t p fun v w h1 B1 v1 w1 => ?_)
  have p1 : S00 b ((s.set 3 (some v)).set 4 (some w)) h1 := (p.set (by decide) B1).set (by decide) B1
  have r3 : ((s.set 3 (some v)).set 4 (some w))[3]? = some (some v) := ne_at (p.at (by decide)) (by decide)
  have r4 : ((s.set 3 (some v)).set 4 (some w))[4]? = some (some w) := (p.set (i := 3) (by decide) B1).at (by decide)
  generalize (s.set 3 (some v)).set 4 (some w) = s1 at p1 r3 r4 ⊢
  refine wp_seq (st1 t r3 r4 ?_)
  have a5 := p1.set (i := 5) (o := some (err2 "BadText" "line" "column" v w)) (by decide) B1
  have a6 := a5.set (i := 6) (o := some (err2 "BadGrove" "spot" "fault" v w)) (by decide) B1
  have a7 := a6.set (i := 7) (o := some (err2 "BadPaper" "spot" "fault" v w)) (by decide) B1
  have a8 := a7.set (i := 8) (o := some (err2 "BadBytes" "index" "fault" v w)) (by decide) B1
  have r3 := ne_at (o := some (err2 "BadBytes" "index" "fault" v w)) (i := 8) (ne_at (o := some (err2 "BadPaper" "spot" "fault" v w)) (i := 7) (ne_at (o := some (err2 "BadGrove" "spot" "fault" v w)) (i := 6) (ne_at (o := some (err2 "BadText" "line" "column" v w)) (i := 5) r3 (by decide)) (by decide)) (by decide)) (by decide)
  have r4 := ne_at (o := some (err2 "BadBytes" "index" "fault" v w)) (i := 8) (ne_at (o := some (err2 "BadPaper" "spot" "fault" v w)) (i := 7) (ne_at (o := some (err2 "BadGrove" "spot" "fault" v w)) (i := 6) (ne_at (o := some (err2 "BadText" "line" "column" v w)) (i := 5) r4 (by decide)) (by decide)) (by decide)) (by decide)
  have r5 := ne_at (o := some (err2 "BadBytes" "index" "fault" v w)) (i := 8) (ne_at (o := some (err2 "BadPaper" "spot" "fault" v w)) (i := 7) (ne_at (o := some (err2 "BadGrove" "spot" "fault" v w)) (i := 6) (p1.at (o := some (err2 "BadText" "line" "column" v w)) (i := 5) (by decide)) (by decide)) (by decide)) (by decide)
  have r6 := ne_at (o := some (err2 "BadBytes" "index" "fault" v w)) (i := 8) (ne_at (o := some (err2 "BadPaper" "spot" "fault" v w)) (i := 7) (a5.at (o := some (err2 "BadGrove" "spot" "fault" v w)) (i := 6) (by decide)) (by decide)) (by decide)
  have r7 := ne_at (o := some (err2 "BadBytes" "index" "fault" v w)) (i := 8) (a6.at (o := some (err2 "BadPaper" "spot" "fault" v w)) (i := 7) (by decide)) (by decide)
  have r8 := a7.at (o := some (err2 "BadBytes" "index" "fault" v w)) (i := 8) (by decide)
  generalize (((s1.set 5 (some (err2 "BadText" "line" "column" v w))).set 6 (some (err2 "BadGrove" "spot" "fault" v w))).set 7 (some (err2 "BadPaper" "spot" "fault" v w))).set 8 (some (err2 "BadBytes" "index" "fault" v w)) = s2 at a8 r3 r4 r5 r6 r7 r8 ⊢
  refine wp_seq (st2 t r3 r4 ?_)
  have c9 := a8.set (i := 9) (o := some (err1 "NoName" "name" v)) (by decide) B1
  have c10 := c9.set (i := 10) (o := some (err1 "NoCommand" "line" w)) (by decide) B1
  have c11 := c10.set (i := 11) (o := some (err1 "Refused" "why" v)) (by decide) B1
  have c12 := c11.set (i := 12) (o := some (.exc "Nothing" [] [])) (by decide) B1
  have c13 := c12.set (i := 13) (o := some (err2 "TooMany" "what" "limit" v w)) (by decide) B1
  have up : ∀ {j : Nat} {x : Option (Option D)}, s2[j]? = x → j < 9 → (((((s2.set 9 (some (err1 "NoName" "name" v))).set 10 (some (err1 "NoCommand" "line" w))).set 11 (some (err1 "Refused" "why" v))).set 12 (some (.exc "Nothing" [] []))).set 13 (some (err2 "TooMany" "what" "limit" v w)))[j]? = x := fun e hj =>
    ne_at (ne_at (ne_at (ne_at (ne_at e (by omega)) (by omega)) (by omega)) (by omega)) (by omega)
  have r3 := up r3 (by decide)
  have r4 := up r4 (by decide)
  have r5 := up r5 (by decide)
  have r6 := up r6 (by decide)
  have r7 := up r7 (by decide)
  have r8 := up r8 (by decide)
  have r9 := ne_at (i := 13) (o := some (err2 "TooMany" "what" "limit" v w)) (ne_at (i := 12) (o := some (.exc "Nothing" [] [])) (ne_at (i := 11) (o := some (err1 "Refused" "why" v)) (ne_at (i := 10) (o := some (err1 "NoCommand" "line" w)) (a8.at (i := 9) (o := some (err1 "NoName" "name" v)) (by decide)) (by decide)) (by decide)) (by decide)) (by decide)
  have r10 := ne_at (i := 13) (o := some (err2 "TooMany" "what" "limit" v w)) (ne_at (i := 12) (o := some (.exc "Nothing" [] [])) (ne_at (i := 11) (o := some (err1 "Refused" "why" v)) (c9.at (i := 10) (o := some (err1 "NoCommand" "line" w)) (by decide)) (by decide)) (by decide)) (by decide)
  have r11 := ne_at (i := 13) (o := some (err2 "TooMany" "what" "limit" v w)) (ne_at (i := 12) (o := some (.exc "Nothing" [] [])) (c10.at (i := 11) (o := some (err1 "Refused" "why" v)) (by decide)) (by decide)) (by decide)
  have r12 := ne_at (i := 13) (o := some (err2 "TooMany" "what" "limit" v w)) (c11.at (i := 12) (o := some (.exc "Nothing" [] [])) (by decide)) (by decide)
  have r13 := c12.at (i := 13) (o := some (err2 "TooMany" "what" "limit" v w)) (by decide)
  generalize ((((s2.set 9 (some (err1 "NoName" "name" v))).set 10 (some (err1 "NoCommand" "line" w))).set 11 (some (err1 "Refused" "why" v))).set 12 (some (.exc "Nothing" [] []))).set 13 (some (err2 "TooMany" "what" "limit" v w)) = s3 at c13 r3 r4 r5 r6 r7 r8 r9 r10 r11 r12 r13 ⊢
  refine wp_seq (st3 t r5 r6 r7 r8 ?_)
  have d1 := c13.set (i := 14) (o := some (.lst [v, w, v, w, v, w, v, w])) (by decide) B1
  refine wp_seq (st4 t (ne_at r13 (by decide)) (c13.at (by decide)) ?_)
  have d2 := d1.set (i := 14) (o := some (.lst [v, w, v, w, v, w, v, w, v, w])) (by decide) B1
  have r14 := d1.at (i := 14) (o := some (.lst [v, w, v, w, v, w, v, w, v, w])) (by decide)
  have up : ∀ {j : Nat} {x : Option (Option D)}, s3[j]? = x → j ≠ 14 → ((s3.set 14 (some (D.lst [v, w, v, w, v, w, v, w]))).set 14 (some (.lst [v, w, v, w, v, w, v, w, v, w])))[j]? = x := fun e hj => ne_at (ne_at e (Ne.symm hj)) (Ne.symm hj)
  have r3 := up r3 (by decide)
  have r4 := up r4 (by decide)
  have r5 := up r5 (by decide)
  have r6 := up r6 (by decide)
  have r7 := up r7 (by decide)
  have r8 := up r8 (by decide)
  have r9 := up r9 (by decide)
  have r10 := up r10 (by decide)
  have r11 := up r11 (by decide)
  have r12 := up r12 (by decide)
  have r13 := up r13 (by decide)
  generalize (s3.set 14 (some (D.lst [v, w, v, w, v, w, v, w]))).set 14 (some (.lst [v, w, v, w, v, w, v, w, v, w])) = s4 at d2 r3 r4 r5 r6 r7 r8 r9 r10 r11 r12 r13 r14 ⊢
  refine wp_seq (st5 t v1 w1 r3 r4 r9 r10 r11 r14 fun g => ?_)
  have d2 : S00 b s4 (h1 ++ g) := ⟨d2.len, d2.bag, B1.grow⟩
  refine wp_seq (st6 r5 r6 r7 r8 r9 r10 r11 r12 r13 ?_)
  have d3 := d2.set (i := 15) (o := some (.lst (errs v w))) (by decide) d2.at_
  refine wp_seq (st7 t d3 (d2.at (by decide)) fun s6 p6 k15 => ?_)
  refine wp_seq (st8 t p6 k15 ?_)
  have p7 := p6.set (i := 17) (o := some (.lst ((colB "BadText" ++ colB "BadGrove").map D.bl))) (by decide) p6.at_
  have k15 := ne_at (i := 17) (o := some (.lst ((colB "BadText" ++ colB "BadGrove").map D.bl))) k15 (by decide)
  have k17 := p6.at (i := 17) (o := some (.lst ((colB "BadText" ++ colB "BadGrove").map D.bl))) (by decide)
  refine wp_seq (st9 t p7 k15 (by simp [colB_len]) k17 ?_)
  generalize s6.set 17 (some (D.lst ((colB "BadText" ++ colB "BadGrove").map D.bl))) = s7 at p7 k15 ⊢
  have nx : ∀ (l : List Bool) {s : SS}, S00 b s (h1 ++ g) → s[15]? = some (some (.lst (errs v w))) → S00 b (s.set 17 (some (.lst (l.map D.bl)))) (h1 ++ g) ∧ (s.set 17 (some (.lst (l.map D.bl))))[15]? = some (some (.lst (errs v w))) ∧ (s.set 17 (some (.lst (l.map D.bl))))[17]? = some (some (.lst (l.map D.bl))) := fun l s p k =>
    ⟨p.set (by decide) p.at_, ne_at k (by decide), p.at (by decide)⟩
  obtain ⟨p8, k15, k17⟩ := nx (colB "BadText" ++ colB "BadGrove" ++ colB "BadPaper" ++ colB "BadBytes") p7 k15
  refine wp_seq (st10 t p8 k15 (by simp [colB_len]) k17 ?_)
  obtain ⟨p9, k15, k17⟩ := nx (colB "BadText" ++ colB "BadGrove" ++ colB "BadPaper" ++ colB "BadBytes" ++ colB "NoName" ++ colB "NoCommand") p8 k15
  refine wp_seq (st11 t p9 k15 (by simp [colB_len]) k17 ?_)
  obtain ⟨p10, k15, k17⟩ := nx (colB "BadText" ++ colB "BadGrove" ++ colB "BadPaper" ++ colB "BadBytes" ++ colB "NoName" ++ colB "NoCommand" ++ colB "Refused" ++ colB "Nothing") p9 k15
  refine wp_seq (st12 t p10 k15 (by simp [colB_len]) k17 ?_)
  obtain ⟨p11, k15, k17⟩ := nx (colB "BadText" ++ colB "BadGrove" ++ colB "BadPaper" ++ colB "BadBytes" ++ colB "NoName" ++ colB "NoCommand" ++ colB "Refused" ++ colB "Nothing" ++ colB "TooMany") p10 k15
  rw [all_is] at p11 k17 ⊢
  refine wp_seq (st13 p11 k17 ?_)
  simp only [semSs, semS, semB, semE, semT, semL, semA, semO, semQ, semN, semK, semI, BI.f, MI.f, sseq_c, sret, sretN, snext, sbreak, scont, sdrop, sif, sasg, spar2, spar3, ssub, saug, saugS, toS_ok, toS_err, toS_bad, bnd, mret, mnil, mcons, mtup, mcallB, mcall, mval, mnew, mnewD, mlist, mlistOf, mlistZip, mmeth, msl, mpart, mif_c, vnot, vand_c, vor_c, tnot, tand_c, tor_c, tru, t2, e2, DL.e1, chain_c, chainT_c, bind_ok, bind_err, bind_bad, ofO_some, ofO_none, mslot, mstar, mrev, mjoin, swh, List.getElem?_cons_zero, List.getElem?_cons_succ, List.set_cons_zero, List.set_cons_succ, Option.map_some, Option.map_none, if_true, if_false, Bool.false_eq_true, put_nm, put_tp, puts_nil, puts_cons, List.length_cons, List.length_nil, List.map_cons, List.map_nil, List.cons_append, List.nil_append, List.replicate_succ, List.replicate_zero, ite_true, ite_false, bind_ite, toS_ite, seq_nx, seq_rt, seq_bk, seq_ct, seq_err, seq_bad, seq_ite, toR_nx, toR_rt, toR_err, toR_bad, toR_ite, condO_some, condO_none, truD_bl, truD_int, truD_non, boolO_bl, bin_add_int, bin_sub_int, cmp_le_int, cmp_lt_int, cmp_ge_int, cmp_gt_int, cmp_eq_int, cmp_ne_int, cmp_ne_bl, Res.wp_ok, Res.wp_err, Res.wp_bad, Res.wp_bind, Res.wp_ite, SRes.wp_toS, SRes.wp_nx, SRes.wp_rt, SRes.wp_bk, SRes.wp_ct, SRes.wp_err, SRes.wp_bad, SRes.wp_seq, SRes.wp_ite, Res.wp_condO, Res.wp_toR, Nat.reduceAdd, Nat.reduceSub, Nat.reduceLT, Nat.reduceEqDiff, reduceIte, Nat.zero_add, and_self, true_and, and_true, Int.reduceLT, Int.reduceNeg]
  exact q _ _ p11
theorem law_ok (t : K00T T) {ns : List Int} (hb : ∃ T', T.fn "_law_bag" = some ⟨"_law_bag", 1, run T' 2 c__law_bag⟩) (hn : ns.length ≤ 63) : ∃ h', run T 19 c_law [.fls (ns.map .int)] h = .ok (.bl true) h' := by
  obtain ⟨T', hb⟩ := hb
  obtain ⟨cs, hc, e⟩ := run_bag (T := T') (h := h) hn
  have w : (run T 19 c_law [.fls (ns.map .int)] h).wp fun d h' => d = .bl true := by
    unfold run c_law DL.start
    rw [Res.wp_toR]
    simp only [semSs]
    refine wp_seq ?_
    unfold c_law_0
    simp only [semSs, semS, semB, semE, semT, semL, semA, semO, semQ, semN, semK, semI, BI.f, MI.f, sseq_c, sret, sretN, snext, sbreak, scont, sdrop, sif, sasg, spar2, spar3, ssub, saug, saugS, toS_ok, toS_err, toS_bad, bnd, mret, mnil, mcons, mtup, mcallB, mcall, mval, mnew, mnewD, mlist, mlistOf, mlistZip, mmeth, msl, mpart, mif_c, vnot, vand_c, vor_c, tnot, tand_c, tor_c, tru, t2, e2, DL.e1, chain_c, chainT_c, bind_ok, bind_err, bind_bad, ofO_some, ofO_none, mslot, mstar, mrev, mjoin, swh, List.getElem?_cons_zero, List.getElem?_cons_succ, List.set_cons_zero, List.set_cons_succ, Option.map_some, Option.map_none, if_true, if_false, Bool.false_eq_true, put_nm, put_tp, puts_nil, puts_cons, List.length_cons, List.length_nil, List.map_cons, List.map_nil, List.cons_append, List.nil_append, List.replicate_succ, List.replicate_zero, ite_true, ite_false, bind_ite, toS_ite, seq_nx, seq_rt, seq_bk, seq_ct, seq_err, seq_bad, seq_ite, toR_nx, toR_rt, toR_err, toR_bad, toR_ite, condO_some, condO_none, truD_bl, truD_int, truD_non, boolO_bl, bin_add_int, bin_sub_int, cmp_le_int, cmp_lt_int, cmp_ge_int, cmp_gt_int, cmp_eq_int, cmp_ne_int, cmp_ne_bl, Res.wp_ok, Res.wp_err, Res.wp_bad, Res.wp_bind, Res.wp_ite, SRes.wp_toS, SRes.wp_nx, SRes.wp_rt, SRes.wp_bk, SRes.wp_ct, SRes.wp_err, SRes.wp_bad, SRes.wp_seq, SRes.wp_ite, Res.wp_condO, Res.wp_toR, Nat.reduceAdd, Nat.reduceSub, Nat.reduceLT, Nat.reduceEqDiff, reduceIte, Nat.zero_add, and_self, true_and, and_true, Int.reduceLT, Int.reduceNeg, hb, e]
    have B : BagAt h.length (h ++ [bagO 0 1234567891 0 cs]) := ⟨0, 1234567891, 0, cs, by simp, hc⟩
    unfold c_law_1
    simp only [semSs, semS, semB, semE, semT, semL, semA, semO, semQ, semN, semK, semI, BI.f, MI.f, sseq_c, sret, sretN, snext, sbreak, scont, sdrop, sif, sasg, spar2, spar3, ssub, saug, saugS, toS_ok, toS_err, toS_bad, bnd, mret, mnil, mcons, mtup, mcallB, mcall, mval, mnew, mnewD, mlist, mlistOf, mlistZip, mmeth, msl, mpart, mif_c, vnot, vand_c, vor_c, tnot, tand_c, tor_c, tru, t2, e2, DL.e1, chain_c, chainT_c, bind_ok, bind_err, bind_bad, ofO_some, ofO_none, mslot, mstar, mrev, mjoin, swh, List.getElem?_cons_zero, List.getElem?_cons_succ, List.set_cons_zero, List.set_cons_succ, Option.map_some, Option.map_none, if_true, if_false, Bool.false_eq_true, put_nm, put_tp, puts_nil, puts_cons, List.length_cons, List.length_nil, List.map_cons, List.map_nil, List.cons_append, List.nil_append, List.replicate_succ, List.replicate_zero, ite_true, ite_false, bind_ite, toS_ite, seq_nx, seq_rt, seq_bk, seq_ct, seq_err, seq_bad, seq_ite, toR_nx, toR_rt, toR_err, toR_bad, toR_ite, condO_some, condO_none, truD_bl, truD_int, truD_non, boolO_bl, bin_add_int, bin_sub_int, cmp_le_int, cmp_lt_int, cmp_ge_int, cmp_gt_int, cmp_eq_int, cmp_ne_int, cmp_ne_bl, Res.wp_ok, Res.wp_err, Res.wp_bad, Res.wp_bind, Res.wp_ite, SRes.wp_toS, SRes.wp_nx, SRes.wp_rt, SRes.wp_bk, SRes.wp_ct, SRes.wp_err, SRes.wp_bad, SRes.wp_seq, SRes.wp_ite, Res.wp_condO, Res.wp_toR, Nat.reduceAdd, Nat.reduceSub, Nat.reduceLT, Nat.reduceEqDiff, reduceIte, Nat.zero_add, and_self, true_and, and_true, Int.reduceLT, Int.reduceNeg, sfor, mrange1_c, rangeR_int (h ++ [bagO 0 1234567891 0 cs]) 4 (by decide) (by decide)]
    refine wp_forR (fun i s' h' => S00 h.length s' h') (fun i s' h' p _ => ⟨_, put_nm _ _ _, ?_⟩) (fun s' h' _ => ?_) ⟨rfl, rfl, B⟩
    · exact body t (p.set (by decide) p.at_) fun s2 h2 p2 => p2
    · unfold c_law_2
      simp only [semSs, semS, semB, semE, semT, semL, semA, semO, semQ, semN, semK, semI, BI.f, MI.f, sseq_c, sret, sretN, snext, sbreak, scont, sdrop, sif, sasg, spar2, spar3, ssub, saug, saugS, toS_ok, toS_err, toS_bad, bnd, mret, mnil, mcons, mtup, mcallB, mcall, mval, mnew, mnewD, mlist, mlistOf, mlistZip, mmeth, msl, mpart, mif_c, vnot, vand_c, vor_c, tnot, tand_c, tor_c, tru, t2, e2, DL.e1, chain_c, chainT_c, bind_ok, bind_err, bind_bad, ofO_some, ofO_none, mslot, mstar, mrev, mjoin, swh, List.getElem?_cons_zero, List.getElem?_cons_succ, List.set_cons_zero, List.set_cons_succ, Option.map_some, Option.map_none, if_true, if_false, Bool.false_eq_true, put_nm, put_tp, puts_nil, puts_cons, List.length_cons, List.length_nil, List.map_cons, List.map_nil, List.cons_append, List.nil_append, List.replicate_succ, List.replicate_zero, ite_true, ite_false, bind_ite, toS_ite, seq_nx, seq_rt, seq_bk, seq_ct, seq_err, seq_bad, seq_ite, toR_nx, toR_rt, toR_err, toR_bad, toR_ite, condO_some, condO_none, truD_bl, truD_int, truD_non, boolO_bl, bin_add_int, bin_sub_int, cmp_le_int, cmp_lt_int, cmp_ge_int, cmp_gt_int, cmp_eq_int, cmp_ne_int, cmp_ne_bl, Res.wp_ok, Res.wp_err, Res.wp_bad, Res.wp_bind, Res.wp_ite, SRes.wp_toS, SRes.wp_nx, SRes.wp_rt, SRes.wp_bk, SRes.wp_ct, SRes.wp_err, SRes.wp_bad, SRes.wp_seq, SRes.wp_ite, Res.wp_condO, Res.wp_toR, Nat.reduceAdd, Nat.reduceSub, Nat.reduceLT, Nat.reduceEqDiff, reduceIte, Nat.zero_add, and_self, true_and, and_true, Int.reduceLT, Int.reduceNeg]
  obtain ⟨a, h', e1, e2⟩ := Res.wp_is w
  exact ⟨h', by rw [e1, e2]⟩
end
end DL.K00
end

section
set_option maxHeartbeats 4000000
/-! law k00: the tables -/
namespace DL.K00
open PySem PySem.Spec PyProof.Rows L2
def top (i : Nat) : Stmt := PySem.Challenge.pw_grovetallies_k00_errors_of_the_package.main.body.getD i (.Pass ⟨0, 0, 0, 0⟩)
abbrev st__law_take : Stmt := top 13
def N__law_take : List Str := ["bag", "many", "cell", "stirred", "value", "begin", "second"]
abbrev st__law_some : Stmt := top 14
def N__law_some : List Str := ["bag", "things"]
abbrev st__law_bag : Stmt := top 15
def N__law_bag : List Str := ["script", "cell"]
abbrev st__law_alike : Stmt := top 16
def N__law_alike : List Str := ["found", "due", "pairs", "at", "one", "other"]
abbrev st__law_value : Stmt := top 17
abbrev st_law : Stmt := top 18
def bl00 : List Str := ["isinstance", "int", "bool", "str", "tuple", "list", "len", "abs", "range", "zip"]
def U_0 : Tab := { fns := [], cs := [], bl := bl00, xs := xs00, x0 := ["Nothing"], isx := isx00 }
noncomputable def u__law_take : Ent := ⟨"_law_take", 2, run U_0 7 c__law_take⟩
noncomputable def U_1 : Tab := { U_0 with fns := U_0.fns ++ [u__law_take] }
noncomputable def u__law_some : Ent := ⟨"_law_some", 2, run U_1 2 c__law_some⟩
noncomputable def U_2 : Tab := { U_1 with fns := U_1.fns ++ [u__law_some] }
noncomputable def u__law_bag : Ent := ⟨"_law_bag", 1, run U_2 2 c__law_bag⟩
noncomputable def U_3 : Tab := { U_2 with fns := U_2.fns ++ [u__law_bag] }
noncomputable def u__law_alike : Ent := ⟨"_law_alike", 2, run U_3 6 c__law_alike⟩
noncomputable def U_4 : Tab := { U_3 with fns := U_3.fns ++ [u__law_alike] }
noncomputable def u__law_value : Ent := ⟨"_law_value", 1, run U_4 1 c__law_value⟩
noncomputable def U_5 : Tab := { U_4 with fns := U_4.fns ++ [u__law_value] }
theorem ir__law_take : isSs N__law_take U_0 (defScope st__law_take) c__law_take (defBody st__law_take) = true := by decide +kernel
theorem sc__law_take : FnScope N__law_take ["bag", "many"] (defScope st__law_take) := ⟨rfl, rfl, rfl, by decide +kernel, rfl, by decide +kernel, by decide +kernel⟩
theorem ir__law_some : isSs N__law_some U_1 (defScope st__law_some) c__law_some (defBody st__law_some) = true := by decide +kernel
theorem sc__law_some : FnScope N__law_some ["bag", "things"] (defScope st__law_some) := ⟨rfl, rfl, rfl, by decide +kernel, rfl, by decide +kernel, by decide +kernel⟩
theorem ir__law_bag : isSs N__law_bag U_2 (defScope st__law_bag) c__law_bag (defBody st__law_bag) = true := by decide +kernel
theorem sc__law_bag : FnScope N__law_bag ["script"] (defScope st__law_bag) := ⟨rfl, rfl, rfl, by decide +kernel, rfl, by decide +kernel, by decide +kernel⟩
theorem ir__law_alike : isSs N__law_alike U_3 (defScope st__law_alike) c__law_alike (defBody st__law_alike) = true := by decide +kernel
theorem sc__law_alike : FnScope N__law_alike ["found", "due"] (defScope st__law_alike) := ⟨rfl, rfl, rfl, by decide +kernel, rfl, by decide +kernel, by decide +kernel⟩
theorem ir__law_value : isSs N__law_value U_4 (defScope st__law_value) c__law_value (defBody st__law_value) = true := by decide +kernel
theorem sc__law_value : FnScope N__law_value ["bag"] (defScope st__law_value) := ⟨rfl, rfl, rfl, by decide +kernel, rfl, by decide +kernel, by decide +kernel⟩
theorem ir_law : isSs N_law U_5 (defScope st_law) c_law (defBody st_law) = true := by decide +kernel
theorem sc_law : FnScope N_law ["script"] (defScope st_law) := ⟨rfl, rfl, rfl, by decide +kernel, rfl, by decide +kernel, by decide +kernel⟩
theorem ini_BadText : Ini2 (methOf (top 3)) "line" "column" := ⟨⟨_, _, _, _, _, _, _, _, _, _, _, _, _, _, _, rfl, rfl⟩, ⟨rfl, rfl, rfl, by decide +kernel, by decide +kernel, by decide +kernel, by decide +kernel⟩, rfl, rfl, ⟨_, rfl, rfl⟩, rfl, rfl⟩
theorem ini_BadGrove : Ini2 (methOf (top 4)) "spot" "fault" := ⟨⟨_, _, _, _, _, _, _, _, _, _, _, _, _, _, _, rfl, rfl⟩, ⟨rfl, rfl, rfl, by decide +kernel, by decide +kernel, by decide +kernel, by decide +kernel⟩, rfl, rfl, ⟨_, rfl, rfl⟩, rfl, rfl⟩
theorem ini_BadPaper : Ini2 (methOf (top 5)) "spot" "fault" := ⟨⟨_, _, _, _, _, _, _, _, _, _, _, _, _, _, _, rfl, rfl⟩, ⟨rfl, rfl, rfl, by decide +kernel, by decide +kernel, by decide +kernel, by decide +kernel⟩, rfl, rfl, ⟨_, rfl, rfl⟩, rfl, rfl⟩
theorem ini_BadBytes : Ini2 (methOf (top 6)) "index" "fault" := ⟨⟨_, _, _, _, _, _, _, _, _, _, _, _, _, _, _, rfl, rfl⟩, ⟨rfl, rfl, rfl, by decide +kernel, by decide +kernel, by decide +kernel, by decide +kernel⟩, rfl, rfl, ⟨_, rfl, rfl⟩, rfl, rfl⟩
theorem ini_NoName : Ini1 (methOf (top 7)) "name" := ⟨⟨_, _, _, _, _, _, _, _, _, _, rfl, rfl⟩, ⟨rfl, rfl, rfl, by decide +kernel, by decide +kernel, by decide +kernel, by decide +kernel⟩, rfl, rfl, ⟨_, rfl, rfl⟩, rfl⟩
theorem ini_NoCommand : Ini1 (methOf (top 8)) "line" := ⟨⟨_, _, _, _, _, _, _, _, _, _, rfl, rfl⟩, ⟨rfl, rfl, rfl, by decide +kernel, by decide +kernel, by decide +kernel, by decide +kernel⟩, rfl, rfl, ⟨_, rfl, rfl⟩, rfl⟩
theorem ini_Refused : Ini1 (methOf (top 9)) "why" := ⟨⟨_, _, _, _, _, _, _, _, _, _, rfl, rfl⟩, ⟨rfl, rfl, rfl, by decide +kernel, by decide +kernel, by decide +kernel, by decide +kernel⟩, rfl, rfl, ⟨_, rfl, rfl⟩, rfl⟩
theorem ini_TooMany : Ini2 (methOf (top 11)) "what" "limit" := ⟨⟨_, _, _, _, _, _, _, _, _, _, _, _, _, _, _, rfl, rfl⟩, ⟨rfl, rfl, rfl, by decide +kernel, by decide +kernel, by decide +kernel, by decide +kernel⟩, rfl, rfl, ⟨_, rfl, rfl⟩, rfl, rfl⟩
end DL.K00
end

section
set_option maxHeartbeats 4000000
/-! law k00: what the top has left -/
namespace DL.K00
open PySem PySem.Spec PyProof.Rows L2
structure All (K : Fg) (file : Str) (C_BadText f_BadText c_BadText e_BadText C_BadGrove f_BadGrove c_BadGrove e_BadGrove C_BadPaper f_BadPaper c_BadPaper e_BadPaper C_BadBytes f_BadBytes c_BadBytes e_BadBytes C_NoName f_NoName c_NoName e_NoName C_NoCommand f_NoCommand c_NoCommand e_NoCommand C_Refused f_Refused c_Refused e_Refused C_TooMany f_TooMany c_TooMany e_TooMany C_Nothing G : Addr) : Prop where
  d0 : DefAt K "_law_take" st__law_take
  d1 : DefAt K "_law_some" st__law_some
  d2 : DefAt K "_law_bag" st__law_bag
  d3 : DefAt K "_law_alike" st__law_alike
  d4 : DefAt K "_law_value" st__law_value
  d5 : DefAt K "law" st_law
  z : ∀ x : Str, x ∈ bl00 → PySem.W.nsIn K mainGlobals x = some none
  x_BadText : XAt K file "BadText" "BadText.__init__" (methOf (top 3)) ["line", "column"] C_BadText f_BadText c_BadText e_BadText
  x_BadGrove : XAt K file "BadGrove" "BadGrove.__init__" (methOf (top 4)) ["spot", "fault"] C_BadGrove f_BadGrove c_BadGrove e_BadGrove
  x_BadPaper : XAt K file "BadPaper" "BadPaper.__init__" (methOf (top 5)) ["spot", "fault"] C_BadPaper f_BadPaper c_BadPaper e_BadPaper
  x_BadBytes : XAt K file "BadBytes" "BadBytes.__init__" (methOf (top 6)) ["index", "fault"] C_BadBytes f_BadBytes c_BadBytes e_BadBytes
  x_NoName : XAt K file "NoName" "NoName.__init__" (methOf (top 7)) ["name"] C_NoName f_NoName c_NoName e_NoName
  x_NoCommand : XAt K file "NoCommand" "NoCommand.__init__" (methOf (top 8)) ["line"] C_NoCommand f_NoCommand c_NoCommand e_NoCommand
  x_Refused : XAt K file "Refused" "Refused.__init__" (methOf (top 9)) ["why"] C_Refused f_Refused c_Refused e_Refused
  x_TooMany : XAt K file "TooMany" "TooMany.__init__" (methOf (top 11)) ["what", "limit"] C_TooMany f_TooMany c_TooMany e_TooMany
  n1 : PySem.W.excIn K C_Nothing [.type "ValueError", .type "Exception", .type "BaseException", .type "object"] "ValueError.__new__" = true
  n2 : PySem.W.nsIn K mainGlobals "Nothing" = some (some (.ref C_Nothing))
  n3 : PySem.W.keepIn K (.ref C_Nothing) = true
  g : PySem.W.nsIn K mainGlobals "GroveError" = some (some (.ref G))
  vE : PySem.W.nsIn K mainGlobals "ValueError" = some none
  i_BadText : IxAt K [("BadText", C_BadText), ("BadGrove", C_BadGrove), ("BadPaper", C_BadPaper), ("BadBytes", C_BadBytes), ("NoName", C_NoName), ("NoCommand", C_NoCommand), ("Refused", C_Refused), ("Nothing", C_Nothing), ("TooMany", C_TooMany)] "BadText" C_BadText G
  i_BadGrove : IxAt K [("BadText", C_BadText), ("BadGrove", C_BadGrove), ("BadPaper", C_BadPaper), ("BadBytes", C_BadBytes), ("NoName", C_NoName), ("NoCommand", C_NoCommand), ("Refused", C_Refused), ("Nothing", C_Nothing), ("TooMany", C_TooMany)] "BadGrove" C_BadGrove G
  i_BadPaper : IxAt K [("BadText", C_BadText), ("BadGrove", C_BadGrove), ("BadPaper", C_BadPaper), ("BadBytes", C_BadBytes), ("NoName", C_NoName), ("NoCommand", C_NoCommand), ("Refused", C_Refused), ("Nothing", C_Nothing), ("TooMany", C_TooMany)] "BadPaper" C_BadPaper G
  i_BadBytes : IxAt K [("BadText", C_BadText), ("BadGrove", C_BadGrove), ("BadPaper", C_BadPaper), ("BadBytes", C_BadBytes), ("NoName", C_NoName), ("NoCommand", C_NoCommand), ("Refused", C_Refused), ("Nothing", C_Nothing), ("TooMany", C_TooMany)] "BadBytes" C_BadBytes G
  i_NoName : IxAt K [("BadText", C_BadText), ("BadGrove", C_BadGrove), ("BadPaper", C_BadPaper), ("BadBytes", C_BadBytes), ("NoName", C_NoName), ("NoCommand", C_NoCommand), ("Refused", C_Refused), ("Nothing", C_Nothing), ("TooMany", C_TooMany)] "NoName" C_NoName G
  i_NoCommand : IxAt K [("BadText", C_BadText), ("BadGrove", C_BadGrove), ("BadPaper", C_BadPaper), ("BadBytes", C_BadBytes), ("NoName", C_NoName), ("NoCommand", C_NoCommand), ("Refused", C_Refused), ("Nothing", C_Nothing), ("TooMany", C_TooMany)] "NoCommand" C_NoCommand G
  i_Refused : IxAt K [("BadText", C_BadText), ("BadGrove", C_BadGrove), ("BadPaper", C_BadPaper), ("BadBytes", C_BadBytes), ("NoName", C_NoName), ("NoCommand", C_NoCommand), ("Refused", C_Refused), ("Nothing", C_Nothing), ("TooMany", C_TooMany)] "Refused" C_Refused G
  i_Nothing : IxAt K [("BadText", C_BadText), ("BadGrove", C_BadGrove), ("BadPaper", C_BadPaper), ("BadBytes", C_BadBytes), ("NoName", C_NoName), ("NoCommand", C_NoCommand), ("Refused", C_Refused), ("Nothing", C_Nothing), ("TooMany", C_TooMany)] "Nothing" C_Nothing G
  i_TooMany : IxAt K [("BadText", C_BadText), ("BadGrove", C_BadGrove), ("BadPaper", C_BadPaper), ("BadBytes", C_BadBytes), ("NoName", C_NoName), ("NoCommand", C_NoCommand), ("Refused", C_Refused), ("Nothing", C_Nothing), ("TooMany", C_TooMany)] "TooMany" C_TooMany G
section
variable [Tbs]
variable {P : Program} {w : World} {K : Fg} {mg : Str → Option Value} {base h : Heap} {C_BadText f_BadText c_BadText e_BadText C_BadGrove f_BadGrove c_BadGrove e_BadGrove C_BadPaper f_BadPaper c_BadPaper e_BadPaper C_BadBytes f_BadBytes c_BadBytes e_BadBytes C_NoName f_NoName c_NoName e_NoName C_NoCommand f_NoCommand c_NoCommand e_NoCommand C_Refused f_Refused c_Refused e_Refused C_TooMany f_TooMany c_TooMany e_TooMany C_Nothing G : Addr}
theorem utab0 (X : K.In h) (G0 : h.Ns mainGlobals mg) (top : (P.main.scope.names.lookup ("super" : Str)).isSome = false) (A : All K P.main.file C_BadText f_BadText c_BadText e_BadText C_BadGrove f_BadGrove c_BadGrove e_BadGrove C_BadPaper f_BadPaper c_BadPaper e_BadPaper C_BadBytes f_BadBytes c_BadBytes e_BadBytes C_NoName f_NoName c_NoName e_NoName C_NoCommand f_NoCommand c_NoCommand e_NoCommand C_Refused f_Refused c_Refused e_Refused C_TooMany f_TooMany c_TooMany e_TooMany C_Nothing G) : TabOk P w K mg base 2 U_0 := by
  refine ⟨fun e he => (by cases he), fun p hp => (by cases hp), fun x hx => PySem.W.mg_none_of X G0 (A.z x hx), fun e he => ?_, fun x hx => ?_, ?_⟩
  · have he : e = ⟨"BadText", ["line", "column"]⟩ ∨ e = ⟨"BadGrove", ["spot", "fault"]⟩ ∨ e = ⟨"BadPaper", ["spot", "fault"]⟩ ∨ e = ⟨"BadBytes", ["index", "fault"]⟩ ∨ e = ⟨"NoName", ["name"]⟩ ∨ e = ⟨"NoCommand", ["line"]⟩ ∨ e = ⟨"Refused", ["why"]⟩ ∨ e = ⟨"TooMany", ["what", "limit"]⟩ := by
      have he : e ∈ xs00 := he
      unfold xs00 at he
      simpa using he
    rcases he with rfl | rfl | rfl | rfl | rfl | rfl | rfl | rfl
    · obtain ⟨fd, ps, F⟩ := A.x_BadText.ok2 (w := w) (base := base) ini_BadText X G0 top
      exact ⟨_, _, fd, ps, 1, F, by decide⟩
    · obtain ⟨fd, ps, F⟩ := A.x_BadGrove.ok2 (w := w) (base := base) ini_BadGrove X G0 top
      exact ⟨_, _, fd, ps, 1, F, by decide⟩
    · obtain ⟨fd, ps, F⟩ := A.x_BadPaper.ok2 (w := w) (base := base) ini_BadPaper X G0 top
      exact ⟨_, _, fd, ps, 1, F, by decide⟩
    · obtain ⟨fd, ps, F⟩ := A.x_BadBytes.ok2 (w := w) (base := base) ini_BadBytes X G0 top
      exact ⟨_, _, fd, ps, 1, F, by decide⟩
    · obtain ⟨fd, ps, F⟩ := A.x_NoName.ok1 (w := w) (base := base) ini_NoName X G0 top
      exact ⟨_, _, fd, ps, 1, F, by decide⟩
    · obtain ⟨fd, ps, F⟩ := A.x_NoCommand.ok1 (w := w) (base := base) ini_NoCommand X G0 top
      exact ⟨_, _, fd, ps, 1, F, by decide⟩
    · obtain ⟨fd, ps, F⟩ := A.x_Refused.ok1 (w := w) (base := base) ini_Refused X G0 top
      exact ⟨_, _, fd, ps, 1, F, by decide⟩
    · obtain ⟨fd, ps, F⟩ := A.x_TooMany.ok2 (w := w) (base := base) ini_TooMany X G0 top
      exact ⟨_, _, fd, ps, 1, F, by decide⟩
  · have hx : x = "Nothing" := by simpa [U_0] using hx
    subst hx
    exact ⟨C_Nothing, A.n1, A.n2, PySem.W.mg_of X G0 A.n2, A.n3⟩
  · have e : U_0.isx = isxTab "GroveError" (([("BadText", C_BadText), ("BadGrove", C_BadGrove), ("BadPaper", C_BadPaper), ("BadBytes", C_BadBytes), ("NoName", C_NoName), ("NoCommand", C_NoCommand), ("Refused", C_Refused), ("Nothing", C_Nothing), ("TooMany", C_TooMany)] : List (Str × Addr)).map (·.1)) := rfl
    rw [e]
    refine ix_ok (PySem.W.mg_of X G0 A.g) (PySem.W.mg_none_of X G0 A.vE) (fun p hp => ?_) (fun p hp => ?_) (fun p hp => ?_)
    · simp only [List.mem_cons, List.not_mem_nil, or_false] at hp
      rcases hp with rfl | rfl | rfl | rfl | rfl | rfl | rfl | rfl | rfl
      · exact PySem.W.mg_of X G0 A.i_BadText.ns
      · exact PySem.W.mg_of X G0 A.i_BadGrove.ns
      · exact PySem.W.mg_of X G0 A.i_BadPaper.ns
      · exact PySem.W.mg_of X G0 A.i_BadBytes.ns
      · exact PySem.W.mg_of X G0 A.i_NoName.ns
      · exact PySem.W.mg_of X G0 A.i_NoCommand.ns
      · exact PySem.W.mg_of X G0 A.i_Refused.ns
      · exact PySem.W.mg_of X G0 A.i_Nothing.ns
      · exact PySem.W.mg_of X G0 A.i_TooMany.ns
    · simp only [List.mem_cons, List.not_mem_nil, or_false] at hp
      rcases hp with rfl | rfl | rfl | rfl | rfl | rfl | rfl | rfl | rfl
      · exact A.i_BadText
      · exact A.i_BadGrove
      · exact A.i_BadPaper
      · exact A.i_BadBytes
      · exact A.i_NoName
      · exact A.i_NoCommand
      · exact A.i_Refused
      · exact A.i_Nothing
      · exact A.i_TooMany
    · simp only [List.mem_cons, List.not_mem_nil, or_false] at hp
      rcases hp with rfl | rfl | rfl | rfl | rfl | rfl | rfl | rfl | rfl
      · exact ⟨fun e => absurd (show ("BadText" : Str) = "GroveError" from e) (by decide +kernel), fun e => absurd (show ("BadText" : Str) = "ValueError" from e) (by decide +kernel)⟩
      · exact ⟨fun e => absurd (show ("BadGrove" : Str) = "GroveError" from e) (by decide +kernel), fun e => absurd (show ("BadGrove" : Str) = "ValueError" from e) (by decide +kernel)⟩
      · exact ⟨fun e => absurd (show ("BadPaper" : Str) = "GroveError" from e) (by decide +kernel), fun e => absurd (show ("BadPaper" : Str) = "ValueError" from e) (by decide +kernel)⟩
      · exact ⟨fun e => absurd (show ("BadBytes" : Str) = "GroveError" from e) (by decide +kernel), fun e => absurd (show ("BadBytes" : Str) = "ValueError" from e) (by decide +kernel)⟩
      · exact ⟨fun e => absurd (show ("NoName" : Str) = "GroveError" from e) (by decide +kernel), fun e => absurd (show ("NoName" : Str) = "ValueError" from e) (by decide +kernel)⟩
      · exact ⟨fun e => absurd (show ("NoCommand" : Str) = "GroveError" from e) (by decide +kernel), fun e => absurd (show ("NoCommand" : Str) = "ValueError" from e) (by decide +kernel)⟩
      · exact ⟨fun e => absurd (show ("Refused" : Str) = "GroveError" from e) (by decide +kernel), fun e => absurd (show ("Refused" : Str) = "ValueError" from e) (by decide +kernel)⟩
      · exact ⟨fun e => absurd (show ("Nothing" : Str) = "GroveError" from e) (by decide +kernel), fun e => absurd (show ("Nothing" : Str) = "ValueError" from e) (by decide +kernel)⟩
      · exact ⟨fun e => absurd (show ("TooMany" : Str) = "GroveError" from e) (by decide +kernel), fun e => absurd (show ("TooMany" : Str) = "ValueError" from e) (by decide +kernel)⟩
theorem utab1 (X : K.In h) (G0 : h.Ns mainGlobals mg) (top : (P.main.scope.names.lookup ("super" : Str)).isSome = false) (A : All K P.main.file C_BadText f_BadText c_BadText e_BadText C_BadGrove f_BadGrove c_BadGrove e_BadGrove C_BadPaper f_BadPaper c_BadPaper e_BadPaper C_BadBytes f_BadBytes c_BadBytes e_BadBytes C_NoName f_NoName c_NoName e_NoName C_NoCommand f_NoCommand c_NoCommand e_NoCommand C_Refused f_Refused c_Refused e_Refused C_TooMany f_TooMany c_TooMany e_TooMany C_Nothing G) : TabOk P w K mg base 3 U_1 := (utab0 X G0 top A).push (ent_ok X G0 A.d0 sc__law_take rfl (fun _ _ _ _ _ _ us hl => match us, hl with | [_, _], _ => rfl) (utab0 X G0 top A) rfl ir__law_take (fun ds h _ => cov_run _ _ _ ds h))
theorem utab2 (X : K.In h) (G0 : h.Ns mainGlobals mg) (top : (P.main.scope.names.lookup ("super" : Str)).isSome = false) (A : All K P.main.file C_BadText f_BadText c_BadText e_BadText C_BadGrove f_BadGrove c_BadGrove e_BadGrove C_BadPaper f_BadPaper c_BadPaper e_BadPaper C_BadBytes f_BadBytes c_BadBytes e_BadBytes C_NoName f_NoName c_NoName e_NoName C_NoCommand f_NoCommand c_NoCommand e_NoCommand C_Refused f_Refused c_Refused e_Refused C_TooMany f_TooMany c_TooMany e_TooMany C_Nothing G) : TabOk P w K mg base 4 U_2 := (utab1 X G0 top A).push (ent_ok X G0 A.d1 sc__law_some rfl (fun _ _ _ _ _ _ us hl => match us, hl with | [_, _], _ => rfl) (utab1 X G0 top A) rfl ir__law_some (fun ds h _ => cov_run _ _ _ ds h))
theorem utab3 (X : K.In h) (G0 : h.Ns mainGlobals mg) (top : (P.main.scope.names.lookup ("super" : Str)).isSome = false) (A : All K P.main.file C_BadText f_BadText c_BadText e_BadText C_BadGrove f_BadGrove c_BadGrove e_BadGrove C_BadPaper f_BadPaper c_BadPaper e_BadPaper C_BadBytes f_BadBytes c_BadBytes e_BadBytes C_NoName f_NoName c_NoName e_NoName C_NoCommand f_NoCommand c_NoCommand e_NoCommand C_Refused f_Refused c_Refused e_Refused C_TooMany f_TooMany c_TooMany e_TooMany C_Nothing G) : TabOk P w K mg base 5 U_3 := (utab2 X G0 top A).push (ent_ok X G0 A.d2 sc__law_bag rfl (fun _ _ _ _ _ _ us hl => match us, hl with | [_], _ => rfl) (utab2 X G0 top A) rfl ir__law_bag (fun ds h _ => cov_run _ _ _ ds h))
theorem utab4 (X : K.In h) (G0 : h.Ns mainGlobals mg) (top : (P.main.scope.names.lookup ("super" : Str)).isSome = false) (A : All K P.main.file C_BadText f_BadText c_BadText e_BadText C_BadGrove f_BadGrove c_BadGrove e_BadGrove C_BadPaper f_BadPaper c_BadPaper e_BadPaper C_BadBytes f_BadBytes c_BadBytes e_BadBytes C_NoName f_NoName c_NoName e_NoName C_NoCommand f_NoCommand c_NoCommand e_NoCommand C_Refused f_Refused c_Refused e_Refused C_TooMany f_TooMany c_TooMany e_TooMany C_Nothing G) : TabOk P w K mg base 6 U_4 := (utab3 X G0 top A).push (ent_ok X G0 A.d3 sc__law_alike rfl (fun _ _ _ _ _ _ us hl => match us, hl with | [_, _], _ => rfl) (utab3 X G0 top A) rfl ir__law_alike (fun ds h _ => cov_run _ _ _ ds h))
theorem utab5 (X : K.In h) (G0 : h.Ns mainGlobals mg) (top : (P.main.scope.names.lookup ("super" : Str)).isSome = false) (A : All K P.main.file C_BadText f_BadText c_BadText e_BadText C_BadGrove f_BadGrove c_BadGrove e_BadGrove C_BadPaper f_BadPaper c_BadPaper e_BadPaper C_BadBytes f_BadBytes c_BadBytes e_BadBytes C_NoName f_NoName c_NoName e_NoName C_NoCommand f_NoCommand c_NoCommand e_NoCommand C_Refused f_Refused c_Refused e_Refused C_TooMany f_TooMany c_TooMany e_TooMany C_Nothing G) : TabOk P w K mg base 7 U_5 := (utab4 X G0 top A).push (ent_ok X G0 A.d4 sc__law_value rfl (fun _ _ _ _ _ _ us hl => match us, hl with | [_], _ => rfl) (utab4 X G0 top A) rfl ir__law_value (fun ds h _ => cov_run _ _ _ ds h))
theorem uT : K00T U_5 where
  value := ⟨u__law_value, rfl, rfl, fun ds h Q q => wp_value (T := U_4) (some_spec (T' := U_1) (T2 := U_0) rfl rfl) q⟩
  alike := ⟨u__law_alike, rfl, rfl, fun d h q hq k1 k2 => wp_alikeR (T := U_3) hq k1 k2⟩
  xs := rfl
  isx := rfl
theorem law_sp {H : Hp} {a : Addr} {ns : List Int} (hn : ns.length ≤ 63) (hS : SqL K H a (ns.map V.int)) (ht : RepH K ⟨[], []⟩ H []) : spD K 1 (run U_5 19 c_law) [.ref a] H (fun v _ => v = .bl true) fun _ _ _ => False :=
  spD_law hS ht (law_ok uT ⟨U_2, rfl⟩ hn)
theorem all_mk {l : PySem.W.OpenLaw} {fa : Addr} (X : K.In h) (G0 : h.Ns mainGlobals mg) (hfa : mg "law" = some (.ref fa)) (top : (l.prog.main.scope.names.lookup ("super" : Str)).isSome = false) (A : All K l.prog.main.file C_BadText f_BadText c_BadText e_BadText C_BadGrove f_BadGrove c_BadGrove e_BadGrove C_BadPaper f_BadPaper c_BadPaper e_BadPaper C_BadBytes f_BadBytes c_BadBytes e_BadBytes C_NoName f_NoName c_NoName e_NoName C_NoCommand f_NoCommand c_NoCommand e_NoCommand C_Refused f_Refused c_Refused e_Refused C_TooMany f_TooMany c_TooMany e_TooMany C_Nothing G) :
    ∃ fd : FuncData, (∀ (s : Shared) (v : Value), BindsTo s fd ⟨[v], []⟩ [("script", v)]) ∧ ∀ base : Heap, K.In base → base.Ns mainGlobals mg → FnOk l.prog w K mg base (L2.CX l.prog w) 8 fa fd ["script"] (spD K 1 (run U_5 19 c_law)) := by
  obtain ⟨f, oc, od, kV, doc, pm, an, cdv, ct, osl, a, lk, c1, k1⟩ := A.d5
  have e := hfa.symm.trans (PySem.W.mg_of X G0 a)
  cases e
  have F := fun_mk (st := st_law) lk c1 k1
  exact ⟨_, fun s v => .of_eq rfl, fun base _ _ => def_ok F sc_law rfl (utab5 X G0 top A) rfl ir_law fun ds h _ => cov_run _ _ _ ds h⟩
end
end DL.K00
end

section
set_option maxHeartbeats 4000000
/-! law k00: the statement -/
open PySem PySem.W PyProof.Rows
set_option maxHeartbeats 0 in
theorem PySem.Challenge.cw_grovetallies_k00_errors_of_the_package_holds : PySem.Challenge.rw_grovetallies_k00_errors_of_the_package.Holds := by
  w_on; o_law; k_head; (case hw => w_witness2)
  k_fill
  refine L2.walk_of (l := PySem.Challenge.rw_grovetallies_k00_errors_of_the_package) (n := 63) (k := 8) (x := "script") (CX := fun w => L2.CX PySem.Challenge.rw_grovetallies_k00_errors_of_the_package.prog w) (sp := fun w => @DL.spD DL.noTbs _ 1 (DL.run DL.K00.U_5 19 DL.K00.c_law)) rfl (by decide) rfl ⟨rfl, by decide, by decide⟩ (fun w h Y => PySem.W.kIn_of Y) ?F (fun _ _ a ns hl _ hS => DL.K00.law_sp hl hS ⟨List.nodup_nil, rfl, fun i o a h1 _ => (by cases h1), fun a ha => (by cases ha), fun a ha => (by cases ha), fun p hp => (by cases hp)⟩) ?C
  case C =>
    intro w H s e s' c
    obtain ⟨_, _, _, _, _, _, _, _, _, _, _, _, z⟩ := c
    exact z
  case F =>
    intro w mg fa h KX G hmg
    refine' DL.K00.all_mk KX G hmg ?top ?A
    (case top => first | rfl | decide +kernel)
    case A =>
      refine' DL.K00.All.mk ?q_d0 ?q_d1 ?q_d2 ?q_d3 ?q_d4 ?q_d5 ?q_z ?q_x_BadText ?q_x_BadGrove ?q_x_BadPaper ?q_x_BadBytes ?q_x_NoName ?q_x_NoCommand ?q_x_Refused ?q_x_TooMany ?q_n1 ?q_n2 ?q_n3 ?q_g ?q_vE ?q_i_BadText ?q_i_BadGrove ?q_i_BadPaper ?q_i_BadBytes ?q_i_NoName ?q_i_NoCommand ?q_i_Refused ?q_i_Nothing ?q_i_TooMany
      (case q_d0 =>
        refine' DL.DefAt.mk ?a ?l ?c ?k
        (case a => k_is); (case l => k_is); (case c => k_is); (case k => k_is))
      (case q_d1 =>
        refine' DL.DefAt.mk ?a ?l ?c ?k
        (case a => k_is); (case l => k_is); (case c => k_is); (case k => k_is))
      (case q_d2 =>
        refine' DL.DefAt.mk ?a ?l ?c ?k
        (case a => k_is); (case l => k_is); (case c => k_is); (case k => k_is))
      (case q_d3 =>
        refine' DL.DefAt.mk ?a ?l ?c ?k
        (case a => k_is); (case l => k_is); (case c => k_is); (case k => k_is))
      (case q_d4 =>
        refine' DL.DefAt.mk ?a ?l ?c ?k
        (case a => k_is); (case l => k_is); (case c => k_is); (case k => k_is))
      (case q_d5 =>
        refine' DL.DefAt.mk ?a ?l ?c ?k
        (case a => k_is); (case l => k_is); (case c => k_is); (case k => k_is))
      (case q_z =>
        intro x hx
        simp only [DL.K00.bl00, List.mem_cons, List.not_mem_nil, or_false] at hx
        rcases hx with rfl | rfl | rfl | rfl | rfl | rfl | rfl | rfl | rfl | rfl <;> k_is)
      (case q_x_BadText =>
        refine' DL.XAt.mk2 ?aC ?xL ?rf ?sa ?exC ?tyC ?kC ?ga ?gg ?hdC ?iC ?sC ?ini ?ty ?lk ?hb ?cd ?no ?c1 ?c2 ?c3 ?ce ?sub2 ?subV ?opq ?sini ?sup ?hi
        (case aC => k_is); (case xL => k_is); (case rf => rfl); (case sa => k_is); (case exC => k_is); (case tyC => k_is); (case kC => k_is); (case ga => k_is); (case gg => k_is); (case hdC => k_is); (case iC => k_is)
        (case sC => first | rfl | k_is); (case ini => k_is); (case ty => k_is); (case lk => k_is); (case hb => exact fun us hl => match us, hl with | [_, _, _], _ => rfl); (case cd => k_is)
        (case no =>
          intro f hf
          simp only [List.mem_cons, List.not_mem_nil, or_false] at hf
          rcases hf with rfl | rfl <;> k_is)
        (case c1 => k_is); (case c2 => rfl); (case c3 => first | rfl | decide +kernel); (case ce => k_is); (case sub2 => first | rfl | k_is); (case subV => first | rfl | k_is); (case opq => k_is); (case sini => first | kernel_rfl | rfl); (case sup => k_is); (case hi => exact fun _ => rfl))
      (case q_x_BadGrove =>
        refine' DL.XAt.mk2 ?aC ?xL ?rf ?sa ?exC ?tyC ?kC ?ga ?gg ?hdC ?iC ?sC ?ini ?ty ?lk ?hb ?cd ?no ?c1 ?c2 ?c3 ?ce ?sub2 ?subV ?opq ?sini ?sup ?hi
        (case aC => k_is); (case xL => k_is); (case rf => rfl); (case sa => k_is); (case exC => k_is); (case tyC => k_is); (case kC => k_is); (case ga => k_is); (case gg => k_is); (case hdC => k_is); (case iC => k_is)
        (case sC => first | rfl | k_is); (case ini => k_is); (case ty => k_is); (case lk => k_is); (case hb => exact fun us hl => match us, hl with | [_, _, _], _ => rfl); (case cd => k_is)
        (case no =>
          intro f hf
          simp only [List.mem_cons, List.not_mem_nil, or_false] at hf
          rcases hf with rfl | rfl <;> k_is)
        (case c1 => k_is); (case c2 => rfl); (case c3 => first | rfl | decide +kernel); (case ce => k_is); (case sub2 => first | rfl | k_is); (case subV => first | rfl | k_is); (case opq => k_is); (case sini => first | kernel_rfl | rfl); (case sup => k_is); (case hi => exact fun _ => rfl))
      (case q_x_BadPaper =>
        refine' DL.XAt.mk2 ?aC ?xL ?rf ?sa ?exC ?tyC ?kC ?ga ?gg ?hdC ?iC ?sC ?ini ?ty ?lk ?hb ?cd ?no ?c1 ?c2 ?c3 ?ce ?sub2 ?subV ?opq ?sini ?sup ?hi
        (case aC => k_is); (case xL => k_is); (case rf => rfl); (case sa => k_is); (case exC => k_is); (case tyC => k_is); (case kC => k_is); (case ga => k_is); (case gg => k_is); (case hdC => k_is); (case iC => k_is)
        (case sC => first | rfl | k_is); (case ini => k_is); (case ty => k_is); (case lk => k_is); (case hb => exact fun us hl => match us, hl with | [_, _, _], _ => rfl); (case cd => k_is)
        (case no =>
          intro f hf
          simp only [List.mem_cons, List.not_mem_nil, or_false] at hf
          rcases hf with rfl | rfl <;> k_is)
        (case c1 => k_is); (case c2 => rfl); (case c3 => first | rfl | decide +kernel); (case ce => k_is); (case sub2 => first | rfl | k_is); (case subV => first | rfl | k_is); (case opq => k_is); (case sini => first | kernel_rfl | rfl); (case sup => k_is); (case hi => exact fun _ => rfl))
      (case q_x_BadBytes =>
        refine' DL.XAt.mk2 ?aC ?xL ?rf ?sa ?exC ?tyC ?kC ?ga ?gg ?hdC ?iC ?sC ?ini ?ty ?lk ?hb ?cd ?no ?c1 ?c2 ?c3 ?ce ?sub2 ?subV ?opq ?sini ?sup ?hi
        (case aC => k_is); (case xL => k_is); (case rf => rfl); (case sa => k_is); (case exC => k_is); (case tyC => k_is); (case kC => k_is); (case ga => k_is); (case gg => k_is); (case hdC => k_is); (case iC => k_is)
        (case sC => first | rfl | k_is); (case ini => k_is); (case ty => k_is); (case lk => k_is); (case hb => exact fun us hl => match us, hl with | [_, _, _], _ => rfl); (case cd => k_is)
        (case no =>
          intro f hf
          simp only [List.mem_cons, List.not_mem_nil, or_false] at hf
          rcases hf with rfl | rfl <;> k_is)
        (case c1 => k_is); (case c2 => rfl); (case c3 => first | rfl | decide +kernel); (case ce => k_is); (case sub2 => first | rfl | k_is); (case subV => first | rfl | k_is); (case opq => k_is); (case sini => first | kernel_rfl | rfl); (case sup => k_is); (case hi => exact fun _ => rfl))
      (case q_x_NoName =>
        refine' DL.XAt.mk2 ?aC ?xL ?rf ?sa ?exC ?tyC ?kC ?ga ?gg ?hdC ?iC ?sC ?ini ?ty ?lk ?hb ?cd ?no ?c1 ?c2 ?c3 ?ce ?sub2 ?subV ?opq ?sini ?sup ?hi
        (case aC => k_is); (case xL => k_is); (case rf => rfl); (case sa => k_is); (case exC => k_is); (case tyC => k_is); (case kC => k_is); (case ga => k_is); (case gg => k_is); (case hdC => k_is); (case iC => k_is)
        (case sC => first | rfl | k_is); (case ini => k_is); (case ty => k_is); (case lk => k_is); (case hb => exact fun us hl => match us, hl with | [_, _], _ => rfl); (case cd => k_is)
        (case no =>
          intro f hf
          simp only [List.mem_cons, List.not_mem_nil, or_false] at hf
          rcases hf with rfl <;> k_is)
        (case c1 => k_is); (case c2 => rfl); (case c3 => first | rfl | decide +kernel); (case ce => k_is); (case sub2 => first | rfl | k_is); (case subV => first | rfl | k_is); (case opq => k_is); (case sini => first | kernel_rfl | rfl); (case sup => k_is); (case hi => exact fun _ => rfl))
      (case q_x_NoCommand =>
        refine' DL.XAt.mk2 ?aC ?xL ?rf ?sa ?exC ?tyC ?kC ?ga ?gg ?hdC ?iC ?sC ?ini ?ty ?lk ?hb ?cd ?no ?c1 ?c2 ?c3 ?ce ?sub2 ?subV ?opq ?sini ?sup ?hi
        (case aC => k_is); (case xL => k_is); (case rf => rfl); (case sa => k_is); (case exC => k_is); (case tyC => k_is); (case kC => k_is); (case ga => k_is); (case gg => k_is); (case hdC => k_is); (case iC => k_is)
        (case sC => first | rfl | k_is); (case ini => k_is); (case ty => k_is); (case lk => k_is); (case hb => exact fun us hl => match us, hl with | [_, _], _ => rfl); (case cd => k_is)
        (case no =>
          intro f hf
          simp only [List.mem_cons, List.not_mem_nil, or_false] at hf
          rcases hf with rfl <;> k_is)
        (case c1 => k_is); (case c2 => rfl); (case c3 => first | rfl | decide +kernel); (case ce => k_is); (case sub2 => first | rfl | k_is); (case subV => first | rfl | k_is); (case opq => k_is); (case sini => first | kernel_rfl | rfl); (case sup => k_is); (case hi => exact fun _ => rfl))
      (case q_x_Refused =>
        refine' DL.XAt.mk2 ?aC ?xL ?rf ?sa ?exC ?tyC ?kC ?ga ?gg ?hdC ?iC ?sC ?ini ?ty ?lk ?hb ?cd ?no ?c1 ?c2 ?c3 ?ce ?sub2 ?subV ?opq ?sini ?sup ?hi
        (case aC => k_is); (case xL => k_is); (case rf => rfl); (case sa => k_is); (case exC => k_is); (case tyC => k_is); (case kC => k_is); (case ga => k_is); (case gg => k_is); (case hdC => k_is); (case iC => k_is)
        (case sC => first | rfl | k_is); (case ini => k_is); (case ty => k_is); (case lk => k_is); (case hb => exact fun us hl => match us, hl with | [_, _], _ => rfl); (case cd => k_is)
        (case no =>
          intro f hf
          simp only [List.mem_cons, List.not_mem_nil, or_false] at hf
          rcases hf with rfl <;> k_is)
        (case c1 => k_is); (case c2 => rfl); (case c3 => first | rfl | decide +kernel); (case ce => k_is); (case sub2 => first | rfl | k_is); (case subV => first | rfl | k_is); (case opq => k_is); (case sini => first | kernel_rfl | rfl); (case sup => k_is); (case hi => exact fun _ => rfl))
      (case q_x_TooMany =>
        refine' DL.XAt.mk2 ?aC ?xL ?rf ?sa ?exC ?tyC ?kC ?ga ?gg ?hdC ?iC ?sC ?ini ?ty ?lk ?hb ?cd ?no ?c1 ?c2 ?c3 ?ce ?sub2 ?subV ?opq ?sini ?sup ?hi
        (case aC => k_is); (case xL => k_is); (case rf => rfl); (case sa => k_is); (case exC => k_is); (case tyC => k_is); (case kC => k_is); (case ga => k_is); (case gg => k_is); (case hdC => k_is); (case iC => k_is)
        (case sC => first | rfl | k_is); (case ini => k_is); (case ty => k_is); (case lk => k_is); (case hb => exact fun us hl => match us, hl with | [_, _, _], _ => rfl); (case cd => k_is)
        (case no =>
          intro f hf
          simp only [List.mem_cons, List.not_mem_nil, or_false] at hf
          rcases hf with rfl | rfl <;> k_is)
        (case c1 => k_is); (case c2 => rfl); (case c3 => first | rfl | decide +kernel); (case ce => k_is); (case sub2 => first | rfl | k_is); (case subV => first | rfl | k_is); (case opq => k_is); (case sini => first | kernel_rfl | rfl); (case sup => k_is); (case hi => exact fun _ => rfl))
      (case q_n2 => k_is)
      (case q_n1 => k_exc)
      (case q_n3 => k_is)
      (case q_g => k_is)
      (case q_vE => k_is)
      (case q_i_BadText =>
        refine' DL.IxAt.mk ?ns ?ec ?kg ?kv ?kr
        (case ns => k_is)
        (case ec => exact ⟨by k_is, by k_is, by k_is, by k_is, by k_is, by first | k_is | kernel_rfl, by first | k_is | kernel_rfl, by first | rfl | k_is | kernel_rfl⟩)
        (case kg => kernel_rfl); (case kv => kernel_rfl); (case kr => kernel_rfl))
      (case q_i_BadGrove =>
        refine' DL.IxAt.mk ?ns ?ec ?kg ?kv ?kr
        (case ns => k_is)
        (case ec => exact ⟨by k_is, by k_is, by k_is, by k_is, by k_is, by first | k_is | kernel_rfl, by first | k_is | kernel_rfl, by first | rfl | k_is | kernel_rfl⟩)
        (case kg => kernel_rfl); (case kv => kernel_rfl); (case kr => kernel_rfl))
      (case q_i_BadPaper =>
        refine' DL.IxAt.mk ?ns ?ec ?kg ?kv ?kr
        (case ns => k_is)
        (case ec => exact ⟨by k_is, by k_is, by k_is, by k_is, by k_is, by first | k_is | kernel_rfl, by first | k_is | kernel_rfl, by first | rfl | k_is | kernel_rfl⟩)
        (case kg => kernel_rfl); (case kv => kernel_rfl); (case kr => kernel_rfl))
      (case q_i_BadBytes =>
        refine' DL.IxAt.mk ?ns ?ec ?kg ?kv ?kr
        (case ns => k_is)
        (case ec => exact ⟨by k_is, by k_is, by k_is, by k_is, by k_is, by first | k_is | kernel_rfl, by first | k_is | kernel_rfl, by first | rfl | k_is | kernel_rfl⟩)
        (case kg => kernel_rfl); (case kv => kernel_rfl); (case kr => kernel_rfl))
      (case q_i_NoName =>
        refine' DL.IxAt.mk ?ns ?ec ?kg ?kv ?kr
        (case ns => k_is)
        (case ec => exact ⟨by k_is, by k_is, by k_is, by k_is, by k_is, by first | k_is | kernel_rfl, by first | k_is | kernel_rfl, by first | rfl | k_is | kernel_rfl⟩)
        (case kg => kernel_rfl); (case kv => kernel_rfl); (case kr => kernel_rfl))
      (case q_i_NoCommand =>
        refine' DL.IxAt.mk ?ns ?ec ?kg ?kv ?kr
        (case ns => k_is)
        (case ec => exact ⟨by k_is, by k_is, by k_is, by k_is, by k_is, by first | k_is | kernel_rfl, by first | k_is | kernel_rfl, by first | rfl | k_is | kernel_rfl⟩)
        (case kg => kernel_rfl); (case kv => kernel_rfl); (case kr => kernel_rfl))
      (case q_i_Refused =>
        refine' DL.IxAt.mk ?ns ?ec ?kg ?kv ?kr
        (case ns => k_is)
        (case ec => exact ⟨by k_is, by k_is, by k_is, by k_is, by k_is, by first | k_is | kernel_rfl, by first | k_is | kernel_rfl, by first | rfl | k_is | kernel_rfl⟩)
        (case kg => kernel_rfl); (case kv => kernel_rfl); (case kr => kernel_rfl))
      (case q_i_Nothing =>
        refine' DL.IxAt.mk ?ns ?ec ?kg ?kv ?kr
        (case ns => k_is)
        (case ec => exact ⟨by k_is, by k_is, by k_is, by k_is, by k_is, by first | k_is | kernel_rfl, by first | k_is | kernel_rfl, by first | rfl | k_is | kernel_rfl⟩)
        (case kg => kernel_rfl); (case kv => kernel_rfl); (case kr => kernel_rfl))
      (case q_i_TooMany =>
        refine' DL.IxAt.mk ?ns ?ec ?kg ?kv ?kr
        (case ns => k_is)
        (case ec => exact ⟨by k_is, by k_is, by k_is, by k_is, by k_is, by first | k_is | kernel_rfl, by first | k_is | kernel_rfl, by first | rfl | k_is | kernel_rfl⟩)
        (case kg => kernel_rfl); (case kv => kernel_rfl); (case kr => kernel_rfl))
end
