import PyProof.Rows.All
import Wide.All
import OpenK.AllK
import Wide.FinOn
import PyProof.EqAt
import PyProof.EqKinds
import PyProof.TupleCall
import HandS.Base
import HandS.Call
import HandS.List
import HandS.Comp
import HandS.Exc
import HandS.Lambda
import HandS.Words
import HandS.Text
import HandS.TupAny
import HandS.IsInst
import HandS.Wide
import HandS.Dict
import HandS.WordsDict
import HandS.Deep
import HandS.Flow
import HandS.Defaults
import HandS.ExcInit
import HandS.Property
import HandS.WordsExc
import HandS.FStr
import HandS.Iter
import HandS.Zip
import KE.KExcInit
import HandS.MakeKw
import HandS.ClsMeth
import HandS.Head0
import HandS.Head1
import HandS.Head2
import HandS.HeadEnd
import HandS.HeadHook1
import HandS.HeadHook2
import HandS.HeadWalk
import HandS.EndTab
import HandS.MakeKwOnly
import PyProof.ExcBaseAll.LookupError
import PyProof.ExcBaseAll.IndexError
import HandS.Style
import HandS.More
import HandS.StrMore
import HandS.RaiseMore
import KE.DataMinMax
import HandS.OwnEq
import HandS.TryMany
import HandS.ExcField
import HandS.HotCalls
import KE.KTryMore
import HandS.NestedK
import PyProof.StrLawsFirst
import PyProof.ListStr
import PyProof.StrLawsTight
import PyProof.FitsReplace
import HandS.TryOnly
import KE.KDictDisplayH
import HandS.Replace
import HandS.Finally
import HandS.Star
import PyProof.LongRange
import KE.KUnpackStar
import HandS.Conv
import KE.KDictPairs
import KE.IntTextLaws
import HandS.SuiteRaise
import HandS.RaiseFrom
import HandS.ExcInitHot
import PyProof.DictUpdate
import HandS.DictComp
import HandS.HeadHook3
import HandS.ListItems
import KE.KDictSum
import HandS.ListEq
import KE.KEqDict
import PyProof.NeKinds
import KE.KExcIs
import HandS.ExcIs
import KE.KSuper
import PySem.Challenge.RW_turnmill_k54_links_of_fractions
set_option Elab.async false
set_option linter.all false
set_option maxRecDepth 100000
set_option maxHeartbeats 4000000
open PySem PySem.W PySem.Calls PyProof.Rows in
set_option maxHeartbeats 0 in
theorem law_open (H : PySem.Challenge.rw_turnmill_k54_links_of_fractions.row.wellSaid = true → PySem.Challenge.rw_turnmill_k54_links_of_fractions.row.Holds) : PySem.Challenge.rw_turnmill_k54_links_of_fractions.Holds := by
  w_on; o_law
  exact H (by assumption)
namespace Z
open PySem PySem.Spec PyProof.Rows L2

inductive D where
  | non | bl (b : Bool) | int (i : Int) | str (x : Str) | ty (n : String) | ref (a : Addr)
  | tup (l : List D) | lst (l : List D) | dic (l : List (D × D)) | obj (C : Addr) (fs : List (Str × D)) | lk (l : List D)
  | fn (Q : L2.Hp → Addr → Prop)
  | tpl (l : List D)
  | dlk (l : List (D × D))
inductive Cell where
  | lst (l : List D) | dic (l : List (D × D)) | ins (C : Addr) (fs : List (Str × D))
  | tab (q : Str)
  | dit (l : List (D × D))
  | frd (o : Obj) (kvs : List (Key × V)) (l : List (D × D))
  | raw (o : Heap → Prop)
abbrev Sto := Addr → Option Cell
abbrev En := List (Option D)

def keyD : D → Option Key
  | .int i => some (.inl i)
  | .str x => some (.inr x)
  | _ => none
def keysD : List D → Option (List Key)
  | [] => some []
  | d :: r => match keyD d, keysD r with
    | some k, some ks => some (k :: ks)
    | _, _ => none
def keyT : D → Option (List Key)
  | .tup l => keysD l
  | _ => none

def Sub (G G' : Hp) : Prop := ∀ a o, G a = some o → G' a = some o
theorem Sub.rfl' {G : Hp} : Sub G G := fun _ _ h => h
theorem Sub.tr {G G1 G2 : Hp} (a : Sub G G1) (b : Sub G1 G2) : Sub G G2 := fun c o h => b c o (a c o h)
theorem Sub.rd {G G' : Hp} {a : Addr} {u : HO} (s : Sub G G') (h : Rd G a u) : Rd G' a u := h.imp (s _ _) fun ⟨o, h⟩ => ⟨o, s _ _ h⟩
theorem Sub.sqL {K : PySem.W.Frag} {G G' : Hp} {a : Addr} {xs : List V} (s : Sub G G') (h : SqL K G a xs) : SqL K G' a xs := by
  rcases h with (h | ⟨o, h⟩) | h
  · exact .inl (.inl (s _ _ h))
  · exact .inl (.inr ⟨o, s _ _ h⟩)
  · exact .inr h
theorem Sub.sqT {K : PySem.W.Frag} {G G' : Hp} {a : Addr} {xs : List V} (s : Sub G G') (h : SqT K G a xs) : SqT K G' a xs := by
  rcases h with (h | ⟨o, h⟩) | h
  · exact .inl (.inl (s _ _ h))
  · exact .inl (.inr ⟨o, s _ _ h⟩)
  · exact .inr h

mutual
inductive Rep (K : PySem.W.Frag) (G : Hp) : D → V → Prop
  | non : Rep K G .non .non
  | bl {b : Bool} : Rep K G (.bl b) (.bl b)
  | int {i : Int} : Rep K G (.int i) (.int i)
  | str {x : Str} : Rep K G (.str x) (.str x)
  | ty {n : String} : Rep K G (.ty n) (.ty n)
  | ref {a : Addr} : Rep K G (.ref a) (.ref a)
  | tup {l : List D} {a : Addr} {vs : List V} : SqT K G a vs → RepL K G l vs → Rep K G (.tup l) (.ref a)
  | tpl {l : List D} {a : Addr} {vs : List V} : G a = some (.tup vs) → RepL K G l vs → Rep K G (.tpl l) (.ref a)
  | fn {Q : Hp → Addr → Prop} {a : Addr} {G0 : Hp} : Sub G0 G → Q G0 a → Rep K G (.fn Q) (.ref a)
  | lst {l : List D} {a : Addr} {vs : List V} : Rd G a (.lst vs) → RepL K G l vs → Rep K G (.lst l) (.ref a)
  | lk {l : List D} {a : Addr} {vs : List V} : SqL K G a vs → RepL K G l vs → Rep K G (.lk l) (.ref a)
  | dic {l : List (D × D)} {a : Addr} {kvs : List (Key × V)} : G a = some (.dK kvs) → RepD K G l kvs → Rep K G (.dic l) (.ref a)
  | dit {l : List (D × D)} {a : Addr} {kvs : List (List Key × V)} : G a = some (.dT kvs) → RepT K G l kvs → Rep K G (.dic l) (.ref a)
  | dlk {l : List (D × D)} {a : Addr} {o : Obj} {kvs : List (Key × V)} : G a = some (.frz o (.dK kvs)) → RepD K G l kvs → Rep K G (.dlk l) (.ref a)
  | obj {C : Addr} {fs : List (Str × D)} {a dx : Addr} {fvs : List (Str × V)} : G a = some (.ins C dx fvs) → RepF K G fs fvs → Rep K G (.obj C fs) (.ref a)
inductive RepL (K : PySem.W.Frag) (G : Hp) : List D → List V → Prop
  | nil : RepL K G [] []
  | cons {d : D} {ds : List D} {v : V} {vs : List V} : Rep K G d v → RepL K G ds vs → RepL K G (d :: ds) (v :: vs)
inductive RepF (K : PySem.W.Frag) (G : Hp) : List (Str × D) → List (Str × V) → Prop
  | nil : RepF K G [] []
  | cons {f : Str} {d : D} {ds : List (Str × D)} {v : V} {vs : List (Str × V)} : Rep K G d v → RepF K G ds vs → RepF K G ((f, d) :: ds) ((f, v) :: vs)
inductive RepD (K : PySem.W.Frag) (G : Hp) : List (D × D) → List (Key × V) → Prop
  | nil : RepD K G [] []
  | cons {c d : D} {k : Key} {ds : List (D × D)} {v : V} {vs : List (Key × V)} : keyD c = some k → Rep K G d v → RepD K G ds vs → RepD K G ((c, d) :: ds) ((k, v) :: vs)
inductive RepT (K : PySem.W.Frag) (G : Hp) : List (D × D) → List (List Key × V) → Prop
  | nil : RepT K G [] []
  | cons {c d : D} {k : List Key} {ds : List (D × D)} {v : V} {vs : List (List Key × V)} : keyT c = some k → Rep K G d v → RepT K G ds vs → RepT K G ((c, d) :: ds) ((k, v) :: vs)
end

section
variable {K : PySem.W.Frag} {G G' : Hp}
mutual
theorem Rep.mono (s : Sub G G') : ∀ {d : D} {v : V}, Rep K G d v → Rep K G' d v
  | _, _, .non => .non
  | _, _, .bl => .bl
  | _, _, .int => .int
  | _, _, .str => .str
  | _, _, .ty => .ty
  | _, _, .ref => .ref
  | _, _, .tup h r => .tup (s.sqT h) (r.mono s)
  | _, _, .tpl h r => .tpl (s _ _ h) (r.mono s)
  | _, _, .fn h q => .fn (h.tr s) q
  | _, _, .lst h r => .lst (s.rd h) (r.mono s)
  | _, _, .lk h r => .lk (s.sqL h) (r.mono s)
  | _, _, .dic h r => .dic (s _ _ h) (r.mono s)
  | _, _, .dlk h r => .dlk (s _ _ h) (r.mono s)
  | _, _, .dit h r => .dit (s _ _ h) (r.mono s)
  | _, _, .obj h r => .obj (s _ _ h) (r.mono s)
theorem RepL.mono (s : Sub G G') : ∀ {d : List D} {v : List V}, RepL K G d v → RepL K G' d v
  | _, _, .nil => .nil
  | _, _, .cons h r => .cons (h.mono s) (r.mono s)
theorem RepF.mono (s : Sub G G') : ∀ {d : List (Str × D)} {v : List (Str × V)}, RepF K G d v → RepF K G' d v
  | _, _, .nil => .nil
  | _, _, .cons h r => .cons (h.mono s) (r.mono s)
theorem RepD.mono (s : Sub G G') : ∀ {d : List (D × D)} {v : List (Key × V)}, RepD K G d v → RepD K G' d v
  | _, _, .nil => .nil
  | _, _, .cons e h r => .cons e (h.mono s) (r.mono s)
theorem RepT.mono (s : Sub G G') : ∀ {d : List (D × D)} {v : List (List Key × V)}, RepT K G d v → RepT K G' d v
  | _, _, .nil => .nil
  | _, _, .cons e h r => .cons e (h.mono s) (r.mono s)
end
theorem RepL.length : ∀ {ds : List D} {vs : List V}, RepL K G ds vs → ds.length = vs.length
  | _, _, .nil => rfl
  | _, _, .cons _ r => congrArg (· + 1) r.length
theorem RepL.get : ∀ {ds : List D} {vs : List V} {i : Nat} {d : D}, RepL K G ds vs → ds[i]? = some d → ∃ v, vs[i]? = some v ∧ Rep K G d v
  | _, _, _, _, .nil, e => by simp at e
  | _, _, 0, _, .cons r _, e => by simp at e; subst e; exact ⟨_, rfl, r⟩
  | _, _, i + 1, d, .cons _ t, e => by
    obtain ⟨u, h1, h2⟩ := t.get (i := i) (d := d) (by simpa using e)
    exact ⟨u, by simpa using h1, h2⟩
theorem RepL.app : ∀ {xs ys : List D} {us ws : List V}, RepL K G xs us → RepL K G ys ws → RepL K G (xs ++ ys) (us ++ ws)
  | _, _, _, _, .nil, s => s
  | _, _, _, _, .cons r t, s => .cons r (t.app s)
theorem RepL.set {x : D} {u : V} (r : Rep K G x u) : ∀ {xs : List D} {us : List V} (i : Nat), RepL K G xs us → RepL K G (xs.set i x) (us.set i u)
  | _, _, _, .nil => .nil
  | _, _, 0, .cons _ t => .cons r t
  | _, _, i + 1, .cons q t => .cons q (RepL.set r i t)
theorem RepL.take : ∀ {xs : List D} {us : List V} (n : Nat), RepL K G xs us → RepL K G (xs.take n) (us.take n)
  | _, _, 0, _ => .nil
  | _, _, _ + 1, .nil => .nil
  | _, _, n + 1, .cons r t => .cons r (t.take n)
theorem RepL.drop : ∀ {xs : List D} {us : List V} (n : Nat), RepL K G xs us → RepL K G (xs.drop n) (us.drop n)
  | _, _, 0, r => r
  | _, _, _ + 1, .nil => .nil
  | _, _, n + 1, .cons _ t => t.drop n
theorem RepF.length : ∀ {ds : List (Str × D)} {vs : List (Str × V)}, RepF K G ds vs → ds.length = vs.length
  | _, _, .nil => rfl
  | _, _, .cons _ r => congrArg (· + 1) r.length
theorem RepF.look {f : Str} : ∀ {ds : List (Str × D)} {vs : List (Str × V)} {d : D}, RepF K G ds vs → ds.lookup f = some d → ∃ v, vs.lookup f = some v ∧ Rep K G d v
  | _, _, _, .nil, e => by cases e
  | _, _, d, .cons (f := g) r t, e => by
    rw [List.lookup_cons] at e ⊢
    cases q : f == g with
    | true => rw [q] at e; cases e; exact ⟨_, rfl, r⟩
    | false => rw [q] at e; exact t.look e
theorem RepF.none {f : Str} : ∀ {ds : List (Str × D)} {vs : List (Str × V)}, RepF K G ds vs → ds.lookup f = none → vs.lookup f = none
  | _, _, .nil, _ => rfl
  | _, _, .cons (f := g) r t, e => by
    rw [List.lookup_cons] at e ⊢
    cases q : f == g with
    | true => rw [q] at e; cases e
    | false => rw [q] at e; exact t.none e
end

def putD (f : Str) (d : D) : List (Str × D) → List (Str × D)
  | [] => [(f, d)]
  | (g, x) :: r => if g = f then (g, d) :: r else (g, x) :: putD f d r
end Z
namespace Z
open PySem PySem.Spec PyProof.Rows L2

def CellAt (K : PySem.W.Frag) (G H : Hp) (a : Addr) : Cell → Prop
  | .lst l => ∃ vs, H a = some (.lst vs) ∧ RepL K G l vs
  | .dic l => ∃ kvs, H a = some (.dK kvs) ∧ RepD K G l kvs
  | .dit l => ∃ kvs, H a = some (.dT kvs) ∧ RepT K G l kvs
  | .frd o kvs l => H a = some (.frz o (.dK kvs)) ∧ RepD K G l kvs
  | .raw o => H a = some (.ext o)
  | .ins C fs => ∃ dx fvs, H a = some (.ins C dx fvs) ∧ RepF K G fs fvs
  | .tab q => ∃ ps : Array Value, H a = some (.tbl ps) ∧ TriplesOk ps.toList ∧ ∀ (pos : Pos) (cv : Value), codeAmong pos ps.toList = some cv → ∃ c, cv = .ref c ∧ G c = some (LamX.CodeO c q)
theorem CellAt.there {K : PySem.W.Frag} {G H : Hp} {a : Addr} {c : Cell} (h : CellAt K G H a c) : H a ≠ none := by
  cases c with
  | lst l => obtain ⟨_, e, _⟩ := h; rw [e]; simp
  | dic l => obtain ⟨_, e, _⟩ := h; rw [e]; simp
  | dit l => obtain ⟨_, e, _⟩ := h; rw [e]; simp
  | frd o kvs l => rw [h.1]; simp
  | raw o => rw [show H a = some (.ext o) from h]; simp
  | ins C fs => obtain ⟨_, _, e, _⟩ := h; rw [e]; simp
  | tab q => obtain ⟨_, e, _⟩ := h; rw [e]; simp
theorem CellAt.move {K : PySem.W.Frag} {G G' H H' : Hp} {a : Addr} {c : Cell} (s : Sub G G') (e : ∀ o, H a = some o → H' a = some o) (h : CellAt K G H a c) : CellAt K G' H' a c := by
  cases c with
  | lst l => obtain ⟨_, h, r⟩ := h; exact ⟨_, e _ h, r.mono s⟩
  | dic l => obtain ⟨_, h, r⟩ := h; exact ⟨_, e _ h, r.mono s⟩
  | dit l => obtain ⟨_, h, r⟩ := h; exact ⟨_, e _ h, r.mono s⟩
  | frd o kvs l => exact ⟨e _ h.1, h.2.mono s⟩
  | raw o => exact e _ h
  | ins C fs => obtain ⟨_, _, h, r⟩ := h; exact ⟨_, _, e _ h, r.mono s⟩
  | tab q => obtain ⟨_, h, t, r⟩ := h; exact ⟨_, e _ h, t, fun pos cv hc => let ⟨c, e1, e2⟩ := r pos cv hc; ⟨c, e1, s _ _ e2⟩⟩

structure Wd (K : PySem.W.Frag) (M : Sto) (H G : Hp) : Prop where
  sub : Sub G H
  cells : ∀ a c, M a = some c → G a = none ∧ CellAt K G H a c
structure Bs where
  H : Hp
  G : Hp
  M : Sto
structure Since (H0 G0 : Hp) (M0 : Sto) (M : Sto) (H G : Hp) : Prop where
  keep : ∀ a o, H0 a = some o → M0 a = none → H a = some o
  stay : ∀ a, H0 a ≠ none → H a ≠ none
  gsub : Sub G0 G
  gnew : ∀ a, G a ≠ none → G0 a = none → H0 a = none
  mnew : ∀ a, M a ≠ none → M0 a = none → H0 a = none
structure Rel (K : PySem.W.Frag) (B : Bs) (r : En) (M : Sto) (σ : L2.St) (H G : Hp) : Prop where
  wd : Wd K M H G
  len : r.length = σ.length
  slots : ∀ (i : Nat) d, r[i]? = some (some d) → ∃ v, σ[i]? = some (some v) ∧ Rep K G d v
  sin : Since B.H B.G B.M M H G

theorem Since.refl {H G : Hp} {M : Sto} : Since H G M M H G := ⟨fun _ _ h _ => h, fun _ h => h, Sub.rfl', fun _ h e => absurd e h, fun _ h e => absurd e h⟩
theorem Since.trans {K : PySem.W.Frag} {H0 G0 H1 G1 H2 G2 : Hp} {M0 M1 M2 : Sto} (w1 : Wd K M1 H1 G1) (a : Since H0 G0 M0 M1 H1 G1) (b : Since H1 G1 M1 M2 H2 G2) : Since H0 G0 M0 M2 H2 G2 where
  keep := fun c o h n => b.keep c o (a.keep c o h n) (by
    cases q : M1 c with
    | none => rfl
    | some x => have := a.mnew c (by rw [q]; simp) n; rw [this] at h; cases h)
  stay := fun c h => b.stay c (a.stay c h)
  gsub := a.gsub.tr b.gsub
  gnew := fun c h n => by
    cases q : G1 c with
    | some x => exact a.gnew c (by rw [q]; simp) n
    | none =>
      have h1 := b.gnew c h q
      cases z : H0 c with
      | none => rfl
      | some o => exact absurd h1 (a.stay c (by rw [z]; simp))
  mnew := fun c h n => by
    cases q : M1 c with
    | some x => exact a.mnew c (by rw [q]; simp) n
    | none =>
      have h1 := b.mnew c h q
      cases z : H0 c with
      | none => rfl
      | some o => exact absurd h1 (a.stay c (by rw [z]; simp))
theorem Rel.go {K : PySem.W.Frag} {B : Bs} {r : En} {M M' : Sto} {σ : L2.St} {H G H' G' : Hp} (R : Rel K B r M σ H G) (w : Wd K M' H' G') (s : Since H G M M' H' G') : Rel K B r M' σ H' G' :=
  ⟨w, R.len, fun i d e => let ⟨v, h1, h2⟩ := R.slots i d e; ⟨v, h1, h2.mono s.gsub⟩, Since.trans R.wd R.sin s⟩
structure Grow (H G H' G' : Hp) : Prop where
  same : ∀ a o, H a = some o → H' a = some o
  gsub : Sub G G'
  sub : Sub G' H'
  gnew : ∀ a, G' a ≠ none → G a = none → H a = none
theorem Grow.refl {H G : Hp} (s : Sub G H) : Grow H G H G := ⟨fun _ _ h => h, Sub.rfl', s, fun _ h e => absurd e h⟩
theorem Grow.since {K : PySem.W.Frag} {M : Sto} {H G H' G' : Hp} (w : Wd K M H G) (g : Grow H G H' G') : Since H G M M H' G' :=
  ⟨fun a o h _ => g.same a o h, fun a h => by
    cases q : H a with
    | none => exact absurd q h
    | some o => rw [g.same a o q]; simp, g.gsub, g.gnew, fun a h e => absurd e h⟩
theorem Grow.wd {K : PySem.W.Frag} {M : Sto} {H G H' G' : Hp} (w : Wd K M H G) (g : Grow H G H' G') : Wd K M H' G' :=
  ⟨g.sub, fun a c e => by
    obtain ⟨h1, h2⟩ := w.cells a c e
    refine ⟨?_, h2.move g.gsub (g.same a)⟩
    cases q : G' a with
    | none => rfl
    | some o => exact absurd (g.gnew a (by rw [q]; simp) h1) h2.there⟩
theorem Rel.grow {K : PySem.W.Frag} {B : Bs} {r : En} {M : Sto} {σ : L2.St} {H G H' G' : Hp} (R : Rel K B r M σ H G) (g : Grow H G H' G') : Rel K B r M σ H' G' := R.go (g.wd R.wd) (g.since R.wd)
theorem Grow.trans {H G H1 G1 H2 G2 : Hp} (a : Grow H G H1 G1) (b : Grow H1 G1 H2 G2) : Grow H G H2 G2 :=
  ⟨fun c o h => b.same c o (a.same c o h), a.gsub.tr b.gsub, b.sub, fun c h n => by
    cases q : G1 c with
    | some x => exact a.gnew c (by rw [q]; simp) n
    | none =>
      have h1 := b.gnew c h q
      cases z : H c with
      | none => rfl
      | some o => rw [a.same c o z] at h1; cases h1⟩
theorem grow_upd {H G : Hp} {p : Addr} {o : HO} (s : Sub G H) (hp : H p = none) : Grow H G (upd H p o) (upd G p o) where
  same := fun a u h => by rw [upd_ne (ne_of_none h hp)]; exact h
  gsub := fun a u h => by rw [upd_ne (ne_of_none (s _ _ h) hp)]; exact h
  sub := fun a u h => by
    by_cases e : a = p
    · subst e; rw [upd_same] at h ⊢; exact h
    · rw [upd_ne e] at h ⊢; exact s _ _ h
  gnew := fun a h n => by
    by_cases e : a = p
    · subst e; exact hp
    · rw [upd_ne e] at h; exact absurd n h

abbrev PD := D → Sto → Prop
abbrev DTE := En → Sto → PD → Prop
abbrev DTT := En → Sto → (Bool → Sto → Prop) → Prop
abbrev DTA := En → Sto → (List D → Sto → Prop) → Prop
structure Ek where
  nx : En → Sto → Prop
  rt : D → Sto → Prop
  bk : En → Sto → Prop := fun _ _ => False
  ct : En → Sto → Prop := fun _ _ => False
abbrev DTS := Ek → En → Sto → Prop
abbrev DTG := D → En → Sto → (En → Sto → Prop) → Prop

def lift (K : PySem.W.Frag) (B : Bs) (f : DTE) : TE := fun σ H Q => ∃ r M G Ψ, Rel K B r M σ H G ∧ f r M Ψ ∧ ∀ d M' v H' G', Ψ d M' → Rel K B r M' σ H' G' → Sub G G' → Rep K G' d v → Q v H'
def liftT (K : PySem.W.Frag) (B : Bs) (f : DTT) : TT := fun σ H Q => ∃ r M G Ψ, Rel K B r M σ H G ∧ f r M Ψ ∧ ∀ b M' H' G', Ψ b M' → Rel K B r M' σ H' G' → Sub G G' → Q b H'
def liftA (K : PySem.W.Frag) (B : Bs) (f : DTA) : TA := fun σ H Q => ∃ r M G Ψ, Rel K B r M σ H G ∧ f r M Ψ ∧ ∀ ds M' vs H' G', Ψ ds M' → Rel K B r M' σ H' G' → Sub G G' → RepL K G' ds vs → Q vs H'
structure EkOk (K : PySem.W.Frag) (B : Bs) (G : Hp) (E : Ek) (D' : Ends) : Prop where
  nx : ∀ r' M' σ' H' G', E.nx r' M' → Rel K B r' M' σ' H' G' → Sub G G' → D'.nx σ' H'
  rt : ∀ d r' M' v σ' H' G', E.rt d M' → Rel K B r' M' σ' H' G' → Rep K G' d v → D'.rt v H'
  bk : ∀ r' M' σ' H' G', E.bk r' M' → Rel K B r' M' σ' H' G' → Sub G G' → D'.bk σ' H'
  ct : ∀ r' M' σ' H' G', E.ct r' M' → Rel K B r' M' σ' H' G' → Sub G G' → D'.ct σ' H'
theorem EkOk.mono {K : PySem.W.Frag} {B : Bs} {G G1 : Hp} {E : Ek} {D' : Ends} (k : EkOk K B G E D') (s : Sub G G1) : EkOk K B G1 E D' :=
  ⟨fun r' M' σ' H' G' q R t => k.nx r' M' σ' H' G' q R (s.tr t), k.rt, fun r' M' σ' H' G' q R t => k.bk r' M' σ' H' G' q R (s.tr t), fun r' M' σ' H' G' q R t => k.ct r' M' σ' H' G' q R (s.tr t)⟩
def liftS (K : PySem.W.Frag) (B : Bs) (f : DTS) : TS := fun D σ H => ∃ r M G E, Rel K B r M σ H G ∧ f E r M ∧ EkOk K B G E D
def liftG (K : PySem.W.Frag) (B : Bs) (f : DTG) : TG := fun v σ H Q => ∃ d r M G Ψ, Rel K B r M σ H G ∧ Rep K G d v ∧ f d r M Ψ ∧ ∀ r' M' σ' H' G', Ψ r' M' → Rel K B r' M' σ' H' G' → Sub G G' → Q σ' H'

theorem PE_imp {X : Cx} {e : Expr} {t t' : TE} (h : PE X e t) (i : ∀ σ H Q, t' σ H Q → t σ H Q) : PE X e t' := ⟨fun pins s σ H Q I q => h.run pins s σ H Q I (i _ _ _ q)⟩
theorem PT_imp {X : Cx} {e : Expr} {t t' : TT} (h : PT X e t) (i : ∀ σ H Q, t' σ H Q → t σ H Q) : PT X e t' := ⟨fun pins s σ H Q I q => h.run pins s σ H Q I (i _ _ _ q)⟩
theorem PW_imp {X : Cx} {e : Expr} {t t' : TT} (h : PW X e t) (i : ∀ σ H Q, t' σ H Q → t σ H Q) : PW X e t' := ⟨fun wh pins s σ H Q I q => h.run wh pins s σ H Q I (i _ _ _ q)⟩
theorem PA_imp {X : Cx} {e : List Expr} {t t' : TA} (h : PA X e t) (i : ∀ σ H Q, t' σ H Q → t σ H Q) : PA X e t' := ⟨fun pos pins s σ H Q I q => h.run pos pins s σ H Q I (i _ _ _ q)⟩
theorem PS_imp {X : Cx} {e : Stmt} {t t' : TS} (h : PS X e t) (i : ∀ D σ H, t' D σ H → t D σ H) : PS X e t' := ⟨fun pins s σ H D I q => h.run pins s σ H D I (i _ _ _ q)⟩
theorem PSs_imp {X : Cx} {e : List Stmt} {t t' : TS} (h : PSs X e t) (i : ∀ D σ H, t' D σ H → t D σ H) : PSs X e t' := ⟨fun pins s σ H D I q => h.run pins s σ H D I (i _ _ _ q)⟩
theorem PG_imp {X : Cx} {e : Expr} {t t' : TG} (h : PG X e t) (i : ∀ v σ H Q, t' v σ H Q → t v σ H Q) : PG X e t' := ⟨fun pins s σ H x v Q I r q => h.run pins s σ H x v Q I r (i _ _ _ _ q)⟩
abbrev DE (X : Cx) (B : Bs) (e : Expr) (f : DTE) : Prop := PE X e (lift X.K B f)
abbrev DT (X : Cx) (B : Bs) (e : Expr) (f : DTT) : Prop := PT X e (liftT X.K B f)
abbrev DW (X : Cx) (B : Bs) (e : Expr) (f : DTT) : Prop := PW X e (liftT X.K B f)
abbrev DA (X : Cx) (B : Bs) (e : List Expr) (f : DTA) : Prop := PA X e (liftA X.K B f)
abbrev DS (X : Cx) (B : Bs) (e : Stmt) (f : DTS) : Prop := PS X e (liftS X.K B f)
abbrev DSs (X : Cx) (B : Bs) (e : List Stmt) (f : DTS) : Prop := PSs X e (liftS X.K B f)
abbrev DG (X : Cx) (B : Bs) (e : Expr) (f : DTG) : Prop := PG X e (liftG X.K B f)

section
variable {X : Cx} {B : Bs} {pos : Pos} {a b e : Expr} {es : List Expr} {fa fb : DTE} {ga : DTA}
def getS (r : En) (i : Nat) (k : D → Prop) : Prop := match r[i]? with
  | some (some d) => k d
  | _ => False
theorem getS_some {r : En} {i : Nat} {k : D → Prop} (h : getS r i k) : ∃ d, r[i]? = some (some d) ∧ k d := by
  unfold getS at h
  split at h
  · rename_i d e
    exact ⟨d, e, h⟩
  · exact h.elim
theorem de_var {i : Nat} {x : Str} (hN : X.N[i]? = some x := by rfl) (hv : Vis X.env.scope x := by first | exact Or.inl rfl | exact Or.inr (Or.inl rfl) | exact Or.inr (Or.inr rfl)) (hd : (x == ("__debug__" : Str)) = false := by decide)
    (hcd : (x == ("__classdict__" : Str)) = false := by decide) : DE X B (.Name x pos) (fun r M Ψ => getS r i fun d => Ψ d M) := by
  refine PE_imp (pe_var hN hv hd hcd) fun σ H Q ⟨r, M, G, Ψ, R, h, k⟩ => ?_
  obtain ⟨d, e, h⟩ := getS_some h
  obtain ⟨v, h1, h2⟩ := R.slots _ _ e
  exact ⟨v, h1, k d M v H G h R Sub.rfl' h2⟩
theorem de_c {v : V} (h : PE X e (tC v)) {d : D} (hr : ∀ G, Rep X.K G d v) : DE X B e (fun _ M Ψ => Ψ d M) :=
  PE_imp h fun σ H Q ⟨r, M, G, Ψ, R, h, k⟩ => k _ _ _ _ _ h R Sub.rfl' (hr G)
theorem de_int {i j} : DE X B (.Constant (.int i) j pos) (fun _ M Ψ => Ψ (.int i) M) := de_c pe_int fun _ => .int
theorem de_bl {b j} : DE X B (.Constant (.bool b) j pos) (fun _ M Ψ => Ψ (.bl b) M) := de_c pe_bl fun _ => .bl
theorem de_non {j} : DE X B (.Constant .none j pos) (fun _ M Ψ => Ψ .non M) := de_c pe_non fun _ => .non
theorem de_str {x j} : DE X B (.Constant (.str x) j pos) (fun _ M Ψ => Ψ (.str x) M) := de_c pe_str fun _ => .str
theorem de_glob {x : Str} {v : V} {u : Value} {d : D} (hm : X.mg x = some u) (r : RelV v u) (hr : ∀ G, Rep X.K G d v) (hg : Gl X x := by rfl) (hd : (x == ("__debug__" : Str)) = false := by decide) : DE X B (.Name x pos) (fun _ M Ψ => Ψ d M) := de_c (pe_glob hg hm r hd) hr

theorem da_nil : DA X B [] (fun _ M Ψ => Ψ [] M) := PA_imp pa_nil fun σ H Q ⟨r, M, G, Ψ, R, h, k⟩ => k [] M [] H G h R Sub.rfl' .nil
theorem da_cons {fs : DTA} (ha : DE X B e fa) (hr : DA X B es fs) (hs : starEach (e :: es) X.env = (false, eval e X.env) :: starEach es X.env := by rfl) :
    DA X B (e :: es) (fun r M Ψ => fa r M fun d M1 => fs r M1 fun ds M2 => Ψ (d :: ds) M2) := by
  refine PA_imp (pa_cons ha hr hs) fun σ H Q ⟨r, M, G, Ψ, R, h, k⟩ => ?_
  refine ⟨r, M, G, _, R, h, fun d M1 v H1 G1 q1 R1 s1 p1 => ?_⟩
  exact ⟨r, M1, G1, _, R1, q1, fun ds M2 vs H2 G2 q2 R2 s2 p2 => k _ _ _ _ _ q2 R2 (s1.tr s2) (.cons (p1.mono s2) p2)⟩
theorem de_tup {x1} (h : DA X B es ga) : DE X B (.Tuple es x1 pos) (fun r M Ψ => ga r M fun ds M1 => ds.length ≤ sizeLine ∧ Ψ (.tup ds) M1) := by
  refine PE_imp (pe_tup h) fun σ H Q ⟨r, M, G, Ψ, R, h, k⟩ => ?_
  refine ⟨r, M, G, _, R, h, fun ds M1 vs H1 G1 ⟨z, q⟩ R1 s1 p1 => ⟨by rw [← p1.length]; exact z, fun p hp => ?_⟩⟩
  have g : Grow H1 G1 (upd H1 p (.tup vs)) (upd G1 p (.tup vs)) := grow_upd R1.wd.sub hp
  exact k _ _ _ _ _ q (R1.grow g) (s1.tr g.gsub) (.tup (SqT.of upd_same) (p1.mono g.gsub))
theorem de_lst (h : DA X B es ga) : DE X B (.List es pos) (fun r M Ψ => ga r M fun ds M1 => ds.length ≤ sizeLine ∧ Ψ (.lst ds) M1) := by
  refine PE_imp (pe_lst h) fun σ H Q ⟨r, M, G, Ψ, R, h, k⟩ => ?_
  refine ⟨r, M, G, _, R, h, fun ds M1 vs H1 G1 ⟨z, q⟩ R1 s1 p1 => ⟨by rw [← p1.length]; exact z, fun p hp => ?_⟩⟩
  have g : Grow H1 G1 (upd H1 p (.lst vs)) (upd G1 p (.lst vs)) := grow_upd R1.wd.sub hp
  exact k _ _ _ _ _ q (R1.grow g) (s1.tr g.gsub) (.lst (.inl upd_same) (p1.mono g.gsub))
def updM (M : Sto) (p : Addr) (c : Cell) : Sto := fun a => if a = p then some c else M a
theorem updM_same {M : Sto} {p : Addr} {c : Cell} : updM M p c p = some c := if_pos rfl
theorem updM_ne {M : Sto} {p a : Addr} {c : Cell} (h : a ≠ p) : updM M p c a = M a := if_neg h
theorem updM_updM {M : Sto} {p : Addr} {c c' : Cell} : updM (updM M p c) p c' = updM M p c' := by
  funext a; unfold updM; split <;> rfl
theorem cell_new {K : PySem.W.Frag} {M : Sto} {H G : Hp} {p : Addr} {o : HO} {c : Cell} (w : Wd K M H G) (hp : H p = none) (hc : CellAt K G (upd H p o) p c) : Wd K (updM M p c) (upd H p o) G ∧ Since H G M (updM M p c) (upd H p o) G := by
  have gp : G p = none := by
    cases q : G p with
    | none => rfl
    | some u => rw [w.sub _ _ q] at hp; cases hp
  refine ⟨⟨fun a u h => ?_, fun a u h => ?_⟩, ⟨fun a u h n => ?_, fun a h => ?_, Sub.rfl', fun a h n => absurd n h, fun a h n => ?_⟩⟩
  · rw [upd_ne (ne_of_none (w.sub _ _ h) hp)]; exact w.sub _ _ h
  · by_cases e : a = p
    · subst e; rw [updM_same] at h; cases h; exact ⟨gp, hc⟩
    · rw [updM_ne e] at h
      obtain ⟨h1, h2⟩ := w.cells a u h
      exact ⟨h1, h2.move Sub.rfl' fun o z => by rw [upd_ne e]; exact z⟩
  · rw [upd_ne (ne_of_none h hp)]; exact h
  · by_cases e : a = p
    · subst e; rw [upd_same]; simp
    · rw [upd_ne e]; exact h
  · by_cases e : a = p
    · subst e; exact hp
    · rw [updM_ne e] at h; exact absurd n h
theorem cell_put {K : PySem.W.Frag} {M : Sto} {H G : Hp} {p : Addr} {o : HO} {c c0 : Cell} (w : Wd K M H G) (hp : M p = some c0) (hc : CellAt K G (upd H p o) p c) : Wd K (updM M p c) (upd H p o) G ∧ Since H G M (updM M p c) (upd H p o) G := by
  obtain ⟨gp, hat⟩ := w.cells p c0 hp
  refine ⟨⟨fun a u h => ?_, fun a u h => ?_⟩, ⟨fun a u h n => ?_, fun a h => ?_, Sub.rfl', fun a h n => absurd n h, fun a h n => ?_⟩⟩
  · rw [upd_ne (ne_of_none h gp)]; exact w.sub _ _ h
  · by_cases e : a = p
    · subst e; rw [updM_same] at h; cases h; exact ⟨gp, hc⟩
    · rw [updM_ne e] at h
      obtain ⟨h1, h2⟩ := w.cells a u h
      exact ⟨h1, h2.move Sub.rfl' fun o z => by rw [upd_ne e]; exact z⟩
  · have e : a ≠ p := fun z => by subst z; rw [hp] at n; cases n
    rw [upd_ne e]; exact h
  · by_cases e : a = p
    · subst e; rw [upd_same]; simp
    · rw [upd_ne e]; exact h
  · by_cases e : a = p
    · subst e; rw [hp] at n; cases n
    · rw [updM_ne e] at h; exact absurd n h
theorem Wd.nomem {K : PySem.W.Frag} {M : Sto} {H G : Hp} {p : Addr} (w : Wd K M H G) (hp : H p = none) : M p = none := by
  cases q : M p with
  | none => rfl
  | some c => exact absurd hp (w.cells p c q).2.there
theorem de_lstM (h : DA X B es ga) : DE X B (.List es pos) (fun r M Ψ => ga r M fun ds M1 => ds.length ≤ sizeLine ∧ ∀ p, M1 p = none → Ψ (.ref p) (updM M1 p (.lst ds))) := by
  refine PE_imp (pe_lst h) fun σ H Q ⟨r, M, G, Ψ, R, h, k⟩ => ?_
  refine ⟨r, M, G, _, R, h, fun ds M1 vs H1 G1 ⟨z, q⟩ R1 s1 p1 => ⟨by rw [← p1.length]; exact z, fun p hp => ?_⟩⟩
  obtain ⟨w, s⟩ := cell_new (c := .lst ds) (o := .lst vs) R1.wd hp ⟨vs, upd_same, p1⟩
  exact k _ _ _ _ _ (q p (R1.wd.nomem hp)) (R1.go w s) s1 .ref

def Ok2 (K : PySem.W.Frag) (r : R2) (g : Sto → D → D → (D → Prop) → Prop) : Prop := ∀ (M : Sto) (H G : Hp) (x y : D) (v u : V) (φ : D → Prop) (Q : VK), Wd K M H G → Rep K G x v → Rep K G y u → g M x y φ →
  (∀ d w H' G', φ d → Grow H G H' G' → Rep K G' d w → Q w H') → r v u H Q
theorem tOp_ok {r : R2} {g : Sto → D → D → (D → Prop) → Prop} (ok : Ok2 X.K r g) {σ : L2.St} {H : Hp} {Q : VK} (h : lift X.K B (fun r M Ψ => fa r M fun x M1 => fb r M1 fun y M2 => g M2 x y fun z => Ψ z M2) σ H Q) : tOp r (lift X.K B fa) (lift X.K B fb) σ H Q := by
  obtain ⟨r, M, G, Ψ, R, h, k⟩ := h
  refine ⟨r, M, G, _, R, h, fun d M1 v H1 G1 q1 R1 s1 p1 => ?_⟩
  refine ⟨r, M1, G1, _, R1, q1, fun y M2 u H2 G2 q2 R2 s2 p2 => ?_⟩
  exact ok M2 H2 G2 _ _ _ _ _ _ R2.wd (p1.mono s2) p2 q2 fun d w H' G' f g p => k _ _ _ _ _ f (R2.grow g) ((s1.tr s2).tr g.gsub) p
theorem de_op {op : Operator} {r : R2} {g : Sto → D → D → (D → Prop) → Prop} (ho : OpR X (binaryOp op) r) (ok : Ok2 X.K r g) (ha : DE X B a fa) (hb : DE X B b fb) :
    DE X B (.BinOp a op b pos) (fun r M Ψ => fa r M fun x M1 => fb r M1 fun y M2 => g M2 x y fun z => Ψ z M2) := PE_imp (pe_op ho ha hb) fun σ H Q h => tOp_ok ok h
theorem de_cmp {op : CmpOp} {r : R2} {g : Sto → D → D → (D → Prop) → Prop} (ho : OpR X (compareOp op) r) (ok : Ok2 X.K r g) (hm : behindInMarks op b = false) (ha : DE X B a fa) (hb : DE X B b fb) :
    DE X B (.Compare a [op] [b] pos) (fun r M Ψ => fa r M fun x M1 => fb r M1 fun y M2 => g M2 x y fun z => Ψ z M2) := PE_imp (pe_cmpR ho ha hb hm) fun σ H Q h => tOp_ok ok h
end
end Z
namespace Z
open PySem PySem.Spec PyProof.Rows L2

def lstOf (M : Sto) : D → Option (List D)
  | .lst l => some l
  | .ref p => match M p with
    | some (.lst l) => some l
    | _ => none
  | _ => none
def tupOf : D → Option (List D)
  | .tup l => some l
  | .tpl l => some l
  | _ => none
section
variable {K : PySem.W.Frag} {M : Sto} {H G : Hp} {d : D} {v : V} {l : List D}
theorem lstOf_ref {a : Addr} (e : lstOf M (.ref a) = some l) : M a = some (.lst l) := by
  have e' : (match M a with | some (.lst l) => some l | _ => none) = some l := e
  split at e'
  · rename_i l' q
    rw [q, Option.some.inj e']
  · cases e'
theorem lst_rep (w : Wd K M H G) (r : Rep K G d v) (e : lstOf M d = some l) : ∃ a vs, v = .ref a ∧ Rd H a (.lst vs) ∧ RepL K G l vs := by
  cases r with
  | lst h r => cases e; exact ⟨_, _, rfl, w.sub.rd h, r⟩
  | ref =>
    obtain ⟨_, vs, h, r⟩ := w.cells _ _ (lstOf_ref e)
    exact ⟨_, vs, rfl, .inl h, r⟩
  | _ => cases e
theorem lst_rep' (w : Wd K M H G) (r : Rep K G d v) (e : lstOf M d = some l) : ∃ a vs, v = .ref a ∧ SqL K H a vs ∧ RepL K G l vs :=
  let ⟨a, vs, h1, h2, h3⟩ := lst_rep w r e
  ⟨a, vs, h1, .inl h2, h3⟩
theorem tup_rep (w : Wd K M H G) (r : Rep K G d v) (e : tupOf d = some l) : ∃ a vs, v = .ref a ∧ SqT K H a vs ∧ RepL K G l vs := by
  cases r with
  | tup h r => cases e; exact ⟨_, _, rfl, w.sub.sqT h, r⟩
  | tpl h r => cases e; exact ⟨_, _, rfl, w.sub.sqT (SqT.of h), r⟩
  | _ => cases e
theorem repL_bls {ns : List Bool} : ∀ {vs : List V}, RepL K G (ns.map D.bl) vs → vs = ns.map V.bl := by
  induction ns with
  | nil => intro vs r; cases r; rfl
  | cons n ns ih => intro vs r; cases r with | cons r1 r2 => cases r1; rw [ih r2]; rfl
end

def Dok (j : Int) : Prop := j ≠ 0 ∧ j.natAbs.log2 < 9000
theorem dok_of {j : Int} {n : Nat} (h0 : j ≠ 0) (h : j.natAbs < 2 ^ n) (hn : n ≤ 9000 := by decide) : Dok j := by
  refine ⟨h0, Nat.lt_of_lt_of_le ((Nat.log2_lt (by omega)).mpr h) hn⟩
theorem mok_of {i j : Int} {a b : Nat} (ha : i.natAbs < 2 ^ a) (hb : j.natAbs < 2 ^ b) (h0 : 0 < a := by decide) (h1 : 0 < b := by decide) (h : a + b ≤ 1000000 := by decide) : IntMulOk i j := CMulW.ok (wide_mul ha hb h0 h1 h)
def addD (M : Sto) (x y : D) (φ : D → Prop) : Prop := match x, y with
  | .int i, .int j => φ (.int (i + j))
  | .str a, .str b => a.length + b.length ≤ sizeLine ∧ φ (.str (a ++ b))
  | .tup a, .tup b => a.length + b.length ≤ sizeLine ∧ φ (.tup (a ++ b))
  | .int i, .bl b => φ (.int (i + b2i b))
  | x, y => ∃ a b, lstOf M x = some a ∧ lstOf M y = some b ∧ a.length + b.length ≤ sizeLine ∧ φ (.lst (a ++ b))
def subD (_ : Sto) (x y : D) (φ : D → Prop) : Prop := match x, y with
  | .int i, .int j => φ (.int (i - j))
  | _, _ => False
def mulD (_ : Sto) (x y : D) (φ : D → Prop) : Prop := match x, y with
  | .int i, .int j => IntMulOk i j ∧ φ (.int (i * j))
  | _, _ => False
def fdivD (_ : Sto) (x y : D) (φ : D → Prop) : Prop := match x, y with
  | .int i, .int j => Dok j ∧ φ (.int (i.fdiv j))
  | _, _ => False
def fmodD (_ : Sto) (x y : D) (φ : D → Prop) : Prop := match x, y with
  | .int i, .int j => j ≠ 0 ∧ φ (.int (i.fmod j))
  | _, _ => False
def powD (_ : Sto) (x y : D) (φ : D → Prop) : Prop := match x, y with
  | .int i, .int j => CPow i j ∧ φ (.int (i ^ j.toNat))
  | _, _ => False
section
variable {X : Cx}
theorem rd_lst {pins : List (Addr × Obj)} {σ : L2.St} {H : Hp} {s : Shared} {l : Addr} {xs : List V} (I : Inv X pins σ H s) (h : Rd H l (.lst xs)) : xs.length ≤ sizeLine ∧ ∃ (its : List Value) (n : Nat), Vals xs its ∧ xs.length = its.length ∧ s.heap.get? l = some { cls := .type "list", data := .seq its.toArray n } := by
  obtain ⟨z, its, n, r, e⟩ := h.ok I.hok
  exact ⟨z, its, n, r, r.length, e⟩
def rCatL : R2 := fun x y H Q => ∃ l b xs zs, x = .ref l ∧ y = .ref b ∧ Rd H l (.lst xs) ∧ Rd H b (.lst zs) ∧ xs.length + zs.length ≤ sizeLine ∧ ∀ p, H p = none → Q (.ref p) (upd H p (.lst (xs ++ zs)))
theorem op_catL : OpR X (binaryOp .Add) rCatL := by
  intro pins s σ H x y v u Q I rx ry h
  obtain ⟨l, b, xs, zs, rfl, rfl, hH, hB, hz, q⟩ := h
  cases rx
  cases ry
  obtain ⟨z, its, n, r, hl, e⟩ := rd_lst I hH
  obtain ⟨z2, its2, n2, r2, hl2, e2⟩ := rd_lst I hB
  refine PySem.P.add_list e e2 ?_ (by rw [List.size_toArray, List.size_toArray]; omega)
  have ea : its.toArray ++ its2.toArray = (its ++ its2).toArray := by simp
  rw [ea]
  exact ⟨.ref _, _, I.lnew (t' := s.toks) (r.append r2) (by rw [List.length_append]; omega), rfl, q _ I.fresh⟩
theorem op_fdivZ : OpR X (binaryOp .FloorDiv) (rI (fun _ j => Dok j) fun i j => .int (i.fdiv j)) := opI fun _ _ _ _ _ _ _ hc q => floordiv_int hc.1 q (.inl (PyProof.noPylong_of_log2 hc.2))
theorem op_mulZ : OpR X (binaryOp .Mult) (rI IntMulOk fun i j => .int (i * j)) := opI fun _ _ _ _ _ _ _ hc q => mul_int q hc

theorem ok_int (C : Int → Int → Prop) (g : Int → Int → V) (gd : Int → Int → D) (hg : ∀ K G i j, Rep K G (gd i j) (g i j)) (f : Sto → D → D → (D → Prop) → Prop) (hf : ∀ M x y φ, f M x y φ → ∃ i j, x = .int i ∧ y = .int j ∧ C i j ∧ φ (gd i j)) {K : PySem.W.Frag} : Ok2 K (rI C g) f := fun M H G x y v u φ Q w rx ry h k => by
  obtain ⟨i, j, rfl, rfl, c, q⟩ := hf _ _ _ _ h
  cases rx
  cases ry
  exact ⟨i, j, rfl, rfl, c, k _ _ _ _ q (Grow.refl w.sub) (hg _ _ _ _)⟩
theorem ok_sub {K : PySem.W.Frag} : Ok2 K (rI0 fun i j => .int (i - j)) subD := fun M H G x y v u φ Q w rx ry h k => by
  unfold subD at h
  split at h
  · cases rx; cases ry; exact ⟨_, _, rfl, rfl, k _ _ _ _ h (Grow.refl w.sub) .int⟩
  · exact h.elim
theorem ok_mul {K : PySem.W.Frag} : Ok2 K (rI IntMulOk fun i j => .int (i * j)) mulD := ok_int _ _ (fun i j => .int (i * j)) (fun _ _ _ _ => .int) _ fun M x y φ h => by
  unfold mulD at h
  split at h
  · exact ⟨_, _, rfl, rfl, h⟩
  · exact h.elim
theorem ok_fdiv {K : PySem.W.Frag} : Ok2 K (rI (fun _ j => Dok j) fun i j => .int (i.fdiv j)) fdivD := ok_int _ _ (fun i j => .int (i.fdiv j)) (fun _ _ _ _ => .int) _ fun M x y φ h => by
  unfold fdivD at h
  split at h
  · exact ⟨_, _, rfl, rfl, h⟩
  · exact h.elim
theorem ok_fmod {K : PySem.W.Frag} : Ok2 K (rI (fun _ j => j ≠ 0) fun i j => .int (i.fmod j)) fmodD := ok_int _ _ (fun i j => .int (i.fmod j)) (fun _ _ _ _ => .int) _ fun M x y φ h => by
  unfold fmodD at h
  split at h
  · exact ⟨_, _, rfl, rfl, h⟩
  · exact h.elim
theorem ok_pow {K : PySem.W.Frag} : Ok2 K (rI CPow fun i j => .int (i ^ j.toNat)) powD := ok_int _ _ (fun i j => .int (i ^ j.toNat)) (fun _ _ _ _ => .int) _ fun M x y φ h => by
  unfold powD at h
  split at h
  · exact ⟨_, _, rfl, rfl, h⟩
  · exact h.elim
def rAddA (K : PySem.W.Frag) : R2 := fun x y H Q => rI0 (fun i j => .int (i + j)) x y H Q ∨ (∃ i j, x = .str i ∧ y = .str j ∧ i.length + j.length ≤ sizeLine ∧ Q (.str (i ++ j)) H) ∨ rCatA K x y H Q ∨
  (∃ i k, x = .int i ∧ y = .bl k ∧ Q (.int (i + b2i k)) H) ∨ rCatL x y H Q
theorem op_addA : OpR X (binaryOp .Add) (rAddA X.K) := op_add.or (op_add_str.or (op_catA.or (op_add_ib.or op_catL)))
theorem ok_add {K : PySem.W.Frag} : Ok2 K (rAddA K) addD := fun M H G x y v u φ Q w rx ry h k => by
  unfold addD at h
  split at h
  · cases rx; cases ry; exact .inl ⟨_, _, rfl, rfl, k _ _ _ _ h (Grow.refl w.sub) .int⟩
  · cases rx; cases ry; exact .inr (.inl ⟨_, _, rfl, rfl, h.1, k _ _ _ _ h.2 (Grow.refl w.sub) .str⟩)
  · rename_i a b
    obtain ⟨p, vs, rfl, h1, r1⟩ := tup_rep w rx (l := a) rfl
    obtain ⟨q, us, rfl, h2, r2⟩ := tup_rep w ry (l := b) rfl
    refine .inr (.inr (.inl ⟨p, q, vs, us, rfl, rfl, h1, h2, by rw [← r1.length, ← r2.length]; exact h.1, fun e => ?_, fun _ e => ?_, fun _ _ p hp => ?_⟩))
    · subst e; cases r1
      exact k _ _ _ _ h.2 (Grow.refl w.sub) ry
    · subst e; cases r2
      rw [List.append_nil] at h
      exact k _ _ _ _ h.2 (Grow.refl w.sub) rx
    · have g : Grow H G (upd H p (.tup (vs ++ us))) (upd G p (.tup (vs ++ us))) := grow_upd w.sub hp
      exact k _ _ _ _ h.2 g (.tup (SqT.of upd_same) ((r1.app r2).mono g.gsub))
  · cases rx; cases ry; exact .inr (.inr (.inr (.inl ⟨_, _, rfl, rfl, k _ _ _ _ h (Grow.refl w.sub) .int⟩)))
  · obtain ⟨a, b, e1, e2, z, q⟩ := h
    obtain ⟨p, vs, rfl, h1, r1⟩ := lst_rep w rx e1
    obtain ⟨q', us, rfl, h2, r2⟩ := lst_rep w ry e2
    refine .inr (.inr (.inr (.inr ⟨p, q', vs, us, rfl, rfl, h1, h2, by rw [← r1.length, ← r2.length]; exact z, fun p hp => ?_⟩)))
    have g : Grow H G (upd H p (.lst (vs ++ us))) (upd G p (.lst (vs ++ us))) := grow_upd w.sub hp
    exact k _ _ _ _ q g (.lst (.inl upd_same) ((r1.app r2).mono g.gsub))
end
section
variable {X : Cx} {B : Bs} {pos : Pos} {a b e : Expr} {es : List Expr} {fa fb : DTE} {ga : DTA}
theorem de_add (ha : DE X B a fa) (hb : DE X B b fb) : DE X B (.BinOp a .Add b pos) (fun r M Ψ => fa r M fun x M1 => fb r M1 fun y M2 => addD M2 x y fun z => Ψ z M2) := de_op op_addA ok_add ha hb
theorem de_sub (ha : DE X B a fa) (hb : DE X B b fb) : DE X B (.BinOp a .Sub b pos) (fun r M Ψ => fa r M fun x M1 => fb r M1 fun y M2 => subD M2 x y fun z => Ψ z M2) := de_op op_sub ok_sub ha hb
theorem de_mul (ha : DE X B a fa) (hb : DE X B b fb) : DE X B (.BinOp a .Mult b pos) (fun r M Ψ => fa r M fun x M1 => fb r M1 fun y M2 => mulD M2 x y fun z => Ψ z M2) := de_op op_mulZ ok_mul ha hb
theorem de_fdiv (ha : DE X B a fa) (hb : DE X B b fb) : DE X B (.BinOp a .FloorDiv b pos) (fun r M Ψ => fa r M fun x M1 => fb r M1 fun y M2 => fdivD M2 x y fun z => Ψ z M2) := de_op op_fdivZ ok_fdiv ha hb
theorem de_fmod (ha : DE X B a fa) (hb : DE X B b fb) : DE X B (.BinOp a .Mod b pos) (fun r M Ψ => fa r M fun x M1 => fb r M1 fun y M2 => fmodD M2 x y fun z => Ψ z M2) := de_op op_modN ok_fmod ha hb
theorem de_pow (ha : DE X B a fa) (hb : DE X B b fb) : DE X B (.BinOp a .Pow b pos) (fun r M Ψ => fa r M fun x M1 => fb r M1 fun y M2 => powD M2 x y fun z => Ψ z M2) := de_op op_pow ok_pow ha hb
theorem de_neg (ha : DE X B a fa) : DE X B (.UnaryOp .USub a pos) (fun r M Ψ => fa r M fun x M1 => match x with | .int i => Ψ (.int (-i)) M1 | _ => False) :=
  PE_imp (pe_un un_neg ha) fun σ H Q ⟨r, M, G, Ψ, R, h, k⟩ => by
    refine ⟨r, M, G, _, R, h, fun d M1 v H1 G1 q1 R1 s1 p1 => ?_⟩
    cases p1 with
    | int => exact ⟨_, rfl, k _ _ _ _ _ q1 R1 s1 .int⟩
    | _ => exact q1.elim
end
end Z
namespace Z
open PySem PySem.Spec PyProof.Rows L2

mutual
def pd : D → Option PyData
  | .non => some .none
  | .bl b => some (.bool b)
  | .int i => some (.int i)
  | .str x => some (.str x)
  | .tup l => (pdL l).map .tuple
  | .lst l => (pdL l).map .list
  | .tpl l => (pdL l).map .tuple
  | _ => none
def pdL : List D → Option (List PyData)
  | [] => some []
  | d :: r => match pd d, pdL r with
    | some x, some xs => some (x :: xs)
    | _, _ => none
end
def toPd (M : Sto) (d : D) : Option PyData := match lstOf M d with
  | some l => (pdL l).map .list
  | none => pd d
section
variable {K : PySem.W.Frag} {G H : Hp}
mutual
theorem dp_of (s : Sub G H) : ∀ (d : D) (v : V) (p : PyData), Rep K G d v → pd d = some p → Dp K H v p
  | .non, _, _, r, e => by cases r; cases e; exact .non
  | .bl b, _, _, r, e => by cases r; cases e; exact .bl b
  | .int i, _, _, r, e => by cases r; cases e; exact .int i
  | .str x, _, _, r, e => by cases r; cases e; exact .str x
  | .tup l, _, _, r, e => by
    cases r with
    | tup h r =>
      obtain ⟨q, e1, e2⟩ := Option.map_eq_some_iff.mp (show (pdL l).map PyData.tuple = some _ from e)
      subst e2
      exact .tup (s.sqT h) (dp_all s l _ _ r e1)
  | .lst l, _, _, r, e => by
    cases r with
    | lst h r =>
      obtain ⟨q, e1, e2⟩ := Option.map_eq_some_iff.mp (show (pdL l).map PyData.list = some _ from e)
      subst e2
      exact .lst (.inl (s.rd h)) (dp_all s l _ _ r e1)
  | .tpl l, _, _, r, e => by
    cases r with
    | tpl h r =>
      obtain ⟨q, e1, e2⟩ := Option.map_eq_some_iff.mp (show (pdL l).map PyData.tuple = some _ from e)
      subst e2
      exact .tup (s.sqT (SqT.of h)) (dp_all s l _ _ r e1)
  | .ty _, _, _, _, e => by cases e
  | .ref _, _, _, _, e => by cases e
  | .dic _, _, _, _, e => by cases e
  | .dlk _, _, _, _, e => by cases e
  | .fn _, _, _, _, e => by cases e
  | .obj _ _, _, _, _, e => by cases e
theorem dp_all (s : Sub G H) : ∀ (l : List D) (vs : List V) (ps : List PyData), RepL K G l vs → pdL l = some ps → DpAll K H vs ps
  | [], _, _, r, e => by cases r; cases e; exact .nil
  | d :: l, _, _, r, e => by
    cases r with
    | cons r1 r2 =>
      unfold pdL at e
      split at e
      · rename_i x xs e1 e2
        cases e
        exact .cons (dp_of s d _ _ r1 e1) (dp_all s l _ _ r2 e2)
      · cases e
end
theorem toPd_dp {M : Sto} {d : D} {v : V} {p : PyData} (w : Wd K M H G) (r : Rep K G d v) (e : toPd M d = some p) : Dp K H v p := by
  unfold toPd at e
  split at e
  · rename_i l q
    obtain ⟨a, vs, rfl, h, r2⟩ := lst_rep' w r q
    obtain ⟨ps, e1, e2⟩ := Option.map_eq_some_iff.mp e
    subst e2
    exact .lst h (dp_all w.sub l _ _ r2 e1)
  · exact dp_of w.sub d v p r e
end
def eqvD (M : Sto) (x y : D) (φ : Bool → Prop) : Prop := match x, y with
  | .int i, .int j => φ (decide (i = j))
  | .str a, .str b => φ (decide (a = b))
  | .bl a, .bl b => φ (decide (a = b))
  | x, y => ∃ p q, toPd M x = some p ∧ toPd M y = some q ∧ SeqAt.shaped p = true ∧ SeqAt.shaped q = true ∧ φ (PyData.eqv p q)
@[irreducible] def eqD (M : Sto) (x y : D) (φ : D → Prop) : Prop := eqvD M x y fun b => φ (.bl b)
@[irreducible] def neD (M : Sto) (x y : D) (φ : D → Prop) : Prop := eqvD M x y fun b => φ (.bl (!b))
def cmpD (p : Int → Int → Bool) (_ : Sto) (x y : D) (φ : D → Prop) : Prop := match x, y with
  | .int i, .int j => φ (.bl (p i j))
  | _, _ => False
abbrev ltD := cmpD fun i j => decide (i < j)
abbrev leD := cmpD fun i j => decide (i ≤ j)
abbrev gtD := cmpD fun i j => decide (j < i)
abbrev geD := cmpD fun i j => decide (j ≤ i)
def isN (d : D) : Bool := match d with
  | .non => true
  | _ => false
def isD (_ : Sto) (x y : D) (φ : D → Prop) : Prop := match y with
  | .non => φ (.bl (isN x))
  | _ => False
def isntD (_ : Sto) (x y : D) (φ : D → Prop) : Prop := match y with
  | .non => φ (.bl (!isN x))
  | _ => False
def flatD (d : D) : Bool := match d with
  | .non => true
  | .bl _ => true
  | .int _ => true
  | .str _ => true
  | _ => false
def inQ (M : Sto) (x y : D) (φ : Bool → Prop) : Prop := match y with
  | .str z => ∃ c, x = .str ⟨#[c]⟩ ∧ φ (decide (c ∈ z.cps.toList))
  | .tup l => ∃ p ps, pd x = some p ∧ pdL l = some ps ∧ l.all flatD = true ∧
      flatD x = true ∧ φ (ps.any fun z => PyData.eqv z p)
  | y => ∃ l p ps, lstOf M y = some l ∧ toPd M x = some p ∧ pdL l = some ps ∧ SeqAt.shaped p = true ∧ SeqAt.shaped (.list ps) = true ∧ φ (ps.any fun z => PyData.eqv z p)
def inD (M : Sto) (x y : D) (φ : D → Prop) : Prop := inQ M x y fun b => φ (.bl b)
def ninD (M : Sto) (x y : D) (φ : D → Prop) : Prop := inQ M x y fun b => φ (.bl (!b))

section
variable {K : PySem.W.Frag} {M : Sto} {H G : Hp}
theorem repN {d : D} {v : V} (r : Rep K G d v) : decide (v = .non) = isN d := by
  cases r <;> simp [isN]
def rEqA (K : PySem.W.Frag) : R2 := fun x y H Q => rEq x y H Q ∨ rEqD K x y H Q
def rNeA (K : PySem.W.Frag) : R2 := fun x y H Q => rNe x y H Q ∨ rNeD K x y H Q
theorem ok_eq : Ok2 K (rEqA K) eqD := fun M H G x y v u φ Q w rx ry h k => by
  unfold eqD eqvD at h
  split at h
  · cases rx; cases ry
    exact .inl ⟨rfl, k _ _ _ _ h (Grow.refl w.sub) (by rw [show decide (V.int _ = V.int _) = _ from dec_int, Bool.beq_eq_decide_eq]; exact .bl)⟩
  · cases rx; cases ry
    exact .inl ⟨rfl, k _ _ _ _ h (Grow.refl w.sub) (by rw [show decide (V.str _ = V.str _) = _ from dec_str, Bool.beq_eq_decide_eq]; exact .bl)⟩
  · cases rx; cases ry
    exact .inl ⟨rfl, k _ _ _ _ h (Grow.refl w.sub) (by rw [show decide (V.bl _ = V.bl _) = _ from dec_bl, Bool.beq_eq_decide_eq]; exact .bl)⟩
  · obtain ⟨p, q, e1, e2, s1, s2, h⟩ := h
    exact .inr ⟨p, q, toPd_dp w rx e1, toPd_dp w ry e2, s1, s2, k _ _ _ _ h (Grow.refl w.sub) .bl⟩
theorem ok_ne : Ok2 K (rNeA K) neD := fun M H G x y v u φ Q w rx ry h k => by
  unfold neD eqvD at h
  split at h
  · cases rx; cases ry
    exact .inl ⟨rfl, k _ _ _ _ h (Grow.refl w.sub) (by rw [show decide (V.int _ = V.int _) = _ from dec_int, Bool.beq_eq_decide_eq]; exact .bl)⟩
  · cases rx; cases ry
    exact .inl ⟨rfl, k _ _ _ _ h (Grow.refl w.sub) (by rw [show decide (V.str _ = V.str _) = _ from dec_str, Bool.beq_eq_decide_eq]; exact .bl)⟩
  · cases rx; cases ry
    exact .inl ⟨rfl, k _ _ _ _ h (Grow.refl w.sub) (by rw [show decide (V.bl _ = V.bl _) = _ from dec_bl, Bool.beq_eq_decide_eq]; exact .bl)⟩
  · obtain ⟨p, q, e1, e2, s1, s2, h⟩ := h
    exact .inr ⟨p, q, toPd_dp w rx e1, toPd_dp w ry e2, s1, s2, k _ _ _ _ h (Grow.refl w.sub) .bl⟩
theorem ok_cmp (p : Int → Int → Bool) : Ok2 K (rI0 fun i j => .bl (p i j)) (cmpD p) := fun M H G x y v u φ Q w rx ry h k => by
  unfold cmpD at h
  split at h
  · cases rx; cases ry; exact ⟨_, _, rfl, rfl, k _ _ _ _ h (Grow.refl w.sub) .bl⟩
  · exact h.elim
theorem ok_is : Ok2 K (fun x y H Q => y = .non ∧ Q (.bl (decide (x = .non))) H) isD := fun M H G x y v u φ Q w rx ry h k => by
  unfold isD at h
  split at h
  · cases ry
    exact ⟨rfl, by rw [repN rx]; exact k _ _ _ _ h (Grow.refl w.sub) .bl⟩
  · exact h.elim
theorem ok_isnt : Ok2 K (fun x y H Q => y = .non ∧ Q (.bl (!decide (x = .non))) H) isntD := fun M H G x y v u φ Q w rx ry h k => by
  unfold isntD at h
  split at h
  · cases ry
    exact ⟨rfl, by rw [repN rx]; exact k _ _ _ _ h (Grow.refl w.sub) .bl⟩
  · exact h.elim
end
theorem pd_flat {K : PySem.W.Frag} {G : Hp} {d : D} {v : V} {p : PyData} (r : Rep K G d v) (e : pd d = some p) (f : flatD d = true) : flatV v = true := by
  cases r <;> first | rfl | exact absurd f Bool.false_ne_true
theorem eqv_flat {K : PySem.W.Frag} {G : Hp} {d c : D} {v u : V} {p q : PyData} (r : Rep K G d v) (r' : Rep K G c u) (e : pd d = some p) (e' : pd c = some q) (f : flatD d = true)
    (f' : flatD c = true) : eqV v u = PyData.eqv p q := by
  cases r <;> first | exact absurd f Bool.false_ne_true | (cases r' <;> first | exact absurd f' Bool.false_ne_true | (cases e; cases e'; simp [eqV, PyData.eqv]))
theorem any_flat {K : PySem.W.Frag} {G : Hp} {c : D} {u : V} {q : PyData} (r' : Rep K G c u) (e' : pd c = some q) (f' : flatD c = true) :
    ∀ {l : List D} {vs : List V} {ps : List PyData}, RepL K G l vs → pdL l = some ps → l.all flatD = true →
      vs.all flatV = true ∧ inV u vs = ps.any fun z => PyData.eqv z q
  | _, _, _, .nil, e, f => by cases e; exact ⟨rfl, rfl⟩
  | d :: l, v :: vs, ps, .cons r1 r2, e, f => by
    unfold pdL at e
    split at e
    · rename_i x xs e1 e2
      cases e
      rw [List.all_cons, Bool.and_eq_true] at f
      obtain ⟨h1, h2⟩ := any_flat r' e' f' r2 e2 f.2
      refine ⟨by rw [List.all_cons, Bool.and_eq_true]; exact ⟨pd_flat r1 e1 f.1, h1⟩, ?_⟩
      unfold inV at h2 ⊢
      rw [List.any_cons, List.any_cons, h2, eqv_flat r1 r' e1 e' f.1 f']
    · cases e
section
variable {X : Cx}
def rInA (K : PySem.W.Frag) : R2 := fun x y H Q => (∃ (c : Nat) (z : Str), x = .str ⟨#[c]⟩ ∧ y = .str z ∧ Q (.bl (decide (c ∈ z.cps.toList))) H) ∨ rIn K false x y H Q ∨ rInD K x y H Q
def rNinA (K : PySem.W.Frag) : R2 := fun x y H Q => (∃ (c : Nat) (z : Str), x = .str ⟨#[c]⟩ ∧ y = .str z ∧ Q (.bl (!decide (c ∈ z.cps.toList))) H) ∨ rIn K true x y H Q ∨ rNotInD K x y H Q
theorem ok_in {K : PySem.W.Frag} : Ok2 K (rInA K) inD := fun M H G x y v u φ Q w rx ry h k => by
  unfold inD inQ at h
  split at h
  · obtain ⟨c, rfl, h⟩ := h
    cases rx; cases ry
    exact .inl ⟨c, _, rfl, rfl, k _ _ _ _ h (Grow.refl w.sub) .bl⟩
  · rename_i l
    obtain ⟨p, ps, e1, e2, f, f', h⟩ := h
    obtain ⟨a, vs, rfl, h1, r1⟩ := tup_rep w ry (l := l) rfl
    obtain ⟨z1, z2⟩ := any_flat rx e1 f' r1 e2 f
    refine .inr (.inl ⟨a, vs, rfl, .inr h1, pd_flat rx e1 f', z1, ?_⟩)
    show Q (.bl (inV v vs)) H
    rw [z2]
    exact k _ _ _ _ h (Grow.refl w.sub) .bl
  · obtain ⟨l, p, ps, e0, e1, e2, s1, s2, h⟩ := h
    obtain ⟨a, vs, rfl, h1, r1⟩ := lst_rep' w ry e0
    exact .inr (.inr ⟨p, ps, toPd_dp w rx e1, .lst h1 (dp_all w.sub l _ _ r1 e2), s1, s2, k _ _ _ _ h (Grow.refl w.sub) .bl⟩)
theorem ok_nin {K : PySem.W.Frag} : Ok2 K (rNinA K) ninD := fun M H G x y v u φ Q w rx ry h k => by
  unfold ninD inQ at h
  split at h
  · obtain ⟨c, rfl, h⟩ := h
    cases rx; cases ry
    exact .inl ⟨c, _, rfl, rfl, k _ _ _ _ h (Grow.refl w.sub) .bl⟩
  · rename_i l
    obtain ⟨p, ps, e1, e2, f, f', h⟩ := h
    obtain ⟨a, vs, rfl, h1, r1⟩ := tup_rep w ry (l := l) rfl
    obtain ⟨z1, z2⟩ := any_flat rx e1 f' r1 e2 f
    refine .inr (.inl ⟨a, vs, rfl, .inr h1, pd_flat rx e1 f', z1, ?_⟩)
    show Q (.bl (!inV v vs)) H
    rw [z2]
    exact k _ _ _ _ h (Grow.refl w.sub) .bl
  · obtain ⟨l, p, ps, e0, e1, e2, s1, s2, h⟩ := h
    obtain ⟨a, vs, rfl, h1, r1⟩ := lst_rep' w ry e0
    exact .inr (.inr ⟨p, ps, toPd_dp w rx e1, .lst h1 (dp_all w.sub l _ _ r1 e2), s1, s2, k _ _ _ _ h (Grow.refl w.sub) .bl⟩)
theorem room65 {k : Nat} {A : Around} (r : Room k A) : A.units + 65 < cLine := by have := r.un; omega
end

section
variable {X : Cx} {B : Bs} {pos : Pos} {a b c e : Expr} {es : List Expr} {fa fb fc : DTE} {ga : DTA} {ta tb : DTT} {k : Nat}
abbrev bin2 (g : Sto → D → D → (D → Prop) → Prop) (fa fb : DTE) : DTE := fun r M Ψ => fa r M fun x M1 => fb r M1 fun y M2 => g M2 x y fun z => Ψ z M2
theorem de_eq (hr : Room k X.A) (ha : DE X B a fa) (hb : DE X B b fb) : DE X B (.Compare a [.Eq] [b] pos) (bin2 eqD fa fb) := de_cmp (op_eq.or (op_eqD hr.units)) ok_eq (nomark _) ha hb
theorem de_lt (ha : DE X B a fa) (hb : DE X B b fb) : DE X B (.Compare a [.Lt] [b] pos) (bin2 ltD fa fb) := de_cmp op_lt (ok_cmp _) (nomark _) ha hb
theorem de_gt (ha : DE X B a fa) (hb : DE X B b fb) : DE X B (.Compare a [.Gt] [b] pos) (bin2 gtD fa fb) := de_cmp op_gt (ok_cmp _) (nomark _) ha hb
theorem de_is (ha : DE X B a fa) (hb : DE X B b fb) : DE X B (.Compare a [.Is] [b] pos) (bin2 isD fa fb) := de_cmp op_isN ok_is (nomark _) ha hb
theorem de_isnt (ha : DE X B a fa) (hb : DE X B b fb) : DE X B (.Compare a [.IsNot] [b] pos) (bin2 isntD fa fb) := de_cmp op_notN ok_isnt (nomark _) ha hb
theorem de_in (hr : Room k X.A) (ha : DE X B a fa) (hb : DE X B b fb) (hm : behindInMarks .In b = false := by rfl) : DE X B (.Compare a [.In] [b] pos) (bin2 inD fa fb) := de_cmp (op_in_sign.or (op_in_seq.or (op_inD (room65 hr)))) ok_in hm ha hb
theorem de_nin (hr : Room k X.A) (ha : DE X B a fa) (hb : DE X B b fb) (hm : behindInMarks .NotIn b = false := by rfl) : DE X B (.Compare a [.NotIn] [b] pos) (bin2 ninD fa fb) := de_cmp (op_notIn_sign.or (op_notIn_seq.or (op_notInD (room65 hr)))) ok_nin hm ha hb

@[irreducible] def blD (k : Bool → Prop) (d : D) : Prop := match d with
  | .bl b => k b
  | _ => False
theorem tTest_ok (σ : L2.St) (H : Hp) (Q : Bool → Hp → Prop) (h : liftT X.K B (fun r M Ψ => fa r M fun x M1 => blD (fun b => Ψ b M1) x) σ H Q) : tTest (lift X.K B fa) σ H Q := by
  obtain ⟨r, M, G, Ψ, R, h, k⟩ := h
  refine ⟨r, M, G, _, R, h, fun d M1 v H1 G1 q1 R1 s1 p1 => ?_⟩
  unfold blD at q1
  cases p1 with
  | bl => exact ⟨_, rfl, k _ _ _ _ q1 R1 s1⟩
  | _ => exact q1.elim
theorem PE_test {t : TE} (h : PE X e t) (he : ∀ whole, isTrue e X.env whole = (do let v ← whole; standAt e.pos; holding [v] (truthy v)) := by intro _; rfl) : PT X e (tTest t) := by
  refine ⟨fun pins s σ H Q I hw => ?_⟩
  refine isTrue_plain (thn (h.run pins s σ H _ I hw) fun v s1 ⟨x, H1, I1, r1, q1⟩ => ?_) (he _)
  obtain ⟨d, rfl, q⟩ := q1
  cases r1
  exact wpAny_truthy_bool ⟨H1, I1, q⟩
theorem dt_val (h : DE X B e fa) (he : ∀ whole, isTrue e X.env whole = (do let v ← whole; standAt e.pos; holding [v] (truthy v)) := by intro _; rfl) : DT X B e (fun r M Ψ => fa r M fun x M1 => blD (fun b => Ψ b M1) x) :=
  PT_imp (PE_test h he) tTest_ok
theorem tOp_okT {r : R2} {g : Sto → D → D → (D → Prop) → Prop} (ok : Ok2 X.K r g) (σ : L2.St) (H : Hp) (Q : Bool → Hp → Prop) (h : liftT X.K B (fun r M Ψ => fa r M fun x M1 => fb r M1 fun y M2 => g M2 x y fun z => blD (fun b => Ψ b M2) z) σ H Q) :
    tTest (tOp r (lift X.K B fa) (lift X.K B fb)) σ H Q := by
  obtain ⟨r, M, G, Ψ, R, h, k⟩ := h
  refine ⟨r, M, G, _, R, h, fun d M1 v H1 G1 q1 R1 s1 p1 => ?_⟩
  refine ⟨r, M1, G1, _, R1, q1, fun y M2 u H2 G2 q2 R2 s2 p2 => ?_⟩
  refine ok M2 H2 G2 _ _ _ _ _ _ R2.wd (p1.mono s2) p2 q2 fun d w H' G' f g p => ?_
  unfold blD at f
  cases p with
  | bl => exact ⟨_, rfl, k _ _ _ _ f (R2.grow g) ((s1.tr s2).tr g.gsub)⟩
  | _ => exact f.elim
abbrev bin2T (g : Sto → D → D → (D → Prop) → Prop) (fa fb : DTE) : DTT := fun r M Ψ => fa r M fun x M1 => fb r M1 fun y M2 => g M2 x y fun z => blD (fun b => Ψ b M2) z
theorem dt_cmp {op : CmpOp} {r : R2} {g : Sto → D → D → (D → Prop) → Prop} (ho : OpR X (compareOp op) r) (ok : Ok2 X.K r g) (hm : behindInMarks op b = false) (ha : DE X B a fa) (hb : DE X B b fb) :
    DT X B (.Compare a [op] [b] pos) (bin2T g fa fb) := PT_imp (pt_cmpR ho ha hb hm) (tOp_okT ok)
theorem dt_eq (hr : Room k X.A) (ha : DE X B a fa) (hb : DE X B b fb) : DT X B (.Compare a [.Eq] [b] pos) (bin2T eqD fa fb) := dt_cmp (op_eq.or (op_eqD hr.units)) ok_eq (nomark _) ha hb
theorem dt_ne (hr : Room k X.A) (ha : DE X B a fa) (hb : DE X B b fb) : DT X B (.Compare a [.NotEq] [b] pos) (bin2T neD fa fb) := dt_cmp (op_ne.or (op_neD hr.units)) ok_ne (nomark _) ha hb
theorem dt_lt (ha : DE X B a fa) (hb : DE X B b fb) : DT X B (.Compare a [.Lt] [b] pos) (bin2T ltD fa fb) := dt_cmp op_lt (ok_cmp _) (nomark _) ha hb
theorem dt_le (ha : DE X B a fa) (hb : DE X B b fb) : DT X B (.Compare a [.LtE] [b] pos) (bin2T leD fa fb) := dt_cmp op_le (ok_cmp _) (nomark _) ha hb
theorem dt_gt (ha : DE X B a fa) (hb : DE X B b fb) : DT X B (.Compare a [.Gt] [b] pos) (bin2T gtD fa fb) := dt_cmp op_gt (ok_cmp _) (nomark _) ha hb
theorem dt_is (ha : DE X B a fa) (hb : DE X B b fb) : DT X B (.Compare a [.Is] [b] pos) (bin2T isD fa fb) := dt_cmp op_isN ok_is (nomark _) ha hb
theorem dt_isnt (ha : DE X B a fa) (hb : DE X B b fb) : DT X B (.Compare a [.IsNot] [b] pos) (bin2T isntD fa fb) := dt_cmp op_notN ok_isnt (nomark _) ha hb
theorem dt_nin (hr : Room k X.A) (ha : DE X B a fa) (hb : DE X B b fb) (hm : behindInMarks .NotIn b = false := by rfl) : DT X B (.Compare a [.NotIn] [b] pos) (bin2T ninD fa fb) := dt_cmp (op_notIn_sign.or (op_notIn_seq.or (op_notInD (room65 hr)))) ok_nin hm ha hb
theorem dt_not (ha : DT X B a ta) : DT X B (.UnaryOp .Not a pos) (fun r M Ψ => ta r M fun b M1 => Ψ (!b) M1) :=
  PT_imp (pt_not ha) fun σ H Q ⟨r, M, G, Ψ, R, h, k⟩ => ⟨r, M, G, _, R, h, fun b M' H' G' q R' s => k _ _ _ _ q R' s⟩
theorem dw_and1 (ha : DT X B a ta) : DW X B (.BoolOp .And [a] pos) ta := pw_and1 ha
theorem dw_or1 (ha : DT X B a ta) : DW X B (.BoolOp .Or [a] pos) ta := pw_or1 ha
theorem dw_and (ha : DT X B a ta) (hb : DW X B (.BoolOp .And (b :: es) pos) tb) : DW X B (.BoolOp .And (a :: b :: es) pos) (fun r M Ψ => ta r M fun c M1 => if c = true then tb r M1 Ψ else Ψ false M1) :=
  PW_imp (pw_and ha hb) fun σ H Q ⟨r, M, G, Ψ, R, h, k⟩ => by
    refine ⟨r, M, G, _, R, h, fun c M1 H1 G1 q R1 s1 => ?_⟩
    cases c with
    | true => exact ⟨r, M1, G1, Ψ, R1, q, fun b M' H' G' q R' s => k _ _ _ _ q R' (s1.tr s)⟩
    | false => exact k _ _ _ _ q R1 s1
theorem dw_or (ha : DT X B a ta) (hb : DW X B (.BoolOp .Or (b :: es) pos) tb) : DW X B (.BoolOp .Or (a :: b :: es) pos) (fun r M Ψ => ta r M fun c M1 => if c = true then Ψ true M1 else tb r M1 Ψ) :=
  PW_imp (pw_or ha hb) fun σ H Q ⟨r, M, G, Ψ, R, h, k⟩ => by
    refine ⟨r, M, G, _, R, h, fun c M1 H1 G1 q R1 s1 => ?_⟩
    cases c with
    | false => exact ⟨r, M1, G1, Ψ, R1, q, fun b M' H' G' q R' s => k _ _ _ _ q R' (s1.tr s)⟩
    | true => exact k _ _ _ _ q R1 s1
theorem de_and1 {op} (ha : DE X B a fa) : DE X B (.BoolOp op [a] pos) fa := pe_one ha
theorem de_and (ha : DE X B a fa) (hb : DE X B (.BoolOp .And (b :: es) pos) fb) : DE X B (.BoolOp .And (a :: b :: es) pos) (fun r M Ψ => fa r M fun x M1 => blD (fun c => if c = true then fb r M1 Ψ else Ψ (.bl false) M1) x) :=
  PE_imp (pe_and ha hb) fun σ H Q ⟨r, M, G, Ψ, R, h, k⟩ => by
    refine ⟨r, M, G, _, R, h, fun d M1 v H1 G1 q R1 s1 p1 => ?_⟩
    unfold blD at q
    cases p1 with
    | @bl c =>
      refine ⟨c, rfl, ?_⟩
      cases c with
      | true => exact ⟨r, M1, G1, Ψ, R1, q, fun d M' v H' G' q R' s p => k _ _ _ _ _ q R' (s1.tr s) p⟩
      | false => exact k _ _ _ _ _ q R1 s1 .bl
    | _ => exact q.elim
theorem de_or (ha : DE X B a fa) (hb : DE X B (.BoolOp .Or (b :: es) pos) fb) : DE X B (.BoolOp .Or (a :: b :: es) pos) (fun r M Ψ => fa r M fun x M1 => blD (fun c => if c = true then Ψ (.bl true) M1 else fb r M1 Ψ) x) :=
  PE_imp (pe_or ha hb) fun σ H Q ⟨r, M, G, Ψ, R, h, k⟩ => by
    refine ⟨r, M, G, _, R, h, fun d M1 v H1 G1 q R1 s1 p1 => ?_⟩
    unfold blD at q
    cases p1 with
    | @bl c =>
      refine ⟨c, rfl, ?_⟩
      cases c with
      | false => exact ⟨r, M1, G1, Ψ, R1, q, fun d M' v H' G' q R' s p => k _ _ _ _ _ q R' (s1.tr s) p⟩
      | true => exact k _ _ _ _ _ q R1 s1 .bl
    | _ => exact q.elim
theorem de_not (ha : DE X B a fa) : DE X B (.UnaryOp .Not a pos) (fun r M Ψ => fa r M fun x M1 => blD (fun c => Ψ (.bl (!c)) M1) x) :=
  PE_imp (pe_not ha) fun σ H Q ⟨r, M, G, Ψ, R, h, k⟩ => by
    refine ⟨r, M, G, _, R, h, fun d M1 v H1 G1 q R1 s1 p1 => ?_⟩
    unfold blD at q
    cases p1 with
    | bl => exact ⟨_, rfl, k _ _ _ _ _ q R1 s1 .bl⟩
    | _ => exact q.elim
theorem de_if (hc : DT X B c ta) (ha : DE X B a fa) (hb : DE X B b fb) : DE X B (.IfExp c a b pos) (fun r M Ψ => ta r M fun t M1 => if t = true then fa r M1 Ψ else fb r M1 Ψ) :=
  PE_imp (pe_ifExp hc ha hb) fun σ H Q ⟨r, M, G, Ψ, R, h, k⟩ => by
    refine ⟨r, M, G, _, R, h, fun t M1 H1 G1 q R1 s1 => ?_⟩
    cases t with
    | true => exact ⟨r, M1, G1, Ψ, R1, q, fun d M' v H' G' q R' s p => k _ _ _ _ _ q R' (s1.tr s) p⟩
    | false => exact ⟨r, M1, G1, Ψ, R1, q, fun d M' v H' G' q R' s p => k _ _ _ _ _ q R' (s1.tr s) p⟩
end
end Z
namespace Z
open PySem PySem.Spec PyProof.Rows L2

theorem Rel.set {K : PySem.W.Frag} {B : Bs} {r : En} {M : Sto} {σ : L2.St} {H G : Hp} {d : D} {v : V} (R : Rel K B r M σ H G) (p : Rep K G d v) (i : Nat) : Rel K B (r.set i (some d)) M (σ.set i (some v)) H G where
  wd := R.wd
  len := by rw [List.length_set, List.length_set]; exact R.len
  slots := fun j e h => by
    by_cases hj : i = j
    · subst hj
      by_cases hi : i < r.length
      · rw [List.getElem?_set_self hi] at h
        cases h
        exact ⟨v, by rw [List.getElem?_set_self (by rw [← R.len]; exact hi)], p⟩
      · rw [List.getElem?_eq_none (by simpa using hi)] at h; cases h
    · rw [List.getElem?_set_ne hj] at h ⊢
      exact R.slots j e h
  sin := R.sin
theorem Rel.unset {K : PySem.W.Frag} {B : Bs} {r : En} {M : Sto} {σ : L2.St} {H G : Hp} (R : Rel K B r M σ H G) (i : Nat) (o : Option V) : Rel K B (r.set i none) M (σ.set i o) H G where
  wd := R.wd
  len := by rw [List.length_set, List.length_set]; exact R.len
  slots := fun j e h => by
    by_cases hj : i = j
    · subst hj
      by_cases hi : i < r.length
      · rw [List.getElem?_set_self hi] at h; cases h
      · rw [List.getElem?_eq_none (by simpa using hi)] at h; cases h
    · rw [List.getElem?_set_ne hj] at h ⊢
      exact R.slots j e h
  sin := R.sin

def Wk (M0 : Sto) (r : En) (M : Sto) (r' : En) (M' : Sto) : Prop := ∀ (K : PySem.W.Frag) (B : Bs) (σ : L2.St) (H G : Hp), B.M = M0 → Rel K B r M σ H G → ∃ G', Rel K B r' M' σ H G' ∧ Sub G G'
theorem Wk.refl {M0 : Sto} {r : En} {M : Sto} : Wk M0 r M r M := fun _ _ _ _ G _ R => ⟨G, R, Sub.rfl'⟩
theorem Wk.trans {M0 : Sto} {r r1 r2 : En} {M M1 M2 : Sto} (a : Wk M0 r M r1 M1) (b : Wk M0 r1 M1 r2 M2) : Wk M0 r M r2 M2 := fun K B σ H G e R => by
  obtain ⟨G1, R1, s1⟩ := a K B σ H G e R
  obtain ⟨G2, R2, s2⟩ := b K B σ H G1 e R1
  exact ⟨G2, R2, s1.tr s2⟩
theorem Wk.slots {M0 : Sto} {r r' : En} {M : Sto} (hl : r'.length = r.length) (h : ∀ (i : Nat) d, r'[i]? = some (some d) → r[i]? = some (some d)) : Wk M0 r M r' M := fun K B σ H G _ R =>
  ⟨G, ⟨R.wd, hl.trans R.len, fun i d e => R.slots i d (h i d e), R.sin⟩, Sub.rfl'⟩
def Cl (M0 : Sto) (P : En → Sto → Prop) (r : En) (M : Sto) : Prop := ∃ r' M', Wk M0 r M r' M' ∧ P r' M'
theorem Cl.of {M0 : Sto} {P : En → Sto → Prop} {r : En} {M : Sto} (h : P r M) : Cl M0 P r M := ⟨r, M, Wk.refl, h⟩

mutual
def sb (g : Addr → D) : D → D
  | .non => .non
  | .bl b => .bl b
  | .int i => .int i
  | .str x => .str x
  | .ty n => .ty n
  | .ref a => g a
  | .tup l => .tup (sbL g l)
  | .lst l => .lst (sbL g l)
  | .lk l => .lk (sbL g l)
  | .dic l => .dic (sbD g l)
  | .dlk l => .dlk (sbD g l)
  | .obj C fs => .obj C (sbF g fs)
  | .fn Q => .fn Q
  | .tpl l => .tpl (sbL g l)
def sbL (g : Addr → D) : List D → List D
  | [] => []
  | d :: r => sb g d :: sbL g r
def sbD (g : Addr → D) : List (D × D) → List (D × D)
  | [] => []
  | (c, d) :: r => (c, sb g d) :: sbD g r
def sbF (g : Addr → D) : List (Str × D) → List (Str × D)
  | [] => []
  | (c, d) :: r => (c, sb g d) :: sbF g r
end
section
variable {K : PySem.W.Frag} {G : Hp} {g : Addr → D}
mutual
theorem Rep.sb (hg : ∀ a, Rep K G (g a) (.ref a)) : ∀ {d : D} {v : V}, Rep K G d v → Rep K G (sb g d) v
  | _, _, .non => .non
  | _, _, .bl => .bl
  | _, _, .int => .int
  | _, _, .str => .str
  | _, _, .ty => .ty
  | _, _, .ref => hg _
  | _, _, .fn h q => .fn h q
  | _, _, .tpl h r => .tpl h (r.sb hg)
  | _, _, .tup h r => .tup h (r.sb hg)
  | _, _, .lst h r => .lst h (r.sb hg)
  | _, _, .lk h r => .lk h (r.sb hg)
  | _, _, .dic h r => .dic h (r.sb hg)
  | _, _, .dlk h r => .dlk h (r.sb hg)
  | _, _, .dit h r => .dit h (r.sb hg)
  | _, _, .obj h r => .obj h (r.sb hg)
theorem RepL.sb (hg : ∀ a, Rep K G (g a) (.ref a)) : ∀ {d : List D} {v : List V}, RepL K G d v → RepL K G (sbL g d) v
  | _, _, .nil => .nil
  | _, _, .cons h r => .cons (h.sb hg) (r.sb hg)
theorem RepF.sb (hg : ∀ a, Rep K G (g a) (.ref a)) : ∀ {d : List (Str × D)} {v : List (Str × V)}, RepF K G d v → RepF K G (sbF g d) v
  | _, _, .nil => .nil
  | _, _, .cons h r => .cons (h.sb hg) (r.sb hg)
theorem RepD.sb (hg : ∀ a, Rep K G (g a) (.ref a)) : ∀ {d : List (D × D)} {v : List (Key × V)}, RepD K G d v → RepD K G (sbD g d) v
  | _, _, .nil => .nil
  | _, _, .cons e h r => .cons e (h.sb hg) (r.sb hg)
theorem RepT.sb (hg : ∀ a, Rep K G (g a) (.ref a)) : ∀ {d : List (D × D)} {v : List (List Key × V)}, RepT K G d v → RepT K G (sbD g d) v
  | _, _, .nil => .nil
  | _, _, .cons e h r => .cons e (h.sb hg) (r.sb hg)
end
end
def sbC (g : Addr → D) (a : Addr) : Option Cell → D
  | some (.lst l) => .lst (sbL g l)
  | some (.dic l) => .dic (sbD g l)
  | some (.dit l) => .dic (sbD g l)
  | some (.frd _ _ _) => .ref a
  | some (.ins C fs) => .obj C (sbF g fs)
  | some (.tab _) => .ref a
  | some (.raw _) => .ref a
  | none => .ref a
def fzA (M0 M : Sto) : Nat → Addr → D
  | 0, a => .ref a
  | n + 1, a => match M0 a with
    | some _ => .ref a
    | none => sbC (fzA M0 M n) a (M a)
def fz (M0 M : Sto) (n : Nat) (d : D) : D := sb (fzA M0 M n) d
def rs (M0 M : Sto) : Sto := fun a => match M0 a with
  | some _ => M a
  | none => none
def frzG (M0 M : Sto) (H G : Hp) : Hp := fun a => match G a with
  | some o => some o
  | none => match M0 a, M a with
    | none, some _ => H a
    | _, _ => none
section
variable {K : PySem.W.Frag} {M0 M : Sto} {H G : Hp}
theorem frzG_sub : Sub G (frzG M0 M H G) := fun a o h => by unfold frzG; rw [h]
theorem frzG_at {a : Addr} (w : Wd K M H G) (h0 : M0 a = none) {c : Cell} (h : M a = some c) : frzG M0 M H G a = H a := by
  unfold frzG
  rw [(w.cells a c h).1, h0, h]
theorem rep_frz (w : Wd K M H G) : ∀ (n : Nat) (a : Addr), Rep K (frzG M0 M H G) (fzA M0 M n a) (.ref a)
  | 0, a => .ref
  | n + 1, a => by
    have ih := rep_frz w n
    unfold fzA
    split
    · exact .ref
    · rename_i h0
      cases q : M a with
      | none => exact .ref
      | some c =>
        have hat := (w.cells a c q).2
        have e := frzG_at w h0 q
        cases c with
        | lst l =>
          obtain ⟨vs, h, r⟩ := hat
          exact .lst (.inl (e.trans h)) ((r.mono frzG_sub).sb ih)
        | dic l => obtain ⟨vs, h, r⟩ := hat; exact .dic (e.trans h) ((r.mono frzG_sub).sb ih)
        | dit l => obtain ⟨vs, h, r⟩ := hat; exact .dit (e.trans h) ((r.mono frzG_sub).sb ih)
        | frd o kvs l => exact .ref
        | raw o => exact .ref
        | ins C fs =>
          obtain ⟨dx, vs, h, r⟩ := hat
          exact .obj (e.trans h) ((r.mono frzG_sub).sb ih)
        | tab q => exact .ref
theorem frz_end {H0 G0 : Hp} (w : Wd K M H G) (s : Since H0 G0 M0 M H G) : Wd K (rs M0 M) H (frzG M0 M H G) ∧ Since H0 G0 M0 (rs M0 M) H (frzG M0 M H G) := by
  refine ⟨⟨fun a o h => ?_, fun a c h => ?_⟩, ⟨s.keep, s.stay, s.gsub.tr frzG_sub, fun a h n => ?_, fun a h n => ?_⟩⟩
  · unfold frzG at h
    split at h
    · rename_i o' q; cases h; exact w.sub _ _ q
    · split at h
      · exact h
      · cases h
  · unfold rs at h
    split at h
    · rename_i x q
      obtain ⟨h1, h2⟩ := w.cells a c h
      refine ⟨?_, h2.move frzG_sub fun _ z => z⟩
      unfold frzG
      rw [h1, q]
    · cases h
  · unfold frzG at h
    split at h
    · rename_i o q; exact s.gnew a (by rw [q]; simp) n
    · split at h
      · rename_i q1 q2; exact s.mnew a (by rw [q2]; simp) q1
      · exact absurd rfl h
  · unfold rs at h
    rw [n] at h
    exact absurd rfl h
def frz1 (p : Addr) (H G : Hp) : Hp := fun a => if a = p then H a else G a
end

theorem EkOk.of {K : PySem.W.Frag} {B : Bs} {f : DTS} {D' : Ends} {σ : L2.St} {H : Hp} (h : liftS K B f D' σ H) : ∃ r M G E, Rel K B r M σ H G ∧ f E r M ∧ EkOk K B G E D' := h
theorem EkOk.to {K : PySem.W.Frag} {B : Bs} {f : DTS} {D' : Ends} {σ : L2.St} {H : Hp} {r : En} {M : Sto} {G : Hp} {E : Ek} (R : Rel K B r M σ H G) (h : f E r M) (k : EkOk K B G E D') : liftS K B f D' σ H := ⟨r, M, G, E, R, h, k⟩
section
variable {X : Cx} {B : Bs} {pos : Pos} {e c : Expr} {es : List Expr} {fa : DTE} {ta : DTT} {st : Stmt} {ss body els : List Stmt} {f g : DTS}
theorem dss_nil : DSs X B [] (fun E r M => E.nx r M) := PSs_imp pss_nil fun D' σ H h => let ⟨r, M, G, E, R, q, k⟩ := EkOk.of h; k.nx _ _ _ _ _ q R Sub.rfl'
theorem dss_cons (h1 : DS X B st f) (h2 : DSs X B ss g) : DSs X B (st :: ss) (fun E r M => f { E with nx := g E } r M) := PSs_imp (pss_cons h1 h2) fun D' σ H h => by
  obtain ⟨r, M, G, E, R, q, k⟩ := EkOk.of h
  exact EkOk.to R q ⟨fun r' M' σ' H' G' q' R' s => EkOk.to R' q' (k.mono s), k.rt, k.bk, k.ct⟩
theorem dss_one (h1 : DS X B st f) : DSs X B [st] f := pss_one h1
theorem ds_cont : DS X B (.Continue pos) (fun E r M => E.ct r M) := PS_imp ps_continue fun D' σ H h => let ⟨r, M, G, E, R, q, k⟩ := EkOk.of h; k.ct _ _ _ _ _ q R Sub.rfl'
theorem ds_expr (he : DE X B e fa) (hs : swapsWith e none pos.line X.env = pure false := by rfl) : DS X B (.Expr e pos) (fun E r M => fa r M fun _ M1 => E.nx r M1) := PS_imp (ps_expr he hs) fun D' σ H h => by
  obtain ⟨r, M, G, E, R, q, k⟩ := EkOk.of h
  exact ⟨r, M, G, _, R, q, fun d M' v H' G' q' R' s p => k.nx _ _ _ _ _ q' R' s⟩
theorem ds_ret (he : DE X B e fa) : DS X B (.Return (some e) pos) (fun E r M => fa r M fun d M1 => E.rt d M1) := PS_imp (ps_ret he) fun D' σ H h => by
  obtain ⟨r, M, G, E, R, q, k⟩ := EkOk.of h
  exact ⟨r, M, G, _, R, q, fun d M' v H' G' q' R' s p => k.rt _ _ _ _ _ _ _ q' R' p⟩
theorem ds_if (hc : DT X B c ta) (ha : DSs X B body f) (hb : DSs X B els g) : DS X B (.If c body els pos) (fun E r M => ta r M fun b M1 => if b = true then f E r M1 else g E r M1) := PS_imp (ps_if hc ha hb) fun D' σ H h => by
  obtain ⟨r, M, G, E, R, q, k⟩ := EkOk.of h
  refine ⟨r, M, G, _, R, q, fun b M' H' G' q' R' s => ?_⟩
  cases b with
  | true => exact EkOk.to R' q' (k.mono s)
  | false => exact EkOk.to R' q' (k.mono s)
abbrev DTGs := List D → En → Sto → (En → Sto → Prop) → Prop
def liftGs (K : PySem.W.Frag) (B : Bs) (f : DTGs) : TGs := fun vs σ H Q => ∃ ds r M G Ψ, Rel K B r M σ H G ∧ RepL K G ds vs ∧ f ds r M Ψ ∧ ∀ r' M' σ' H' G', Ψ r' M' → Rel K B r' M' σ' H' G' → Sub G G' → Q σ' H'
abbrev DGs (X : Cx) (B : Bs) (es : List Expr) (f : DTGs) : Prop := PGs X es (liftGs X.K B f)
theorem PGs_imp {X : Cx} {e : List Expr} {t t' : TGs} (h : PGs X e t) (i : ∀ v σ H Q, t' v σ H Q → t v σ H Q) : PGs X e t' := ⟨fun pins s σ H vs us Q I r q => h.run pins s σ H vs us Q I r (i _ _ _ _ q)⟩
theorem dg_name {i : Nat} {x : Str} (hN : X.N.Nodup) (hi : X.N[i]? = some x := by rfl) (hx : Loc X.env.scope x := by first | exact Or.inl rfl | exact Or.inr rfl)
    (hf : X.fn x = true ∨ X.env.scope.names.lookup x = some .local := by first | exact .inl rfl | exact .inr rfl | assumption) : DG X B (.Name x pos) (fun d r M Ψ => Ψ (r.set i (some d)) M) :=
  PG_imp (pg_name hN hi hx hf) fun v σ H Q ⟨d, r, M, G, Ψ, R, p, h, k⟩ => k _ _ _ _ _ h (R.set p i) Sub.rfl'
theorem dgs_nil : DGs X B [] (fun ds r M Ψ => ds = [] ∧ Ψ r M) := PGs_imp pgs_nil fun vs σ H Q ⟨ds, r, M, G, Ψ, R, p, ⟨e, h⟩, k⟩ => by
  subst e; cases p
  exact ⟨rfl, k _ _ _ _ _ h R Sub.rfl'⟩
theorem dgs_cons {f : DTG} {fs : DTGs} (h1 : DG X B e f) (h2 : DGs X B es fs) (hs : (assignEach (e :: es) X.env).map (·.2) = assign e X.env :: (assignEach es X.env).map (·.2) := by rfl) :
    DGs X B (e :: es) (fun ds r M Ψ => match ds with | d :: l => f d r M fun r1 M1 => fs l r1 M1 Ψ | [] => False) := PGs_imp (pgs_cons h1 h2 hs) fun vs σ H Q ⟨ds, r, M, G, Ψ, R, p, h, k⟩ => by
  cases p with
  | nil => exact h.elim
  | cons p1 p2 => exact ⟨_, _, rfl, _, r, M, G, _, R, p1, h, fun r' M' σ' H' G' q R' s => ⟨_, r', M', G', Ψ, R', p2.mono s, q, fun _ _ _ _ _ q R s' => k _ _ _ _ _ q R (s.tr s')⟩⟩
def tupN (n : Nat) (f : DTGs) : DTG := fun d r M Ψ => match d with
  | .tup l => l.length = n ∧ f l r M Ψ
  | .tpl l => l.length = n ∧ f l r M Ψ
  | _ => False
theorem dg_tup {k n : Nat} {f : DTGs} (hc : X.calm = true) (h : DGs X B es f) (hn : (assignEach es X.env).length = n := by rfl) (hf : List.findIdx? (fun x => x.fst) (assignEach es X.env) = none := by rfl) : DG X B (.Tuple es k pos) (tupN n f) :=
  PG_imp (pg_tup hc h hn hf) fun v σ H Q ⟨d, r, M, G, Ψ, R, p, h, k⟩ => by
    cases p with
    | tup h1 r1 => exact ⟨_, _, rfl, R.wd.sub.sqT h1, by rw [← r1.length]; exact h.1, _, r, M, G, Ψ, R, r1, h.2, k⟩
    | tpl h1 r1 => exact ⟨_, _, rfl, R.wd.sub.sqT (SqT.of h1), by rw [← r1.length]; exact h.1, _, r, M, G, Ψ, R, r1, h.2, k⟩
    | _ => exact h.elim
theorem ds_asg {tg : Expr} {g : DTG} (he : DE X B e fa) (hg : DG X B tg g) (hs : swapsWithSole [tg] e pos.line X.env = pure false := by rfl) (hw : swappedStores [tg] e X.env = pure none := by rfl)
    (h1 : (assignEach [tg] X.env).map (·.2) = [assign tg X.env] := by rfl) : DS X B (.Assign [tg] e pos) (fun E r M => fa r M fun d M1 => g d r M1 E.nx) := PS_imp (ps_asg he hg hs hw h1) fun D' σ H h => by
  obtain ⟨r, M, G, E, R, q, k⟩ := EkOk.of h
  exact ⟨r, M, G, _, R, q, fun d M' v H' G' q' R' s p => ⟨d, r, M', G', _, R', p, q', fun _ _ _ _ _ q R t => k.nx _ _ _ _ _ q R (s.tr t)⟩⟩
theorem ds_set {i : Nat} {x : Str} {pos' : Pos} (hN : X.N.Nodup) (he : DE X B e fa) (hi : X.N[i]? = some x := by rfl) (hx : Loc X.env.scope x := by first | exact Or.inl rfl | exact Or.inr rfl)
    (hs : swapsWith e (some (.Name x pos')) pos.line X.env = pure false := by rfl) (hf : X.fn x = true ∨ X.env.scope.names.lookup x = some .local := by first | exact .inl rfl | exact .inr rfl | assumption) :
    DS X B (.Assign [.Name x pos'] e pos) (fun E r M => fa r M fun d M1 => E.nx (r.set i (some d)) M1) := PS_imp (ps_set hN hi hx he hs hf) fun D' σ H h => by
  obtain ⟨r, M, G, E, R, q, k⟩ := EkOk.of h
  exact ⟨r, M, G, _, R, q, fun d M' v H' G' q' R' s p => k.nx _ _ _ _ _ q' (R'.set p i) s⟩
theorem ds_par {i j : Nat} {x y : Str} {a b : Expr} {ga : DTA} {px py pt : Pos} {kt k2 : Nat} {pt2 : Pos} (hc : X.calm = true) (hN : X.N.Nodup) (ha : DA X B [a, b] ga) (hi : X.N[i]? = some x := by rfl) (hj : X.N[j]? = some y := by rfl) (hij : i ≠ j := by decide)
    (hx : X.env.scope.names.lookup x = some .local := by rfl) (hy : X.env.scope.names.lookup y = some .local := by rfl)
    (hw : swappedStores [.Tuple [.Name x px, .Name y py] kt pt] (.Tuple [a, b] k2 pt2) X.env = pure (some [x, y]) := by rfl) (hs : swapsWithSole [.Tuple [.Name x px, .Name y py] kt pt] (.Tuple [a, b] k2 pt2) pos.line X.env = pure false := by rfl) :
    DS X B (.Assign [.Tuple [.Name x px, .Name y py] kt pt] (.Tuple [a, b] k2 pt2) pos) (fun E r M => ga r M fun ds M1 => match ds with | [d, d'] => E.nx ((r.set i (some d)).set j (some d')) M1 | _ => False) :=
  PS_imp (ps_par hc hN hi hj hij hx hy ha hw hs) fun D' σ H h => by
    obtain ⟨r, M, G, E, R, q, k⟩ := EkOk.of h
    refine ⟨r, M, G, _, R, q, fun ds M' vs H' G' q' R' s p => ?_⟩
    split at q'
    · cases p with
      | cons p1 p2 => cases p2 with
        | cons p2 p3 => cases p3; exact ⟨_, _, rfl, k.nx _ _ _ _ _ q' ((R'.set p1 i).set p2 j) s⟩
    · exact q'.elim
theorem ds_aug {i : Nat} {x : Str} {op : Operator} {ti : TIp} {g : Sto → D → D → (D → Prop) → Prop} {pos' : Pos} (ho : PIp X op ti) (ok : Ok2 X.K ti g) (hN : X.N.Nodup) (he : DE X B e fa) (hi : X.N[i]? = some x := by rfl) (hx : Loc X.env.scope x := by first | exact Or.inl rfl | exact Or.inr rfl)
    (hf : X.fn x = true ∨ X.env.scope.names.lookup x = some .local := by first | exact .inl rfl | exact .inr rfl | assumption) :
    DS X B (.AugAssign (.Name x pos') op e pos) (fun E r M => getS r i fun d => fa r M fun d' M1 => g M1 d d' fun z => E.nx (r.set i (some z)) M1) := PS_imp (ps_aug hN hi hx he ho hf) fun D' σ H h => by
  obtain ⟨r, M, G, E, R, q, k⟩ := EkOk.of h
  obtain ⟨d, e1, q⟩ := getS_some q
  obtain ⟨v, h1, h2⟩ := R.slots _ _ e1
  refine ⟨v, h1, r, M, G, _, R, q, fun d' M' v' H' G' q' R' s p => ?_⟩
  exact ok M' H' G' _ _ _ _ _ _ R'.wd (h2.mono s) p q' fun z w H2 G2 f g p2 => k.nx _ _ _ _ _ f ((R'.grow g).set p2 i) (s.tr g.gsub)

theorem ds_while (hp : PassesOwn (model X.prog X.w) X.A X.env X.xe) (hc : DT X B c ta) (hb : DSs X B body f) : DS X B (.While c body [] pos) (fun E r M => ∃ (Iv : En → Sto → Prop) (μ : En → Sto → Nat), Cl B.M Iv r M ∧ ∀ r M, Iv r M →
    ta r M fun b M1 => if b = true then f { E with nx := Cl B.M fun r' M' => Iv r' M' ∧ μ r' M' < μ r M, ct := Cl B.M fun r' M' => Iv r' M' ∧ μ r' M' < μ r M, bk := E.nx } r M1 else E.nx r M1) := PS_imp (ps_while hp hc hb) fun D' σ H h => by
  obtain ⟨r, M, G, E, R, ⟨Iv, μ, ⟨r0, M0, w0, i0⟩, turn⟩, k⟩ := EkOk.of h
  obtain ⟨G0, R0, s0⟩ := w0 _ _ _ _ _ rfl R
  refine ⟨fun n σ H => ∃ r M G1, Rel X.K B r M σ H G1 ∧ Sub G G1 ∧ Iv r M ∧ n = μ r M, ⟨_, r0, M0, G0, R0, s0, i0, rfl⟩, ?_⟩
  rintro n σ1 H1 ⟨r1, M1, G1, R1, s1, i1, rfl⟩
  refine ⟨r1, M1, G1, _, R1, turn r1 M1 i1, fun b M' H' G' q' R' s => ?_⟩
  cases b with
  | false => exact k.nx _ _ _ _ _ q' R' (s1.tr s)
  | true =>
    refine ⟨fun σ2 H2 => ∃ r2 M2 G2, Rel X.K B r2 M2 σ2 H2 G2 ∧ Sub G G2 ∧ Iv r2 M2 ∧ μ r2 M2 < μ r1 M1, fun σ2 H2 ⟨r2, M2, G2, R2, s2, i2, l2⟩ => ⟨_, l2, r2, M2, G2, R2, s2, i2, rfl⟩, EkOk.to R' q' ?_⟩
    have cl : ∀ r' M' σ' H' G2, Cl B.M (fun r' M' => Iv r' M' ∧ μ r' M' < μ r1 M1) r' M' → Rel X.K B r' M' σ' H' G2 → Sub G' G2 → ∃ r2 M2 G2, Rel X.K B r2 M2 σ' H' G2 ∧ Sub G G2 ∧ Iv r2 M2 ∧ μ r2 M2 < μ r1 M1 := fun r' M' σ' H' G2 ⟨r3, M3, w3, i3, l3⟩ R3 t => by
      obtain ⟨G3, R3, t3⟩ := w3 _ _ _ _ _ rfl R3
      exact ⟨r3, M3, G3, R3, ((s1.tr s).tr t).tr t3, i3, l3⟩
    exact ⟨cl, k.rt, fun _ _ _ _ _ q R t => k.nx _ _ _ _ _ q R ((s1.tr s).tr t), cl⟩
def Yld (K : PySem.W.Frag) (B : Bs) (J : It) (G0 : Hp) (xs : List D) (S : Sto → Prop) : Prop := ∀ i r M σ H G, Rel K B r M σ H G → Sub G0 G → S M →
  (i < xs.length → J.go i H ∧ ∀ x H', J.yld i H x H' → ∃ G' d, Grow H G H' G' ∧ xs[i]? = some d ∧ Rep K G' d x) ∧ (xs.length ≤ i → J.stop i H)
abbrev DTI := En → Sto → (List D → (Sto → Prop) → Sto → Prop) → Prop
def liftI (K : PySem.W.Frag) (B : Bs) (f : DTI) : TI := fun σ H Q => ∃ r M G Ψ, Rel K B r M σ H G ∧ f r M Ψ ∧ ∀ xs S M' J H' G', Ψ xs S M' → Rel K B r M' σ H' G' → Sub G G' → Yld K B J G' xs S → Q J H'
abbrev DI (X : Cx) (B : Bs) (tg iter : Expr) (f : DTI) : Prop := PI X tg iter (liftI X.K B f)
theorem PI_imp {X : Cx} {tg iter : Expr} {t t' : TI} (h : PI X tg iter t) (i : ∀ σ H Q, t' σ H Q → t σ H Q) : PI X tg iter t' := ⟨fun pins s σ H Q I q => h.run pins s σ H Q I (i _ _ _ q)⟩
@[irreducible] def forD (M0 : Sto) (wi : DTI) (g : DTG) (f : DTS) : DTS := fun E r M => wi r M fun xs S M1 => ∃ Iv : Nat → En → Sto → Prop, Cl M0 (Iv 0) r M1 ∧ (∀ i r M, Iv i r M → S M) ∧
  (∀ i d r M, xs[i]? = some d → Iv i r M → g d r M fun r' M' => f { E with nx := Cl M0 (Iv (i + 1)), ct := Cl M0 (Iv (i + 1)), bk := E.nx } r' M') ∧ ∀ r M, Iv xs.length r M → E.nx r M
theorem ds_for {tg iter : Expr} {wi : DTI} {g : DTG} (hp : PassesOwn (model X.prog X.w) X.A X.env X.xe) (hc : X.calm = true) (hi : DI X B tg iter wi) (hg : DG X B tg g) (hb : DSs X B body f) (h1 : ∀ x, foldedSetIterable iter X.env x = pure x := by intro _; rfl) :
    DS X B (.For tg iter body [] pos) (forD B.M wi g f) := PS_imp (ps_for hp hc hi hg hb h1) fun D' σ H h => by
  obtain ⟨r, M, G, E, R, q, k⟩ := EkOk.of h
  unfold forD at q
  refine ⟨r, M, G, _, R, q, fun xs S M' J H' G' ⟨Iv, ⟨r0, M0, w0, i0⟩, hS, turn, fin⟩ R' s y => ?_⟩
  obtain ⟨G0, R0, s0⟩ := w0 _ _ _ _ _ rfl R'
  refine ⟨fun i m σ H => ∃ r M G, Rel X.K B r M σ H G ∧ Sub G' G ∧ Iv i r M ∧ i ≤ xs.length ∧ m = xs.length - i, ⟨_, r0, M0, G0, R0, s0, i0, Nat.zero_le _, rfl⟩, ?_⟩
  rintro i m σ1 H1 ⟨r1, M1, G1, R1, s1, i1, hi, rfl⟩
  obtain ⟨y1, y2⟩ := y i r1 M1 σ1 H1 G1 R1 s1 (hS _ _ _ i1)
  by_cases hl : i < xs.length
  · obtain ⟨y3, y4⟩ := y1 hl
    refine .inr ⟨y3, fun σ2 H2 => ∃ r2 M2 G2, Rel X.K B r2 M2 σ2 H2 G2 ∧ Sub G' G2 ∧ Iv (i + 1) r2 M2, fun σ2 H2 ⟨r2, M2, G2, R2, s2, i2⟩ => ⟨_, by omega, r2, M2, G2, R2, s2, i2, hl, rfl⟩, fun x H2 hy => ?_⟩
    obtain ⟨G2, d, g2, hd, p⟩ := y4 x H2 hy
    have R2 := R1.grow g2
    have s2 := g2.gsub
    refine ⟨d, r1, M1, G2, _, R2, p, turn i d r1 M1 hd i1, fun r3 M3 σ3 H3 G3 q3 R3 s3 => EkOk.to R3 q3 ?_⟩
    have t3 : Sub G' G3 := (s1.tr s2).tr s3
    have cl : ∀ r' M' σ' H' G2, Cl B.M (Iv (i + 1)) r' M' → Rel X.K B r' M' σ' H' G2 → Sub G3 G2 → ∃ r2 M2 G2, Rel X.K B r2 M2 σ' H' G2 ∧ Sub G' G2 ∧ Iv (i + 1) r2 M2 := fun r' M' σ' H' G2 ⟨r4, M4, w4, i4⟩ R4 t => by
      obtain ⟨G4, R4, t4⟩ := w4 _ _ _ _ _ rfl R4
      exact ⟨r4, M4, G4, R4, (t3.tr t).tr t4, i4⟩
    exact ⟨cl, k.rt, fun _ _ _ _ _ q R t => k.nx _ _ _ _ _ q R ((s.tr t3).tr t), cl⟩
  · have e : i = xs.length := by omega
    subst e
    exact .inl ⟨y2 (Nat.le_refl _), k.nx _ _ _ _ _ (fin _ _ i1) R1 (s.tr s1)⟩
theorem di_list {l : Expr} {tg : Expr} (hl : DE X B l fa) : DI X B tg l (fun r M Ψ => fa r M fun d M1 => ∃ xs, lstOf M1 d = some xs ∧ Ψ xs (fun M => lstOf M d = some xs) M1) := PI_imp (pi_list hl) fun σ H Q ⟨r, M, G, Ψ, R, h, k⟩ => by
  refine ⟨r, M, G, _, R, h, fun d M1 v H1 G1 ⟨xs, e, q⟩ R1 s1 p => ?_⟩
  obtain ⟨a, vs, rfl, h1, r1⟩ := lst_rep' R1.wd p e
  refine ⟨a, rfl, ⟨vs, h1⟩, k xs _ M1 _ H1 G1 q R1 s1 fun i r2 M2 σ2 H2 G2 R2 t2 e2 => ?_⟩
  obtain ⟨a', vs', ea, h2, r2⟩ := lst_rep' R2.wd (p.mono t2) e2
  cases ea
  have hl := r2.length
  refine ⟨fun hi => ?_, fun hi => ⟨vs', h2, by omega⟩⟩
  obtain ⟨d', hd⟩ : ∃ d', xs[i]? = some d' := ⟨xs[i], by simp [hi]⟩
  obtain ⟨x, hx, px⟩ := r2.get hd
  refine ⟨⟨vs', x, h2, hx⟩, fun y H' hy => ?_⟩
  obtain ⟨e3, hy⟩ := hy
  subst e3
  have q3 := hy vs' h2
  rw [hx] at q3
  cases q3
  exact ⟨G2, d', Grow.refl R2.wd.sub, hd, px⟩
theorem di_tup {l : Expr} {tg : Expr} (hl : DE X B l fa) : DI X B tg l (fun r M Ψ => fa r M fun d M1 => ∃ xs, tupOf d = some xs ∧ Ψ xs (fun _ => True) M1) := PI_imp (pi_tup hl) fun σ H Q ⟨r, M, G, Ψ, R, h, k⟩ => by
  refine ⟨r, M, G, _, R, h, fun d M1 v H1 G1 ⟨xs, e, q⟩ R1 s1 p => ?_⟩
  obtain ⟨a, vs, rfl, h1, r1⟩ := tup_rep R1.wd p e
  refine ⟨a, rfl, ⟨vs, h1⟩, k xs _ M1 _ H1 G1 q R1 s1 fun i r2 M2 σ2 H2 G2 R2 t2 _ => ?_⟩
  obtain ⟨a', vs', ea, h2, r2⟩ := tup_rep R2.wd (p.mono t2) e
  cases ea
  have hl := r2.length
  refine ⟨fun hi => ?_, fun hi => ⟨vs', h2, by omega⟩⟩
  obtain ⟨d', hd⟩ : ∃ d', xs[i]? = some d' := ⟨xs[i], by simp [hi]⟩
  obtain ⟨x, hx, px⟩ := r2.get hd
  refine ⟨⟨vs', x, h2, hx⟩, fun y H' hy => ?_⟩
  obtain ⟨e3, hy⟩ := hy
  subst e3
  have q3 := hy vs' h2
  rw [hx] at q3
  cases q3
  exact ⟨G2, d', Grow.refl R2.wd.sub, hd, px⟩
def rngD (lo : Int) (n : Nat) : List D := (List.range n).map fun i => .int (lo + (i : Nat))
theorem rng_get {lo : Int} {n i : Nat} (h : i < n) : (rngD lo n)[i]? = some (.int (lo + i)) := by
  unfold rngD
  rw [List.getElem?_map, List.getElem?_range h]; rfl
theorem rng_len {lo : Int} {n : Nat} : (rngD lo n).length = n := by unfold rngD; rw [List.length_map, List.length_range]
theorem yld_rng {K : PySem.W.Frag} {G : Hp} {lo : Int} {n : Nat} : Yld K B (Itr lo n) G (rngD lo n) (fun _ => True) := fun i r M σ H G R s _ => by
  rw [rng_len]
  exact ⟨fun hi => ⟨hi, fun x H' ⟨e, ex⟩ => by subst e ex; exact ⟨G, _, Grow.refl R.wd.sub, rng_get hi, .int⟩⟩, fun hi => hi⟩
def fitR (i : Int) : Prop := -(2 ^ 62) ≤ i ∧ i < 2 ^ 62
theorem di_range1 {a : Expr} {tg : Expr} {ga : DTA} {p : Pos} (hm : X.mg "range" = none) (ha : DA X B [a] ga) (hg : Gl X "range" := by rfl) (hs : starEach [a] X.env = [(false, eval a X.env)] := by rfl) :
    DI X B tg (.Call (.Name "range" p) [a] [] pos) (fun r M Ψ => ga r M fun ds M1 => match ds with | [.int j] => fitR j ∧ Ψ (rngD 0 j.toNat) (fun _ => True) M1 | _ => False) := PI_imp (pi_range1 hg hm ha hs) fun σ H Q ⟨r, M, G, Ψ, R, h, k⟩ => by
  refine ⟨r, M, G, _, R, h, fun ds M1 vs H1 G1 q R1 s1 p => ?_⟩
  split at q
  · cases p with
    | cons p1 p2 => cases p1; cases p2; exact ⟨_, rfl, q.1.1, q.1.2, k _ _ _ _ _ _ q.2 R1 s1 yld_rng⟩
  · exact q.elim
end
end Z
namespace Z
open PySem PySem.Spec PyProof.Rows L2

abbrev XD := Addr × List (Str × D)
structure RepX (K : PySem.W.Frag) (G H : Hp) (x : XD) (cls : Value) (d : Option Addr) : Prop where
  cls : cls = .ref x.1
  own : ∃ dd fvs, d = some dd ∧ H dd = some (.xd fvs) ∧ RepF K G x.2 fvs
def wOf (K : PySem.W.Frag) (B : Bs) (Ξ : XD → En → Sto → Prop) : WX := fun cls d σ H => ∃ x r M G, Ξ x r M ∧ Rel K B r M σ H G ∧ RepX K G H x cls d
structure Zx (X : Cx) (B : Bs) (Ξ : XD → En → Sto → Prop) : Prop where
  tk : Takes X (wOf X.K B Ξ)
  po : PassesOwn (model X.prog X.w) X.A X.env X.xe

abbrev Ct := List D → Sto → (D → Sto → Prop) → (XD → Sto → Prop) → Prop
def spC (K : PySem.W.Frag) (n : Nat) (c : Ct) : Sp := fun vs H Q E => vs.length = n ∧ ∃ ds G M Ψ Ξ, Wd K M H G ∧ RepL K G ds vs ∧ c ds M Ψ Ξ ∧
  (∀ d M' v H' G', Ψ d M' → Wd K M' H' G' → Since H G M M' H' G' → Rep K G' d v → Q v H') ∧ ∀ x M' H' G' cls dd, Ξ x M' → Wd K M' H' G' → Since H G M M' H' G' → RepX K G' H' x cls dd → E cls dd H'

inductive FzR (M0 M' : Sto) : D → D → Sto → Prop where
  | same {d : D} : FzR M0 M' d d M'
  | drop {d : D} : FzR M0 M' d d (rs M0 M')
  | frz (n : Nat) {d : D} : FzR M0 M' d (fz M0 M' n d) (rs M0 M')
def rtF (M0 : Sto) (Ψ : D → Sto → Prop) : D → Sto → Prop := fun d M' => ∃ d' M'', FzR M0 M' d d' M'' ∧ Ψ d' M''
inductive FzX (M0 M' : Sto) : Sto → Prop where
  | same : FzX M0 M' M'
  | drop : FzX M0 M' (rs M0 M')
def exF (M0 : Sto) (Ξ : XD → Sto → Prop) : XD → En → Sto → Prop := fun x _ M' => ∃ M'', FzX M0 M' M'' ∧ Ξ x M''

theorem exF_take {K : PySem.W.Frag} {B : Bs} {Ξ : XD → Sto → Prop} {E : XK} (hE : ∀ x M' H' G' cls dd, Ξ x M' → Wd K M' H' G' → Since B.H B.G B.M M' H' G' → RepX K G' H' x cls dd → E cls dd H') :
    ∀ cls d σ H, wOf K B (exF B.M Ξ) cls d σ H → E cls d H := fun cls d σ H ⟨x, r, M, G, ⟨M', f, q⟩, R, rx⟩ => by
  cases f with
  | same => exact hE x M H G cls d q R.wd R.sin rx
  | drop =>
    obtain ⟨w1, s1⟩ := frz_end R.wd R.sin
    obtain ⟨e, dd, fvs, e1, e2, r2⟩ := rx
    exact hE x _ H _ cls d q w1 s1 ⟨e, dd, fvs, e1, e2, r2.mono frzG_sub⟩

section
variable {P : Program} {w : World} {K : PySem.W.Frag} {mg : Str → Option Value} {base : Heap}
def ent (N : Nat) (ds : List D) : En := ds.map some ++ List.replicate (N - ds.length) none
theorem rel_start {ds : List D} {vs : List V} {N : List Str} {H G : Hp} {M : Sto} (w : Wd K M H G) (r : RepL K G ds vs) : Rel K ⟨H, G, M⟩ (ent N.length ds) M (L2.start N vs) H G where
  wd := w
  len := by
    unfold ent L2.start
    rw [List.length_append, List.length_append, List.length_map, List.length_map, List.length_replicate, List.length_replicate, r.length]
  slots := fun i d h => by
    unfold ent at h
    unfold L2.start
    by_cases hi : i < ds.length
    · rw [List.getElem?_append_left (by simpa using hi), List.getElem?_map] at h
      cases e : ds[i]? with
      | none => rw [e] at h; cases h
      | some a =>
        rw [e] at h; cases h
        obtain ⟨v, h1, h2⟩ := r.get e
        exact ⟨v, by rw [List.getElem?_append_left (by rw [List.length_map, ← r.length]; exact hi), List.getElem?_map, h1]; rfl, h2⟩
    · rw [List.getElem?_append_right (by simpa using hi), List.getElem?_replicate] at h
      split at h <;> cases h
  sin := Since.refl
end

def BindD (K : PySem.W.Frag) (fd : FuncData) (ps : List Str) (b : Nat × List Str × (List D → List D → List D)) : Prop :=
  (∀ ds zs, ds.length = b.1 → zs.length = b.2.1.length → (b.2.2 ds zs).length = ps.length) ∧ ∃ gl gV, KBn K fd ps b.1 b.2.1 gl gV ∧ ∀ (G : Hp) ds vs zs us, RepL K G ds vs → RepL K G zs us → RepL K G (b.2.2 ds zs) (gV vs us)
structure Gf (P : Program) (w : World) (K : PySem.W.Frag) (mg : Str → Option Value) (base : Heap) (x : Str) (k : Nat) (c : Ct) (bs : List (Nat × List Str × (List D → List D → List D))) : Prop where
  ex : ∃ f fd ps, mg x = some (.ref f) ∧ PySem.W.keepIn K (.ref f) = true ∧ FnOk P w K mg base (L2.CX P w) k f fd ps (spC K ps.length c) ∧ ∀ b ∈ bs, BindD K fd ps b
def pos (n : Nat) : Nat × List Str × (List D → List D → List D) := (n, [], fun ds _ => ds)
section
variable {X : Cx} {B : Bs} {Ξ : XD → En → Sto → Prop} {k : Nat} {f : Addr} {fd : FuncData} {ps ks : List Str} {c : Ct} {pos apos : Pos} {e : Expr} {es : List Expr} {kws : List Keyword} {ga gk : DTA} {fa : DTE}
theorem run_c {pins : List (Addr × Obj)} {r : En} {M : Sto} {σ : L2.St} {H G : Hp} {s : Shared} {Q : VK} {vs zs : List V} {us ws : List Value} {ds dz : List D} {b : Nat × List Str × (List D → List D → List D)} {Ψ : D → Sto → Prop}
    (F : FnOk X.prog X.w X.K X.mg X.base (L2.CX X.prog X.w) k f fd ps (spC X.K ps.length c)) (hr : Room k X.A) (hb : BindD X.K fd ps b) (tk : Takes X (wOf X.K B Ξ)) (I : L2.Inv X pins σ H s) (R : Rel X.K B r M σ H G)
    (hv : Vals vs us) (hz : Vals zs ws) (rv : RepL X.K G ds vs) (rz : RepL X.K G dz zs) (l1 : ds.length = b.1) (l2 : dz.length = b.2.1.length) (hc : c (b.2.2 ds dz) M Ψ (fun x M' => Ξ x r M'))
    (hQ : ∀ d M' v H' G', Ψ d M' → Rel X.K B r M' σ H' G' → Sub G G' → Rep X.K G' d v → Q v H') : wpAny (model X.prog X.w) X.A (call (.ref f) us (b.2.1.zip ws)) (EP X pins σ Q) X.xe s := by
  obtain ⟨hl, gl, gV, kb, rel⟩ := hb
  have l3 := hl ds dz l1 l2
  have u1 : us.length = b.1 := by rw [← hv.length, ← rv.length]; exact l1
  have u2 : ws.length = b.2.1.length := by rw [← hz.length, ← rz.length]; exact l2
  have rr := rel G ds vs dz zs rv rz
  have hsp : spC X.K ps.length c (gV vs zs) H Q (fun cls d H' => wOf X.K B Ξ cls d σ H') := by
    refine ⟨by rw [← rr.length]; exact l3, _, G, M, Ψ, _, R.wd, rr, hc, fun d M' v H' G' q w s p => hQ d M' v H' G' q (R.go w s) s.gsub p, fun x M' H' G' cls dd q w s rx => ?_⟩
    exact ⟨x, r, M', G', q, R.go w s, rx⟩
  refine wpAny_call (codeAny_mono (F.run X.A X.stack s H ⟨us, b.2.1.zip ws⟩ (gl us ws) (gV vs zs) Q _ hr I.env0 (kb.to s us ws I.kIn u1 u2) (kb.rel hv hz) hsp) fun fr s' hq => ?_)
  cases fr with
  | error e => exact tk e s' (XE.of_call I (fun cls d H' h => h) hq)
  | ok fl =>
    cases fl with
    | ret u => exact I.after hq
    | next => exact False.elim hq
    | brk => exact False.elim hq
    | cont => exact False.elim hq
abbrev DK (X : Cx) (B : Bs) (e : List Keyword) (f : DTA) : Prop := PK X e (liftA X.K B f)
theorem PK_imp {X : Cx} {e : List Keyword} {t t' : TA} (h : PK X e t) (i : ∀ σ H Q, t' σ H Q → t σ H Q) : PK X e t' := ⟨fun pos pins s σ H Q I q => h.run pos pins s σ H Q I (i _ _ _ q)⟩
theorem dk_nil : DK X B [] (fun _ M Ψ => Ψ [] M) := PK_imp pk_nil fun σ H Q ⟨r, M, G, Ψ, R, h, k⟩ => k [] M [] H G h R Sub.rfl' .nil
theorem dk_cons {nm : Option Str} {kpos : Pos} {fs : DTA} (ha : DE X B e fa) (hr : DK X B kws fs) : DK X B (⟨nm, e, kpos⟩ :: kws) (fun r M Ψ => fa r M fun d M1 => fs r M1 fun ds M2 => Ψ (d :: ds) M2) := by
  refine PK_imp (pk_cons ha hr) fun σ H Q ⟨r, M, G, Ψ, R, h, k⟩ => ?_
  refine ⟨r, M, G, _, R, h, fun d M1 v H1 G1 q1 R1 s1 p1 => ?_⟩
  exact ⟨r, M1, G1, _, R1, q1, fun ds M2 vs H2 G2 q2 R2 s2 p2 => k _ _ _ _ _ q2 R2 (s1.tr s2) (.cons (p1.mono s2) p2)⟩
variable {P : Program} {w : World} {K : PySem.W.Frag} {mg : Str → Option Value} {base : Heap} {x : Str} {bs : List (Nat × List Str × (List D → List D → List D))} {n j : Nat} {g : List D → List D → List D} {p : Pos}
def callD (n m : Nat) (g : List D → List D → List D) (c : Ct) (Ξ : XD → En → Sto → Prop) (ds dz : List D) (r : En) (M : Sto) (Ψ : PD) : Prop := ds.length = n ∧ dz.length = m ∧ c (g ds dz) M Ψ (fun x M' => Ξ x r M')
theorem de_call (F : Gf X.prog X.w X.K X.mg X.base x j c bs) (hr : Room k X.A) (z : Zx X B Ξ) (hb : (n, [], g) ∈ bs) (ha : DA X B (e :: es) ga) (hj : j ≤ k := by decide) (hg : Gl X x := by rfl) (hdb : (x == ("__debug__" : Str)) = false := by decide)
    (he : starEach (e :: es) X.env = (false, eval e X.env) :: starEach es X.env := by rfl) (hpl : (backTo pos (starEach es X.env)).any (·.1) = false := by rfl) :
    DE X B (.Call (.Name x p) (e :: es) [] pos) (fun r M Ψ => ga r M fun ds M1 => callD n 0 g c Ξ ds [] r M1 Ψ) := by
  obtain ⟨f, fd, ps, hm, hk, FO, hbs⟩ := F.ex
  refine ⟨fun pins s σ H Q I ⟨r, M, G, Ψ, R, h, kk⟩ => ?_⟩
  refine wpAny_Call_Name_kw (ld_glob I hg hm ?_ hdb)
  refine PySem.W.callWith_K (h₀ := X.base) I.ok.mod.kin hk (thn (ha.run pos pins s σ H _ I ⟨r, M, G, _, R, h, fun ds M1 vs H1 G1 q R1 s1 p1 => (⟨ds, M1, G1, q, R1, s1, p1⟩ : ∃ ds M1 G1, callD n 0 g c Ξ ds [] r M1 Ψ ∧ Rel X.K B r M1 σ H1 G1 ∧ Sub G G1 ∧ RepL X.K G1 ds vs)⟩) fun us s1 ⟨vs, H1, I1, rv, ds, M1, G1, ⟨l1, _, q⟩, R1, t1, p1⟩ => ⟨I1.kIn, ?_⟩) he hpl
  exact run_c (zs := []) (ws := []) (dz := []) FO (hr.mono hj) (hbs _ hb) z.tk I1 R1 rv .nil p1 .nil l1 rfl q fun d M' v H' G' q R' s' p' => kk _ _ _ _ _ q R' (t1.tr s') p'
theorem de_callK0 (F : Gf X.prog X.w X.K X.mg X.base x j c bs) (hr : Room k X.A) (z : Zx X B Ξ) (hb : (0, ks, g) ∈ bs) (hkw : DK X B kws gk) (hj : j ≤ k := by decide) (hg : Gl X x := by rfl) (hdb : (x == ("__debug__" : Str)) = false := by decide)
    (hall : (backToKw pos (keywordEach kws X.env)).all (·.1.isSome) = true := by rfl) (hks : (backToKw pos (keywordEach kws X.env)).filterMap (·.1) = ks := by rfl)
    (hpl : ((backTo pos (starEach [] X.env)).any (·.1) || (backToKw pos (keywordEach kws X.env)).any (·.1.isNone)) = false := by rfl) :
    DE X B (.Call (.Name x p) [] kws pos) (fun r M Ψ => gk r M fun dz M2 => callD 0 ks.length g c Ξ [] dz r M2 Ψ) := by
  obtain ⟨f, fd, ps, hm, hk, FO, hbs⟩ := F.ex
  refine ⟨fun pins s σ H Q I ⟨r, M, G, Ψ, R, h, kk⟩ => ?_⟩
  refine wpAny_Call_Name_kw (ld_glob I hg hm ?_ hdb)
  refine PySem.W.callWith_KW0 (h₀ := X.base) I.ok.mod.kin hk hall ?_ hpl
  refine thn (hkw.run pos pins s σ H _ I ⟨r, M, G, _, R, h, fun dz M2 us H2 G2 q R2 s2 p2 => (⟨dz, M2, G2, q, R2, s2, p2⟩ : ∃ dz M2 G2, callD 0 ks.length g c Ξ [] dz r M2 Ψ ∧ Rel X.K B r M2 σ H2 G2 ∧ Sub G G2 ∧ RepL X.K G2 dz us)⟩) fun ws s2 ⟨zs, H2, I2, rz, dz, M2, G2, ⟨l1, l2, q⟩, R2, t2, p2⟩ => ⟨I2.kIn, ?_⟩
  rw [hks]
  exact run_c (vs := []) (us := []) (ds := []) FO (hr.mono hj) (hbs _ hb) z.tk I2 R2 .nil rz .nil p2 l1 l2 q fun d M' v H' G' q R' s' p' => kk _ _ _ _ _ q R' (t2.tr s') p'
end
end Z
namespace Z
open PySem PySem.Spec PyProof.Rows L2

abbrev Post (K : PySem.W.Frag) (H G : Hp) (M : Sto) (φ : D → Sto → Prop) (Q : VK) : Prop := ∀ d M' w H' G', φ d M' → Wd K M' H' G' → Since H G M M' H' G' → Rep K G' d w → Q w H'
theorem Post.id {K : PySem.W.Frag} {H G : Hp} {M : Sto} {φ : D → Sto → Prop} {Q : VK} (k : Post K H G M φ Q) (w : Wd K M H G) {d : D} {v : V} (h : φ d M) (p : Rep K G d v) : Q v H := k _ _ _ _ _ h w Since.refl p
theorem Post.grow {K : PySem.W.Frag} {H G H' G' : Hp} {M : Sto} {φ : D → Sto → Prop} {Q : VK} (k : Post K H G M φ Q) (w : Wd K M H G) (g : Grow H G H' G') {d : D} {v : V} (h : φ d M) (p : Rep K G' d v) : Q v H' := k _ _ _ _ _ h (g.wd w) (g.since w) p
theorem CallR_or {X : Cx} {f : Value} {r r' : List V → Hp → VK → Prop} (h : CallR X f r) (h' : CallR X f r') : CallR X f (fun xs H Q => r xs H Q ∨ r' xs H Q) := by
  intro pins s σ H xs us Q I rx q
  rcases q with q | q
  · exact h pins s σ H xs us Q I rx q
  · exact h' pins s σ H xs us Q I rx q
def OkC (K : PySem.W.Frag) (r : List V → Hp → VK → Prop) (g : Sto → List D → PD → Prop) : Prop := ∀ (M : Sto) (H G : Hp) (ds : List D) (vs : List V) (φ : PD) (Q : VK), Wd K M H G → RepL K G ds vs → g M ds φ → Post K H G M φ Q → r vs H Q
section
variable {X : Cx} {B : Bs} {pos apos : Pos} {a b e o : Expr} {es : List Expr} {fa fb fo : DTE} {ga : DTA} {k : Nat}
theorem de_callB {r : List V → Hp → VK → Prop} {g : Sto → List D → PD → Prop} {x : Str} {id : String} {p : Pos} (hc : CallR X (.builtin id) r) (ok : OkC X.K r g) (hm : X.mg x = none) (hv : bootBuiltins x = some (.builtin id)) (ha : DA X B (e :: es) ga)
    (hg : Gl X x := by rfl) (hn : x ≠ "__name__" := by decide) (hdb : (x == ("__debug__" : Str)) = false := by decide)
    (he : starEach (e :: es) X.env = (false, eval e X.env) :: starEach es X.env := by rfl) (hpl : (backTo pos (starEach es X.env)).any (·.1) = false := by rfl) :
    DE X B (.Call (.Name x p) (e :: es) [] pos) (fun r M Ψ => ga r M fun ds M1 => g M1 ds Ψ) := PE_imp (pe_callB hc hg hm hv ha hn hdb he hpl) fun σ H Q ⟨r, M, G, Ψ, R, h, k⟩ =>
  ⟨r, M, G, _, R, h, fun ds M1 vs H1 G1 q R1 s1 p1 => ok M1 H1 G1 ds vs Ψ Q R1.wd p1 q fun d M' w H' G' f w' s' p' => k _ _ _ _ _ f (R1.go w' s') (s1.tr s'.gsub) p'⟩
theorem de_callT {r : List V → Hp → VK → Prop} {g : Sto → List D → PD → Prop} {x : Str} {id : String} {p : Pos} (hc : CallR X (.type id) r) (ok : OkC X.K r g) (hm : X.mg x = none) (hv : bootBuiltins x = some (.type id)) (ha : DA X B (e :: es) ga)
    (hg : Gl X x := by rfl) (hn : x ≠ "__name__" := by decide) (hdb : (x == ("__debug__" : Str)) = false := by decide)
    (he : starEach (e :: es) X.env = (false, eval e X.env) :: starEach es X.env := by rfl) (hpl : (backTo pos (starEach es X.env)).any (·.1) = false := by rfl) :
    DE X B (.Call (.Name x p) (e :: es) [] pos) (fun r M Ψ => ga r M fun ds M1 => g M1 ds Ψ) := PE_imp (pe_callTy hc hg hm hv ha hn hdb he hpl) fun σ H Q ⟨r, M, G, Ψ, R, h, k⟩ =>
  ⟨r, M, G, _, R, h, fun ds M1 vs H1 G1 q R1 s1 p1 => ok M1 H1 G1 ds vs Ψ Q R1.wd p1 q fun d M' w H' G' f w' s' p' => k _ _ _ _ _ f (R1.go w' s') (s1.tr s'.gsub) p'⟩
theorem de_ty {x : Str} {n : String} (hm : X.mg x = none) (hv : bootBuiltins x = some (.type n)) (hg : Gl X x := by rfl) (hn : x ≠ "__name__" := by decide) (hd : (x == ("__debug__" : Str)) = false := by decide) : DE X B (.Name x pos) (fun _ M Ψ => Ψ (.ty n) M) :=
  de_c (v := .ty n) (pe_bltn hg hm hv rfl hn hd) fun _ => .ty

theorem RepD.length {K : PySem.W.Frag} {G : Hp} : ∀ {l : List (D × D)} {kvs : List (Key × V)}, RepD K G l kvs → l.length = kvs.length
  | _, _, .nil => rfl
  | _, _, .cons _ _ r => congrArg (· + 1) r.length
theorem RepT.length {K : PySem.W.Frag} {G : Hp} : ∀ {l : List (D × D)} {kvs : List (List Key × V)}, RepT K G l kvs → l.length = kvs.length
  | _, _, .nil => rfl
  | _, _, .cons _ _ r => congrArg (· + 1) r.length
def lenD (M : Sto) (ds : List D) (φ : PD) : Prop := match ds with
  | [.str x] => x.length ≤ sizeLine ∧ φ (.int x.length) M
  | [.tup l] => φ (.int l.length) M
  | [.lst l] => φ (.int l.length) M
  | [d] => ∃ l, lstOf M d = some l ∧ φ (.int l.length) M
  | _ => False
theorem ok_len {K : PySem.W.Frag} : OkC K (fun xs H Q => ∃ x n, xs = [x] ∧ LenV K x H n ∧ Q (.int n) H) lenD := fun M H G ds vs φ Q w r h k => by
  unfold lenD at h
  split at h
  · cases r with
    | cons r1 r2 => cases r2; cases r1; exact ⟨_, _, rfl, ⟨h.1, rfl⟩, k.id w h.2 .int⟩
  · cases r with
    | cons r1 r2 =>
      cases r2
      obtain ⟨p, us, rfl, h1, r3⟩ := tup_rep w r1 rfl
      exact ⟨_, _, rfl, .inr ⟨_, h1, rfl⟩, by rw [← r3.length]; exact k.id w h .int⟩
  · cases r with
    | cons r1 r2 =>
      cases r2
      obtain ⟨p, us, rfl, h1, r3⟩ := lst_rep' w r1 rfl
      exact ⟨_, _, rfl, .inl ⟨_, h1, rfl⟩, by rw [← r3.length]; exact k.id w h .int⟩
  · cases r with
    | cons r1 r2 =>
      cases r2
      obtain ⟨l, e, h⟩ := h
      obtain ⟨p, us, rfl, h1, r3⟩ := lst_rep' w r1 e
      exact ⟨_, _, rfl, .inl ⟨_, h1, rfl⟩, by rw [← r3.length]; exact k.id w h .int⟩
  · exact h.elim
theorem de_len {p : Pos} (hm : X.mg "len" = none) (ha : DA X B [a] ga) (hg : Gl X "len" := by rfl) (he : starEach [a] X.env = (false, eval a X.env) :: starEach [] X.env := by rfl) : DE X B (.Call (.Name "len" p) [a] [] pos) (fun r M Ψ => ga r M fun ds M1 => lenD M1 ds Ψ) :=
  de_callB call_len ok_len hm PySem.boot_len ha hg (by decide) (by decide) he rfl
def absD (M : Sto) (ds : List D) (φ : PD) : Prop := match ds with
  | [.int i] => φ (.int (if i < 0 then -i else i)) M
  | _ => False
def max2D (M : Sto) (ds : List D) (φ : PD) : Prop := match ds with
  | [.int i, .int j] => φ (.int (if j > i then j else i)) M
  | _ => False
def min2D (M : Sto) (ds : List D) (φ : PD) : Prop := match ds with
  | [.int i, .int j] => φ (.int (if j < i then j else i)) M
  | _ => False
def intD (M : Sto) (ds : List D) (φ : PD) : Prop := match ds with
  | [.int i] => φ (.int i) M
  | [.bl b] => φ (.int (if b then 1 else 0)) M
  | _ => False
def strD (M : Sto) (ds : List D) (φ : PD) : Prop := match ds with
  | [.int i] => i.natAbs.log2 < 1920 ∧ φ (.str (toString i)) M
  | _ => False
def allD (M : Sto) (ds : List D) (φ : PD) : Prop := match ds with
  | [d] => ∃ bs : List Bool, lstOf M d = some (bs.map .bl) ∧ φ (.bl (bs.all id)) M
  | _ => False
section
variable {K : PySem.W.Frag}
theorem ok_abs : OkC K (fun xs H Q => ∃ i, xs = [.int i] ∧ Q (.int (if i < 0 then -i else i)) H) absD := fun M H G ds vs φ Q w r h k => by
  unfold absD at h
  split at h
  · cases r with | cons r1 r2 => cases r2; cases r1; exact ⟨_, rfl, k.id w h .int⟩
  · exact h.elim
theorem ok_int1 : OkC K (fun xs H Q => (∃ i, xs = [.int i] ∧ Q (.int i) H) ∨ ∃ k, xs = [.bl k] ∧ Q (.int (if k then 1 else 0)) H) intD := fun M H G ds vs φ Q w r h k => by
  unfold intD at h
  split at h
  · cases r with | cons r1 r2 => cases r2; cases r1; exact .inl ⟨_, rfl, k.id w h .int⟩
  · cases r with | cons r1 r2 => cases r2; cases r1; exact .inr ⟨_, rfl, k.id w h .int⟩
  · exact h.elim
theorem ok_str1 : OkC K (fun xs H Q => ∃ i : Int, xs = [.int i] ∧ i.natAbs.log2 < 1920 ∧ Q (.str (toString i)) H) strD := fun M H G ds vs φ Q w r h k => by
  unfold strD at h
  split at h
  · cases r with | cons r1 r2 => cases r2; cases r1; exact ⟨_, rfl, h.1, k.id w h.2 .str⟩
  · exact h.elim
theorem one_lst {M : Sto} {H G : Hp} {d : D} {vs : List V} {l : List D} (w : Wd K M H G) (r : RepL K G [d] vs) (e : lstOf M d = some l) : ∃ a us, vs = [.ref a] ∧ SqL K H a us ∧ RepL K G l us := by
  cases r with
  | cons r1 r2 =>
    cases r2
    obtain ⟨a, us, rfl, h1, h2⟩ := lst_rep' w r1 e
    exact ⟨a, us, rfl, h1, h2⟩
theorem ok_all : OkC K (rAll K) allD := fun M H G ds vs φ Q w r h k => by
  unfold allD at h
  split at h
  · obtain ⟨ns, e, h⟩ := h
    obtain ⟨a, us, rfl, h1, h2⟩ := one_lst w r e
    have := repL_bls h2; subst this
    exact ⟨a, ns, rfl, h1, k.id w h .bl⟩
  · exact h.elim
end
def tyN (M : Sto) : D → Option String
  | .non => some "NoneType"
  | .bl _ => some "bool"
  | .int _ => some "int"
  | .str _ => some "str"
  | .tup _ => some "tuple"
  | .tpl _ => some "tuple"
  | .lst _ => some "list"
  | .dic _ => some "dict"
  | .ref p => match M p with
    | some (.lst _) => some "list"
    | some (.dic _) => some "dict"
    | some (.dit _) => some "dict"
    | _ => none
  | _ => none
def isB (t c : String) : Bool := t == c || (t == "bool" && c == "int")
def okTy : List String := ["NoneType", "bool", "int", "str", "tuple", "list", "dict"]
def okCl : List String := ["bool", "int", "str", "tuple", "list"]
theorem kit_isB {K : PySem.W.Frag} : ∀ t ∈ okTy, ∀ c ∈ okCl, PySem.W.kitOne K (.type t) (.type c) = some (isB t c) := by
  have h : ∀ t ∈ okTy, ∀ c ∈ okCl, kitB t c = some (isB t c) := by decide +kernel
  exact fun t ht c hc => kit_ty (h t ht c hc)
theorem tyN_ok {M : Sto} {d : D} {t : String} (e : tyN M d = some t) : t ∈ okTy := by
  unfold tyN at e
  split at e <;> first | (cases e; decide) | (split at e <;> first | (cases e; decide) | cases e) | cases e
theorem tyN_x {K : PySem.W.Frag} {M : Sto} {H G : Hp} {d : D} {v : V} {t : String} (w : Wd K M H G) (r : Rep K G d v) (e : tyN M d = some t) : TyX K H v (.type t) := by
  cases r with
  | non => cases e; exact .base .non
  | bl => cases e; exact .base (.bl _)
  | int => cases e; exact .base (.int _)
  | str => cases e; exact .base (.str _)
  | ty => cases e
  | tup h r =>
    cases e
    rcases w.sub.sqT h with (h | ⟨o, h⟩) | ⟨o, its, n, h1, h2, _⟩
    · exact .base (.tup h)
    · exact .fTuple h
    · exact .kTuple h1 h2
  | tpl h r => cases e; exact .base (.tup (w.sub _ _ h))
  | lst h r =>
    cases e
    rcases w.sub.rd h with h | ⟨o, h⟩
    · exact .base (.lst h)
    · exact .base (.frz h)
  | dic h r => cases e; exact .base (.dK (w.sub _ _ h))
  | dit h r => cases e; exact .base (.dT (w.sub _ _ h))
  | obj h r => cases e
  | lk h r => cases e
  | fn h q => cases e
  | dlk h r => cases e
  | @ref a =>
    have e' : (match M a with | some (.lst _) => some "list" | some (.dic _) => some "dict" | some (.dit _) => some "dict" | _ => none) = some t := e
    split at e'
    · rename_i l q
      cases e'
      obtain ⟨_, vs, h, _⟩ := w.cells _ _ q
      exact .base (.lst h)
    · rename_i l q
      cases e'
      obtain ⟨vs, h, _⟩ := (w.cells _ _ q).2
      exact .base (.dK h)
    · rename_i l q
      cases e'
      obtain ⟨vs, h, _⟩ := (w.cells _ _ q).2
      exact .base (.dT h)
    · cases e'
def isiD (M : Sto) (ds : List D) (φ : PD) : Prop := match ds with
  | [d, .ty c] => c ∈ okCl ∧ ∃ t, tyN M d = some t ∧ φ (.bl (isB t c)) M
  | [d, .tup cs] => ∃ ns : List String, cs = ns.map .ty ∧ (∀ c ∈ ns, c ∈ okCl) ∧ ∃ t, tyN M d = some t ∧ φ (.bl (ns.any fun c => isB t c)) M
  | _ => False
def rIsiS (K : PySem.W.Frag) : List V → Hp → VK → Prop := fun xs H Q => ∃ (x : V) (tp : Addr) (cs : List V) (t : Value) (us : List Value) (b : Bool), xs = [x, .ref tp] ∧ SqT K H tp cs ∧ Paired ClsV cs us ∧ TyX K H x t ∧ PySem.W.kitAny K t us = some b ∧ Q (.bl b) H
theorem call_isiS : CallR X (.builtin "isinstance") (rIsiS X.K) := by
  intro pins s σ H xs us Q I r h
  obtain ⟨x, tp, cs, t, ws, b, rfl, hT, k, ty, e, q⟩ := h
  obtain ⟨u1, u2, rfl, r1, r2⟩ := vals2 r
  cases (show u2 = Value.ref tp from r2)
  obtain ⟨P, Z, p, hx⟩ := kit_of I r1 ty
  obtain ⟨its, rv, ⟨o, h1, h2, n, h3⟩, _⟩ := I.tuple hT
  have e3 := ClsV.all k rv
  subst e3
  obtain ⟨oc, od, dt, sl⟩ := o
  simp only at h2 h3
  subst h2 h3
  exact PySem.W.kia_tup Z I.kIn p h1 e hx fun tk => ⟨.bl b, H, I.tok tk, rfl, q⟩
theorem kit_any {K : PySem.W.Frag} {t : String} (ht : t ∈ okTy) : ∀ {ns : List String}, (∀ c ∈ ns, c ∈ okCl) → PySem.W.kitAny K (.type t) (ns.map Value.type) = some (ns.any fun c => isB t c)
  | [], _ => rfl
  | c :: ns, h => by
    have h1 := kit_isB (K := K) t ht c (h c List.mem_cons_self)
    have ih := kit_any (K := K) ht (ns := ns) fun d hd => h d (List.mem_cons_of_mem _ hd)
    rw [List.map_cons, List.any_cons]
    unfold PySem.W.kitAny
    rw [h1]
    cases isB t c with
    | true => rfl
    | false => exact ih
theorem repL_tys {K : PySem.W.Frag} {G : Hp} : ∀ {ns : List String} {vs : List V}, RepL K G (ns.map D.ty) vs → vs = ns.map V.ty
  | [], _, r => by cases r; rfl
  | n :: ns, _, r => by cases r with | cons r1 r2 => cases r1; rw [repL_tys r2]; rfl
theorem cls_tys : ∀ ns : List String, Paired ClsV (ns.map V.ty) (ns.map Value.type)
  | [] => .nil
  | n :: ns => .cons (.ty n) (cls_tys ns)
theorem ok_isi {K : PySem.W.Frag} : OkC K (fun xs H Q => rIsi K xs H Q ∨ rIsiS K xs H Q) isiD := fun M H G ds vs φ Q w r h k => by
  unfold isiD at h
  split at h
  · obtain ⟨hc, t, e, h⟩ := h
    cases r with
    | cons r1 r2 => cases r2 with
      | cons r2 r3 =>
        cases r3; cases r2
        exact .inl ⟨_, _, _, _, _, rfl, .ty _, tyN_x w r1 e, kit_isB t (tyN_ok e) _ hc, k.id w h .bl⟩
  · obtain ⟨ns, rfl, hc, t, e, h⟩ := h
    cases r with
    | cons r1 r2 => cases r2 with
      | cons r2 r3 =>
        cases r3
        obtain ⟨p, us, rfl, h1, r4⟩ := tup_rep w r2 rfl
        have := repL_tys r4; subst this
        exact .inr ⟨_, p, _, _, _, _, rfl, h1, cls_tys ns, tyN_x w r1 e, kit_any (tyN_ok e) hc, k.id w h .bl⟩
  · exact h.elim
theorem boot_isinstance : bootBuiltins "isinstance" = some (.builtin "isinstance") := by decide +kernel
theorem de_isi {p : Pos} (hm : X.mg "isinstance" = none) (ha : DA X B [a, b] ga) (hg : Gl X "isinstance" := by rfl) (he : starEach [a, b] X.env = (false, eval a X.env) :: starEach [b] X.env := by rfl) (hpl : (backTo pos (starEach [b] X.env)).any (·.1) = false := by rfl) :
    DE X B (.Call (.Name "isinstance" p) [a, b] [] pos) (fun r M Ψ => ga r M fun ds M1 => isiD M1 ds Ψ) :=
  de_callB (CallR_or call_isi call_isiS) ok_isi hm boot_isinstance ha hg (by decide) (by decide) he hpl
end
end Z
namespace Z
open PySem PySem.Spec PyProof.Rows L2

def optK {α : Type} (o : Option α) (φ : α → Prop) : Prop := match o with
  | some d => φ d
  | none => False
theorem optK_some {α : Type} {o : Option α} {φ : α → Prop} (h : optK o φ) : ∃ d, o = some d ∧ φ d := by
  unfold optK at h
  split at h
  · exact ⟨_, rfl, h⟩
  · exact h.elim
theorem optK_of {α : Type} {o : Option α} {φ : α → Prop} {d : α} (e : o = some d) (h : φ d) : optK o φ := by rw [e]; exact h
def ixD (M : Sto) (x y : D) (φ : D → Prop) : Prop := match x, y with
  | .tup l, .int i => optK (atI l i) φ
  | .str z, .int i => z.length ≤ sizeLine ∧ optK (atI z.cps.toList i) fun c => φ (.str ⟨#[c]⟩)
  | x, .int i => optK (lstOf M x) fun l => optK (atI l i) φ
  | _, _ => False
theorem RepL.atI {K : PySem.W.Frag} {G : Hp} {l : List D} {vs : List V} {i : Int} {d : D} (r : RepL K G l vs) (e : L2.atI l i = some d) : ∃ v, L2.atI vs i = some v ∧ Rep K G d v := by
  unfold L2.atI at e ⊢
  rw [← r.length]
  cases q : ixN l.length i with
  | none => rw [q] at e; cases e
  | some j => rw [q] at e; exact r.get e
theorem ok_ix {K : PySem.W.Frag} : Ok2 K (rIx K) ixD := fun M H G x y v u φ Q w rx ry h k => by
  unfold ixD at h
  split at h
  · rename_i l i
    obtain ⟨d, e, h⟩ := optK_some h
    obtain ⟨a, vs, rfl, h1, r1⟩ := tup_rep w rx (l := l) rfl
    cases ry
    obtain ⟨v, e2, p⟩ := r1.atI e
    exact .inr (.inl ⟨a, vs, _, v, rfl, rfl, h1, e2, k _ _ _ _ h (Grow.refl w.sub) p⟩)
  · obtain ⟨z, h⟩ := h
    obtain ⟨c, e, h⟩ := optK_some h
    cases rx; cases ry
    exact .inr (.inr ⟨_, _, c, rfl, rfl, z, e, k _ _ _ _ h (Grow.refl w.sub) .str⟩)
  · obtain ⟨l, e0, h⟩ := optK_some h
    obtain ⟨d, e, h⟩ := optK_some h
    obtain ⟨a, vs, rfl, h1, r1⟩ := lst_rep' w rx e0
    cases ry
    obtain ⟨v, e2, p⟩ := r1.atI e
    exact .inl ⟨a, vs, _, v, rfl, rfl, h1, e2, k _ _ _ _ h (Grow.refl w.sub) p⟩
  · exact h.elim
section
variable {X : Cx} {B : Bs} {pos apos p2 : Pos} {a b e o : Expr} {es : List Expr} {fa fb fo fc : DTE} {ga : DTA} {k : Nat}
theorem de_ix (ha : DE X B a fa) (hb : DE X B b fb) (hs : PlainIx b := by exact fun _ _ => rfl) : DE X B (.Subscript a b pos) (bin2 ixD fa fb) := PE_imp (pe_ix ix_seq ha hb hs) fun σ H Q h => tOp_ok ok_ix h
def liftO (K : PySem.W.Frag) (B : Bs) (f : En → Sto → (Option Int → Sto → Prop) → Prop) : TO := fun σ H Q => ∃ r M G Ψ, Rel K B r M σ H G ∧ f r M Ψ ∧ ∀ b M' H' G', Ψ b M' → Rel K B r M' σ H' G' → Sub G G' → Q b H'
theorem PO_imp {X : Cx} {e : Option Expr} {t t' : TO} (h : PO X e t) (i : ∀ σ H Q, t' σ H Q → t σ H Q) : PO X e t' := ⟨fun pins s σ H Q I q => h.run pins s σ H Q I (i _ _ _ q)⟩
abbrev DO (X : Cx) (B : Bs) (e : Option Expr) (f : En → Sto → (Option Int → Sto → Prop) → Prop) : Prop := PO X e (liftO X.K B f)
theorem do_none : DO X B none (fun _ M Ψ => Ψ none M) := PO_imp po_none fun σ H Q ⟨r, M, G, Ψ, R, h, k⟩ => k _ _ _ _ h R Sub.rfl'
def inK (d : D) (φ : Int → Prop) : Prop := match d with
  | .int i => φ i
  | _ => False
theorem do_some (h : DE X B e fa) : DO X B (some e) (fun r M Ψ => fa r M fun d M1 => inK d fun i => Ψ (some i) M1) := PO_imp (po_some h) fun σ H Q ⟨r, M, G, Ψ, R, h, k⟩ => by
  refine ⟨r, M, G, _, R, h, fun d M1 v H1 G1 q R1 s1 p1 => ?_⟩
  cases p1 with
  | int => exact ⟨_, rfl, k _ _ _ _ q R1 s1⟩
  | _ => exact q.elim
def cutD {α : Type} (xs : List α) (lo hi : Option Int) : List α := (xs.drop (HT.sIx xs.length 0 lo)).take (HT.sIx xs.length xs.length hi - HT.sIx xs.length 0 lo)
def slD (M : Sto) (x : D) (lo hi : Option Int) (φ : D → Prop) : Prop := match x with
  | .str z => z.length ≤ sizeLine ∧ φ (.str (cutS z lo hi))
  | .tup l => φ (.tup (cutD l lo hi))
  | .lk l => φ (.lst (cutD l lo hi))
  | x => optK (lstOf M x) fun l => φ (.lst (cutD l lo hi))
theorem RepL.cut {K : PySem.W.Frag} {G : Hp} {l : List D} {vs : List V} (r : RepL K G l vs) (lo hi : Option Int) : RepL K G (cutD l lo hi) (cutV vs lo hi) := by
  unfold cutD cutV
  rw [← r.length]
  exact (r.drop _).take _
def rSlAll (K : PySem.W.Frag) : V → Option Int → Option Int → Hp → VK → Prop := fun x lo hi H Q => rSlL K x lo hi H Q ∨ rSlA K x lo hi H Q ∨ rSlS x lo hi H Q
theorem cut_whole {α : Type} (l : List α) (lo hi : Option Int) (h : HT.sIx l.length 0 lo = 0 ∧ HT.sIx l.length l.length hi = l.length) : cutD l lo hi = l := by
  unfold cutD
  rw [h.1, h.2]
  simp
theorem sl_ok {K : PySem.W.Frag} {M : Sto} {H G : Hp} {x : D} {v : V} {lo hi : Option Int} {φ : D → Prop} {Q : VK} (w : Wd K M H G) (rx : Rep K G x v) (h : slD M x lo hi φ) (k : ∀ d w H' G', φ d → Grow H G H' G' → Rep K G' d w → Q w H') : rSlAll K v lo hi H Q := by
  unfold slD at h
  split at h
  · cases rx
    exact .inr (.inr ⟨_, rfl, h.1, k _ _ _ _ h.2 (Grow.refl w.sub) .str⟩)
  · rename_i l
    obtain ⟨a, vs, rfl, h1, r1⟩ := tup_rep w rx (l := l) rfl
    have hl := r1.length
    refine .inr (.inl ⟨a, vs, rfl, h1, fun e => ?_, fun e p hp => ?_⟩)
    · rw [← hl] at e
      rw [cut_whole l lo hi e] at h
      exact k _ _ _ _ h (Grow.refl w.sub) rx
    · have g := grow_upd (o := .tup (cutV vs lo hi)) w.sub hp
      exact k _ _ _ _ h g (.tup (SqT.of upd_same) ((r1.cut lo hi).mono g.gsub))
  · rename_i l
    cases rx with
    | @lk _ _ vs h1 r1 =>
      refine .inl ⟨_, vs, rfl, w.sub.sqL h1, fun p hp => ?_⟩
      have g := grow_upd (o := .lst (cutV vs lo hi)) w.sub hp
      exact k _ _ _ _ h g (.lst (.inl upd_same) ((r1.cut lo hi).mono g.gsub))
  · obtain ⟨l, e, h⟩ := optK_some h
    obtain ⟨a, vs, rfl, h1, r1⟩ := lst_rep' w rx e
    refine .inl ⟨a, vs, rfl, h1, fun p hp => ?_⟩
    have g := grow_upd (o := .lst (cutV vs lo hi)) w.sub hp
    exact k _ _ _ _ h g (.lst (.inl upd_same) ((r1.cut lo hi).mono g.gsub))
theorem de_slice {lo hi : Option Expr} {fl fh : En → Sto → (Option Int → Sto → Prop) → Prop} (he : DE X B e fa) (hl : DO X B lo fl) (hu : DO X B hi fh) :
    DE X B (.Subscript e (.Slice lo hi none p2) pos) (fun r M Ψ => fa r M fun x M1 => fl r M1 fun l M2 => fh r M2 fun u M3 => slD M3 x l u fun d => Ψ d M3) :=
  PE_imp (pe_slice (r := rSlAll X.K) (sl_list.or (sl_tupA.or sl_str)) he hl hu) fun σ H Q ⟨r, M, G, Ψ, R, h, k⟩ => by
    refine ⟨r, M, G, _, R, h, fun x M1 v H1 G1 q1 R1 s1 p1 => ?_⟩
    refine ⟨r, M1, G1, _, R1, q1, fun l M2 H2 G2 q2 R2 s2 => ?_⟩
    refine ⟨r, M2, G2, _, R2, q2, fun u M3 H3 G3 q3 R3 s3 => ?_⟩
    exact sl_ok R3.wd (p1.mono (s2.tr s3)) q3 fun d w H' G' f g p => k _ _ _ _ _ f (R3.grow g) (((s1.tr s2).tr s3).tr g.gsub) p
def setD (d : D) (i : Int) (v : D) (M : Sto) (φ : Sto → Prop) : Prop := match d with
  | .ref p => match M p with
    | some (.lst l) => optK (ixN l.length i) fun j => φ (updM M p (.lst (l.set j v)))
    | _ => False
  | _ => False
theorem ds_setix {value : Expr} {p3 : Pos} (hv : DE X B value fc) (ho : DE X B a fa) (hi : DE X B b fb) (hs : swapsWithSole [.Subscript a b p3] value pos.line X.env = pure false := by rfl) (hw : swappedStores [.Subscript a b p3] value X.env = pure none := by rfl)
    (h1 : (assignEach [.Subscript a b p3] X.env).map (·.2) = [assign (.Subscript a b p3) X.env] := by rfl)
    (h2 : ∀ v, assign (.Subscript a b p3) X.env v = (do let ov ← holding [v] (eval a X.env); let iv ← holding [v, ov] (eval b X.env); standAt p3; holding [v, ov, iv] (setItem ov iv v); release [v, ov, iv] []) := by intro _; rfl) :
    DS X B (.Assign [.Subscript a b p3] value pos) (fun E r M => fc r M fun d M1 => fa r M1 fun x M2 => fb r M2 fun y M3 => inK y fun i => setD x i d M3 fun M4 => E.nx r M4) :=
  PS_imp (ps_asg hv (pg_sub ho hi set_list h2) hs hw h1) fun D' σ H h => by
    obtain ⟨r, M, G, E, R, q, k⟩ := EkOk.of h
    refine ⟨r, M, G, _, R, q, fun d M1 v H1 G1 q1 R1 s1 p1 => ?_⟩
    refine ⟨r, M1, G1, _, R1, q1, fun x M2 u H2 G2 q2 R2 s2 p2 => ?_⟩
    refine ⟨r, M2, G2, _, R2, q2, fun y M3 t H3 G3 q3 R3 s3 p3 => ?_⟩
    cases p3 with
    | int =>
      have q4 : setD x _ d M3 _ := q3
      unfold setD at q4
      split at q4
      · split at q4
        · rename_i p l e
          obtain ⟨j, ej, q5⟩ := optK_some q4
          cases p2
          obtain ⟨gp, vs, hp, rl⟩ := R3.wd.cells _ _ e
          obtain ⟨w, s⟩ := cell_put (c := .lst (l.set j d)) (o := .lst (vs.set j v)) R3.wd e ⟨_, upd_same, rl.set ((p1.mono s2).mono s3) j⟩
          exact ⟨_, vs, _, j, rfl, rfl, hp, by rw [← rl.length]; exact ej, k.nx _ _ _ _ _ q5 (R3.go w s) ((s1.tr s2).tr s3)⟩
        · exact q4.elim
      · exact q4.elim
    | _ => exact q3.elim

def signs (x : Str) : List D := x.cps.toList.map fun c => .str ⟨#[c]⟩
theorem di_str {tg : Expr} (he : DE X B e fa) : DI X B tg e (fun r M Ψ => fa r M fun d M1 => match d with | .str x => Ψ (signs x) (fun _ => True) M1 | _ => False) := PI_imp (pi_str he) fun σ H Q ⟨r, M, G, Ψ, R, h, k⟩ => by
  refine ⟨r, M, G, _, R, h, fun d M1 v H1 G1 q R1 s1 p => ?_⟩
  cases p with
  | @str x =>
    refine ⟨x, rfl, k _ _ _ _ _ _ q R1 s1 fun i r2 M2 σ2 H2 G2 R2 t2 _ => ?_⟩
    have hl : (signs x).length = x.cps.size := by unfold signs; rw [List.length_map, Array.length_toList]
    rw [hl]
    refine ⟨fun hi => ⟨hi, fun y H' ⟨e1, c, e2, e3⟩ => ?_⟩, fun hi => hi⟩
    subst e1 e3
    refine ⟨G2, _, Grow.refl R2.wd.sub, ?_, .str⟩
    unfold signs
    rw [List.getElem?_map, Array.getElem?_toList, e2]; rfl
  | _ => exact q.elim
def zipD (xs ys : List D) : List D := (xs.zip ys).map fun p => .tup [p.1, p.2]
theorem yld_pair {K : PySem.W.Frag} {r : En} {M : Sto} {σ : L2.St} {H G : Hp} {T : Addr} {x y : V} {c d : D} (R : Rel K B r M σ H G) (hT : H T = none) (p1 : Rep K G c x) (p2 : Rep K G d y) :
    Grow H G (upd H T (.tup [x, y])) (upd G T (.tup [x, y])) ∧ Rep K (upd G T (.tup [x, y])) (.tup [c, d]) (.ref T) := by
  have g := grow_upd (o := .tup [x, y]) R.wd.sub hT
  exact ⟨g, .tup (SqT.of upd_same) (.cons (p1.mono g.gsub) (.cons (p2.mono g.gsub) .nil))⟩
theorem zip_get {xs ys : List D} {i : Nat} {x y : D} (h1 : xs[i]? = some x) (h2 : ys[i]? = some y) : (zipD xs ys)[i]? = some (.tup [x, y]) := by
  unfold zipD
  rw [List.getElem?_map, List.getElem?_zip_eq_some (z := (x, y)) |>.mpr ⟨h1, h2⟩]; rfl
theorem di_zip {e2 : Expr} {p tpos : Pos} {elts : List Expr} {kk : Nat} (hm : X.mg "zip" = none) (ha : DA X B [e, e2] ga) (hg : Gl X "zip" := by rfl) (hs : starEach [e, e2] X.env = (false, eval e X.env) :: starEach [e2] X.env := by rfl) (hpl : (backTo pos (starEach [e2] X.env)).any (·.1) = false := by rfl) :
    DI X B (.Tuple elts kk tpos) (.Call (.Name "zip" p) [e, e2] [] pos) (fun r M Ψ => ga r M fun ds M1 => match ds with
      | [.tup xs, .tup ys] => Ψ (zipD xs ys) (fun _ => True) M1
      | [x, y] => ∃ xs ys, lstOf M1 x = some xs ∧ lstOf M1 y = some ys ∧ Ψ (zipD xs ys) (fun M => lstOf M x = some xs ∧ lstOf M y = some ys) M1
      | _ => False) := PI_imp (RZ.pi_zipA hg hm ha hs hpl) fun σ H Q ⟨r, M, G, Ψ, R, h, k⟩ => by
  refine ⟨r, M, G, _, R, h, fun ds M1 vs H1 G1 q R1 s1 p => ?_⟩
  split at q
  · rename_i xs ys
    cases p with
    | cons p1 p => cases p with
      | cons p2 p =>
        cases p
        obtain ⟨a, us, rfl, h1, r1⟩ := tup_rep R1.wd p1 (l := xs) rfl
        obtain ⟨b, ws, rfl, h2, r2⟩ := tup_rep R1.wd p2 (l := ys) rfl
        refine ⟨a, b, us, ws, rfl, .inr ⟨h1, h2, k _ _ _ _ _ _ q R1 s1 fun i r3 M3 σ3 H3 G3 R3 t3 _ => ?_⟩⟩
        obtain ⟨a', us', ea, h1', r1'⟩ := tup_rep R3.wd (p1.mono t3) (l := xs) rfl
        obtain ⟨b', ws', eb, h2', r2'⟩ := tup_rep R3.wd (p2.mono t3) (l := ys) rfl
        cases ea; cases eb
        have l1 := r1'.length
        have l2 := r2'.length
        have hz : (zipD xs ys).length = min xs.length ys.length := by unfold zipD; rw [List.length_map, List.length_zip]
        rw [hz]
        refine ⟨fun hi => ?_, fun hi => ⟨us', ws', h1', h2', by omega⟩⟩
        have i1 : i < xs.length := by omega
        have i2 : i < ys.length := by omega
        obtain ⟨x, hx, px⟩ := r1'.get (i := i) (d := xs[i]) (by simp [i1])
        obtain ⟨y, hy, py⟩ := r2'.get (i := i) (d := ys[i]) (by simp [i2])
        refine ⟨⟨us', ws', x, y, h1', h2', hx, hy⟩, fun v H' ⟨T, x', y', e1, hT, e2, f1, f2⟩ => ?_⟩
        subst e1 e2
        have z1 := f1 us' h1'
        have z2 := f2 ws' h2'
        rw [hx] at z1; rw [hy] at z2
        cases z1; cases z2
        obtain ⟨w1, w3⟩ := yld_pair R3 hT px py
        exact ⟨_, _, w1, zip_get (by simp [i1]) (by simp [i2]), w3⟩
  · rename_i x0 y0 _
    obtain ⟨xs, ys, e1, e2, q⟩ := q
    cases p with
    | cons p1 p => cases p with
      | cons p2 p =>
        cases p
        obtain ⟨a, us, rfl, h1, r1⟩ := lst_rep' R1.wd p1 e1
        obtain ⟨b, ws, rfl, h2, r2⟩ := lst_rep' R1.wd p2 e2
        refine ⟨a, b, us, ws, rfl, .inl ⟨h1, h2, k _ _ _ _ _ _ q R1 s1 fun i r3 M3 σ3 H3 G3 R3 t3 hS => ?_⟩⟩
        obtain ⟨a', us', ea, h1', r1'⟩ := lst_rep' R3.wd (p1.mono t3) hS.1
        obtain ⟨b', ws', eb, h2', r2'⟩ := lst_rep' R3.wd (p2.mono t3) hS.2
        cases ea; cases eb
        have l1 := r1'.length
        have l2 := r2'.length
        have hz : (zipD xs ys).length = min xs.length ys.length := by unfold zipD; rw [List.length_map, List.length_zip]
        rw [hz]
        refine ⟨fun hi => ?_, fun hi => ⟨us', ws', h1', h2', by omega⟩⟩
        have i1 : i < xs.length := by omega
        have i2 : i < ys.length := by omega
        obtain ⟨x, hx, px⟩ := r1'.get (i := i) (d := xs[i]) (by simp [i1])
        obtain ⟨y, hy, py⟩ := r2'.get (i := i) (d := ys[i]) (by simp [i2])
        refine ⟨⟨us', ws', x, y, h1', h2', hx, hy⟩, fun v H' ⟨T, x', y', e1, hT, e2, f1, f2⟩ => ?_⟩
        subst e1 e2
        have z1 := f1 us' h1'
        have z2 := f2 ws' h2'
        rw [hx] at z1; rw [hy] at z2
        cases z1; cases z2
        obtain ⟨w1, w3⟩ := yld_pair R3 hT px py
        exact ⟨_, _, w1, zip_get (by simp [i1]) (by simp [i2]), w3⟩
  · exact q.elim
end
end Z
namespace Z
open PySem PySem.Spec PyProof.Rows L2

theorem wipe_get {σ : L2.St} {j : Nat} : ∀ {vs : List Nat}, (wipe σ vs)[j]? = if j ∈ vs then (σ[j]?).map (fun _ => none) else σ[j]?
  | [] => by simp [wipe]
  | v :: vs => by
    unfold wipe
    have ih := @wipe_get σ j vs
    by_cases hv : v = j
    · subst hv
      rw [if_pos List.mem_cons_self]
      by_cases hl : v < (wipe σ vs).length
      · rw [List.getElem?_set_self hl]
        rw [wipe_length] at hl
        rw [List.getElem?_eq_getElem hl]; rfl
      · rw [List.getElem?_eq_none (by simpa using hl)]
        rw [wipe_length] at hl
        rw [List.getElem?_eq_none (by omega)]; rfl
    · rw [List.getElem?_set_ne hv, ih]
      have e : (j ∈ v :: vs) ↔ j ∈ vs := by
        rw [List.mem_cons]
        exact ⟨fun z => z.resolve_left fun q => hv q.symm, .inr⟩
      by_cases hm : j ∈ vs
      · rw [if_pos hm, if_pos (e.mpr hm)]
      · rw [if_neg hm, if_neg fun z => hm (e.mp z)]
theorem wipe_set {σ : L2.St} {i : Nat} {o : Option V} {vs : List Nat} (h : i ∈ vs) : wipe (σ.set i o) vs = wipe σ vs := by
  apply List.ext_getElem?
  intro j
  rw [wipe_get, wipe_get]
  by_cases hj : j ∈ vs
  · rw [if_pos hj, if_pos hj]
    by_cases hij : i = j
    · subst hij
      by_cases hl : i < σ.length
      · rw [List.getElem?_set_self hl, List.getElem?_eq_getElem hl]; rfl
      · rw [List.getElem?_eq_none (by simpa using hl), List.getElem?_eq_none (by omega)]
    · rw [List.getElem?_set_ne hij]
  · rw [if_neg hj, if_neg hj]
    exact List.getElem?_set_ne fun e => hj (by rw [← e]; exact h)
theorem wipe_wipe {σ : L2.St} {vs : List Nat} : wipe (wipe σ vs) vs = wipe σ vs := by
  apply List.ext_getElem?
  intro j
  rw [wipe_get]
  by_cases hj : j ∈ vs
  · rw [if_pos hj, wipe_get, if_pos hj]
    cases σ[j]? <;> rfl
  · rw [if_neg hj]
def wipeD (r : En) : List Nat → En
  | [] => r
  | v :: vs => (wipeD r vs).set v none
theorem Rel.wipe {K : PySem.W.Frag} {B : Bs} {r : En} {M : Sto} {σ : L2.St} {H G : Hp} (R : Rel K B r M σ H G) : ∀ vs : List Nat, Rel K B (wipeD r vs) M (L2.wipe σ vs) H G
  | [] => R
  | v :: vs => (R.wipe vs).unset v none
def TgOk (K : PySem.W.Frag) (vs : List Nat) (g : TG) (as : D → En → (En → Prop) → Prop) : Prop := ∀ (B : Bs) (d : D) (v : V) (r : En) (M : Sto) (σ : L2.St) (H G : Hp) (Ψ : En → Prop) (Q : L2.St → Hp → Prop), Rel K B r M σ H G → Rep K G d v → as d r Ψ →
  (∀ r' σ', Ψ r' → Rel K B r' M σ' H G → L2.wipe σ' vs = L2.wipe σ vs → Q σ' H) → g v σ H Q
def asN (i : Nat) : D → En → (En → Prop) → Prop := fun d r Ψ => Ψ (r.set i (some d))
theorem tg_name {K : PySem.W.Frag} {vs : List Nat} {i : Nat} (h : i ∈ vs) : TgOk K vs (gName i) (asN i) := fun B d v r M σ H G Ψ Q R p a k => k _ _ a (R.set p i) (wipe_set h)
def asT2 (i j : Nat) : D → En → (En → Prop) → Prop := fun d r Ψ => match d with
  | .tup [a, b] => Ψ ((r.set i (some a)).set j (some b))
  | _ => False
theorem tg_tup2 {K : PySem.W.Frag} {vs : List Nat} {i j : Nat} (h : i ∈ vs) (h' : j ∈ vs) : TgOk K vs (gTup K 2 (gCons (gName i) (gCons (gName j) gNil))) (asT2 i j) := fun B d v r M σ H G Ψ Q R p a k => by
  unfold asT2 at a
  split at a
  · rename_i x y
    obtain ⟨t, us, rfl, h1, r1⟩ := tup_rep R.wd p rfl
    cases r1 with
    | cons r1 r2 => cases r2 with
      | cons r2 r3 =>
        cases r3
        exact ⟨t, _, rfl, h1, rfl, _, _, rfl, _, _, rfl, rfl, k _ _ a ((R.set r1 i).set r2 j) (by rw [wipe_set h', wipe_set h])⟩
  · exact a.elim
def liftAny (K : PySem.W.Frag) (f : DTE) : TE := fun σ H Q => ∃ B, lift K B f σ H Q
def liftTAny (K : PySem.W.Frag) (f : DTT) : TT := fun σ H Q => ∃ B, liftT K B f σ H Q
theorem Rel.poke {K : PySem.W.Frag} {B : Bs} {r : En} {M : Sto} {σ : L2.St} {H G : Hp} {p : Addr} {xs ys : List V} (R : Rel K B r M σ H G) (hp : H p = some (.lst xs)) (h0 : B.H p = none) (hM : M p = none) (hG : G p = none) : Rel K B r M σ (upd H p (.lst ys)) G where
  wd := ⟨fun a o e => by rw [upd_ne (by intro z; rw [z, hG] at e; cases e)]; exact R.wd.sub _ _ e, fun a c e => by
    obtain ⟨h1, h2⟩ := R.wd.cells a c e
    exact ⟨h1, h2.move Sub.rfl' fun o z => by rw [upd_ne (by intro q; rw [q, hM] at e; cases e)]; exact z⟩⟩
  len := R.len
  slots := R.slots
  sin := ⟨fun a o h n => by rw [upd_ne (by intro z; rw [z, h0] at h; cases h)]; exact R.sin.keep a o h n, fun a h => by rw [upd_ne (by intro z; rw [z, h0] at h; exact h rfl)]; exact R.sin.stay a h, R.sin.gsub, R.sin.gnew, R.sin.mnew⟩
@[irreducible] def compD (vs : List Nat) (wi : DTI) (as : D → En → (En → Prop) → Prop) (tt : DTT) (fe : DTE) (r : En) (M : Sto) (Φ : List D → Sto → Prop) : Prop := wi r M fun xs S M1 => ∃ Iv : Nat → List D → Sto → Prop, Iv 0 [] M1 ∧ (∀ i acc M, Iv i acc M → S M) ∧
  (∀ i d acc M, xs[i]? = some d → Iv i acc M → as d (wipeD r vs) fun r2 => tt r2 M fun b M3 => if b = true then fe r2 M3 fun y M4 => acc.length < sizeLine ∧ Iv (i + 1) (acc ++ [y]) M4 else Iv (i + 1) acc M3) ∧ ∀ acc M, Iv xs.length acc M → Φ acc M
section
variable {X : Cx} {B : Bs} {pos apos p2 : Pos} {e o : Expr} {es : List Expr} {fa fe : DTE} {tt : DTT} {ga : DTA} {k : Nat}
theorem comp_core {vs : List Nat} {wi : DTI} {g : TG} {as : D → En → (En → Prop) → Prop} (tg : TgOk X.K vs g as) {σ : L2.St} {H : Hp} {Q : VK} {r : En} {M : Sto} {G : Hp} {Φ : List D → Sto → Prop} (R : Rel X.K B r M σ H G) (h : compD vs wi as tt fe r M Φ)
    (hQ : ∀ acc M' H' G' D us, Φ acc M' → Rel X.K B r M' σ H' G' → Sub G G' → H' D = some (.lst us) → RepL X.K G' acc us → B.H D = none → M' D = none → G' D = none → Q (.ref D) H') : tLc (liftI X.K B wi) g (liftTAny X.K tt) (liftAny X.K fe) vs σ H Q := by
  unfold compD at h
  refine ⟨r, M, G, _, R, h, fun xs S M1 J H1 G1 ⟨Iv, i0, hS, turn, fin⟩ R1 s1 y => fun D hD => ?_⟩
  have bD : B.H D = none := by
    cases q : B.H D with
    | none => rfl
    | some o => exact absurd hD (R1.sin.stay D (by rw [q]; simp))
  have gD : G1 D = none := by
    cases q : G1 D with
    | none => rfl
    | some u => rw [R1.wd.sub _ _ q] at hD; cases hD
  have mD := R1.wd.nomem hD
  have R1' : Rel X.K B r M1 σ (upd H1 D (.lst [])) G1 := by
    refine R1.go ⟨fun a o e => by rw [upd_ne (ne_of_none (R1.wd.sub _ _ e) hD)]; exact R1.wd.sub _ _ e, fun a c e => ?_⟩ ⟨fun a o h _ => by rw [upd_ne (ne_of_none h hD)]; exact h, fun a h => ?_, Sub.rfl', fun a h n => absurd n h, fun a h n => absurd n h⟩
    · obtain ⟨h1, h2⟩ := R1.wd.cells a c e
      exact ⟨h1, h2.move Sub.rfl' fun o z => by rw [upd_ne (ne_of_none z hD)]; exact z⟩
    · by_cases z : a = D
      · rw [z, upd_same]; simp
      · rw [upd_ne z]; exact h
  refine ⟨fun i m H => ∃ acc us M G2, Rel X.K B r M σ H G2 ∧ Sub G1 G2 ∧ H D = some (.lst us) ∧ RepL X.K G2 acc us ∧ M D = none ∧ G2 D = none ∧ Iv i acc M ∧ i ≤ xs.length ∧ m = xs.length - i, ⟨_, [], [], M1, G1, R1', Sub.rfl', upd_same, .nil, mD, gD, i0, Nat.zero_le _, rfl⟩, ?_⟩
  rintro i m H2 ⟨acc, us, M2, G2, R2, s2, hL, rl, mD2, gD2, i2, hi, rfl⟩
  obtain ⟨y1, y2⟩ := y i r M2 σ H2 G2 R2 s2 (hS _ _ _ i2)
  by_cases hl : i < xs.length
  · obtain ⟨y3, y4⟩ := y1 hl
    refine .inr ⟨y3, fun H => ∃ acc us M G2, Rel X.K B r M σ H G2 ∧ Sub G1 G2 ∧ H D = some (.lst us) ∧ RepL X.K G2 acc us ∧ M D = none ∧ G2 D = none ∧ Iv (i + 1) acc M, fun H ⟨acc, us, M, G2, a1, a2, a3, a4, a5, a6, a7⟩ => ⟨_, by omega, acc, us, M, G2, a1, a2, a3, a4, a5, a6, a7, hl, rfl⟩, fun x H3 hy => ?_⟩
    -- the item has come: the list is what it was
    obtain ⟨G3, d, g3, hd, p⟩ := y4 x H3 hy
    have R3 := R2.grow g3
    have hL3 := g3.same _ _ hL
    have mem_free : ∀ {H' G' : Hp}, Grow H2 G2 H' G' → G' D = none := fun {H' G'} g => by
      cases q : G' D with
      | none => rfl
      | some u => have z := g.gnew D (by rw [q]; simp) gD2; rw [hL] at z; cases z
    have gD3 := mem_free g3
    -- the base of this turn
    have Rw := R3.wipe vs
    have Ri : Rel X.K ⟨H3, G3, M2⟩ (wipeD r vs) M2 (L2.wipe σ vs) H3 G3 := ⟨Rw.wd, Rw.len, Rw.slots, Since.refl⟩
    have back : ∀ {r' : En} {M' : Sto} {σ' : L2.St} {H' G' : Hp}, Rel X.K ⟨H3, G3, M2⟩ r' M' σ' H' G' → Rel X.K B r M' σ H' G' ∧ Sub G3 G' ∧ H' D = some (.lst us) ∧ M' D = none ∧ G' D = none := fun {r' M' σ' H' G'} R' => by
      refine ⟨R3.go R'.wd R'.sin, R'.sin.gsub, R'.sin.keep D _ hL3 mD2, ?_, ?_⟩
      · cases q : M' D with
        | none => rfl
        | some c => have z := R'.sin.mnew D (by rw [q]; simp) mD2; rw [show (⟨H3, G3, M2⟩ : Bs).H D = H3 D from rfl, hL3] at z; cases z
      · cases q : G' D with
        | none => rfl
        | some c => have z := R'.sin.gnew D (by rw [q]; simp) gD3; rw [show (⟨H3, G3, M2⟩ : Bs).H D = H3 D from rfl, hL3] at z; cases z
    refine tg ⟨H3, G3, M2⟩ d x (wipeD r vs) M2 (L2.wipe σ vs) H3 G3 _ _ Ri p (turn i d acc M2 hd i2) fun r' σ' q' R' hw => ⟨by rw [hw, wipe_wipe], ⟨H3, G3, M2⟩, r', M2, G3, _, R', q', fun b M4 H4 G4 q4 R4 s4 => ?_⟩
    cases b with
    | false =>
      obtain ⟨b1, b2, b3, b4, b5⟩ := back R4
      exact ⟨acc, us, M4, G4, b1, (s2.tr g3.gsub).tr b2, b3, (rl.mono g3.gsub).mono b2, b4, b5, q4⟩
    | true =>
      refine ⟨⟨H3, G3, M2⟩, r', M4, G4, _, R4, q4, fun y M5 v H5 G5 ⟨z5, q5⟩ R5 s5 p5 => ?_⟩
      obtain ⟨b1, b2, b3, b4, b5⟩ := back R5
      have rl5 := (rl.mono g3.gsub).mono b2
      exact ⟨us, b3, by rw [← rl.length]; exact z5, acc ++ [y], us ++ [v], M5, G5, b1.poke b3 bD b4 b5, (s2.tr g3.gsub).tr b2, upd_same, rl5.app (.cons p5 .nil), b4, b5, q5⟩
  · have e : i = xs.length := by omega
    subst e
    exact .inl ⟨y2 (Nat.le_refl _), hQ _ _ _ _ _ _ (fin _ _ i2) R2 (s1.tr s2) hL rl bD mD2 gD2⟩
theorem frz_list {K : PySem.W.Frag} {r : En} {M : Sto} {σ : L2.St} {H G : Hp} {p : Addr} {us : List V} {acc : List D} (R : Rel K B r M σ H G) (hp : H p = some (.lst us)) (rl : RepL K G acc us) (h0 : B.H p = none) (hM : M p = none) (hG : G p = none) :
    Rel K B r M σ H (upd G p (.lst us)) ∧ Sub G (upd G p (.lst us)) ∧ Rep K (upd G p (.lst us)) (.lst acc) (.ref p) := by
  have s : Sub G (upd G p (.lst us)) := fun a o e => by rw [upd_ne (by intro z; rw [z, hG] at e; cases e)]; exact e
  refine ⟨⟨⟨fun a o e => ?_, fun a c e => ?_⟩, R.len, fun i d e => let ⟨v, h1, h2⟩ := R.slots i d e; ⟨v, h1, h2.mono s⟩, ⟨R.sin.keep, R.sin.stay, R.sin.gsub.tr s, fun a h n => ?_, R.sin.mnew⟩⟩, s, .lst (.inl upd_same) (rl.mono s)⟩
  · by_cases z : a = p
    · rw [z, upd_same] at e; cases e; rw [z]; exact hp
    · rw [upd_ne z] at e; exact R.wd.sub _ _ e
  · obtain ⟨h1, h2⟩ := R.wd.cells a c e
    refine ⟨?_, h2.move s fun _ z => z⟩
    rw [upd_ne (by intro z; rw [z, hM] at e; cases e)]; exact h1
  · by_cases z : a = p
    · rw [z]; exact h0
    · rw [upd_ne z] at h; exact R.sin.gnew a h n
theorem de_lc {elt tg iter : Expr} {ifs : List Expr} {scope : Scope} {own : List (Str × Nat)} {wi : DTI} {g : TG} {as : D → En → (En → Prop) → Prop} (hc : X.calm = true) (hN : X.N.Nodup) (hi : DI X B tg iter wi) (ok : BlkOk X.N X.env.scope scope own) (tgk : TgOk X.K (own.map (·.2)) g as)
    (hg : ∀ (s : Shared) (H : Hp) (C : Addr) (cl : List (Str × Addr)) (fp : List Addr), PG (X.blk s H scope (compEnvC scope cl C X.env) fp) tg g)
    (ht : ∀ (B : Bs) (s : Shared) (H : Hp) (C : Addr) (cl : List (Str × Addr)) (fp : List Addr), PTs (X.blk s H scope (compEnvC scope cl C X.env) fp) ifs (liftT X.K B tt))
    (he : ∀ (B : Bs) (s : Shared) (H : Hp) (C : Addr) (cl : List (Str × Addr)) (fp : List Addr), PE (X.blk s H scope (compEnvC scope cl C X.env) fp) elt (lift X.K B fe)) (hs : ∀ x, foldedSetIterable iter X.env x = pure x := by intro _; rfl) :
    DE X B (.ListComp elt [⟨tg, iter, ifs, 0⟩] scope pos) (fun r M Ψ => compD (own.map (·.2)) wi as tt fe r M fun acc M' => Ψ (.lst acc) M') :=
  PE_imp (pe_lc hc hN hi ok hg (fun s H C cl fp => ⟨fun pins s1 σ H1 Q I ⟨B', q⟩ => (ht B' s H C cl fp).run pins s1 σ H1 Q I q⟩) (fun s H C cl fp => ⟨fun pins s1 σ H1 Q I ⟨B', q⟩ => (he B' s H C cl fp).run pins s1 σ H1 Q I q⟩) hs) fun σ H Q ⟨r, M, G, Ψ, R, h, k⟩ =>
    comp_core tgk R h fun acc M' H' G' D us q R' s hL rl h0 hM hG => by
      obtain ⟨a1, a2, a3⟩ := frz_list R' hL rl h0 hM hG
      exact k _ _ _ _ _ q a1 (s.tr a2) a3
theorem ds_setLc {i : Nat} {y : Str} {py spos : Pos} {elt tg iter : Expr} {ifs : List Expr} {scope : Scope} {own : List (Str × Nat)} {wi : DTI} {g : TG} {as : D → En → (En → Prop) → Prop} (hc : X.calm = true) (hN : X.N.Nodup) (hsw : swapsWith (.ListComp elt [⟨tg, iter, ifs, 0⟩] scope pos) (some (.Name y py)) spos.line X.env = pure true) (hi : DI X B tg iter wi) (ok : BlkOk X.N X.env.scope scope own) (tgk : TgOk X.K (own.map (·.2)) g as)
    (hg : ∀ (s : Shared) (H : Hp) (C : Addr) (cl : List (Str × Addr)) (fp : List Addr), PG (X.blk s H scope (compEnvC scope cl C X.env) fp) tg g)
    (ht : ∀ (B : Bs) (s : Shared) (H : Hp) (C : Addr) (cl : List (Str × Addr)) (fp : List Addr), PTs (X.blk s H scope (compEnvC scope cl C X.env) fp) ifs (liftT X.K B tt))
    (he : ∀ (B : Bs) (s : Shared) (H : Hp) (C : Addr) (cl : List (Str × Addr)) (fp : List Addr), PE (X.blk s H scope (compEnvC scope cl C X.env) fp) elt (lift X.K B fe)) (hs : ∀ x, foldedSetIterable iter X.env x = pure x := by intro _; rfl) (hy : X.N[i]? = some y := by rfl) (hyl : X.env.scope.names.lookup y = some .local := by rfl) :
    DS X B (.Assign [.Name y py] (.ListComp elt [⟨tg, iter, ifs, 0⟩] scope pos) spos) (fun E r M => compD (own.map (·.2)) wi as tt fe r M fun acc M' => E.nx (r.set i (some (.lst acc))) M') :=
  PS_imp (ps_setLc (tt := liftTAny X.K tt) (te := liftAny X.K fe) hc hN hy hyl hsw hi ok hg (fun s H C cl fp => ⟨fun pins s1 σ H1 Q I ⟨B', q⟩ => (ht B' s H C cl fp).run pins s1 σ H1 Q I q⟩) (fun s H C cl fp => ⟨fun pins s1 σ H1 Q I ⟨B', q⟩ => (he B' s H C cl fp).run pins s1 σ H1 Q I q⟩) hs) fun D' σ H h => by
    obtain ⟨r, M, G, E, R, h, k⟩ := EkOk.of h
    refine comp_core tgk R h fun acc M' H' G' D us q R' s hL rl h0 hM hG => ?_
    obtain ⟨a1, a2, a3⟩ := frz_list R' hL rl h0 hM hG
    exact k.nx _ _ _ _ _ q (a1.set a3 i) (s.tr a2)
theorem dts_nil : PTs X [] (liftT X.K B fun _ M Ψ => Ψ true M) := ⟨fun pins s σ H Q I ⟨r, M, G, Ψ, R, h, k⟩ => pts_nil.run pins s σ H Q I (k _ _ _ _ h R Sub.rfl')⟩
end
end Z
namespace Z
open PySem PySem.Spec PyProof.Rows L2

structure OexG (K : PySem.W.Frag) (C : Addr) : Prop where
  base : ∃ (B newId initId : String) (bmB : List Value), ExcBaseFacts B newId initId bmB ∧ PySem.StoreFacts B bmB "object.__setattr__" "object" ∧ PySem.W.excOver K C bmB = true ∧
    ∃ nm q N bs bm sn sub ab col dd k0 k1 k2 k3 k5, K.lookup C = some (excClassObj nm q C N bs bm true sn sub ab col dd k0 k1 k2 k3 k5 newId) ∧ ∀ Y : String, bm.contains (.type Y) = bmB.contains (.type Y)
  sa : PySem.W.findIn K (.ref C) "__setattr__" = some (some (.builtin "object.__setattr__"))
  exC : PySem.W.subIn K (.ref C) (.type "BaseException") = some true
  tyC : PySem.W.typeIn K (.ref C) = some (.type "type")
  kC : PySem.W.keepIn K (.ref C) = true
section
variable {X : Cx} {pins : List (Addr × Obj)} {σ : L2.St} {H : Hp} {s : Shared} {a C dx : Addr} {f : Str} {y : V} {u : Value} {fs : List (Str × V)} {Q : Unit → Shared → Prop} {E : Value → Shared → Prop} {A : Around}
theorem taker_none {K : PySem.W.Frag} (h : PySem.W.findIn K (.ref C) f = some none) : PySem.W.takerIn K C f = some none := by
  unfold PySem.W.takerIn
  rw [h]
  rfl
open PySem.Builtin PySem.Builtin.ObjectAttr in
theorem ostG_new (T : OexG X.K C) (I : L2.Inv X pins σ H s) (e : H a = some (exo a C none)) (hno : PySem.W.findIn X.K (.ref C) f = some none) (ry : RelV y u)
    (h : ∀ dx s', H dx = none → dx ≠ a → L2.Inv X pins σ (upd (upd H dx (exd dx [(f, y)])) a (exo a C (some dx))) s' → Q () s') : wpAny (model X.prog X.w) A (setAttr (.ref a) f u) Q E s := by
  obtain ⟨B0, nw, ini, bmB, FB, SF, ov, nm, q, N, bs, bm, sn, sub, ab, col, dd, k0, k1, k2, k3, k5, hC, hbm⟩ := T.base
  obtain ⟨t1, ho⟩ := exo_at I.hok e
  have cl0 : PySem.W.clsIn X.K C = some { name := nm, bases := bs, mro := .ref C :: bm, ns := N, qualname := q, hasDict := true, slotNames := sn, subclasses := sub, abstract := ab, collection := col, hasDel := false } := by
    unfold PySem.W.clsIn
    rw [hC] <;> rfl
  have lk := PySem.W.looks_clsIn (M := model X.prog X.w) I.kIn cl0
  obtain ⟨hp, gn, dr, tk, os⟩ := s
  have J := (⟨ho, rfl, rfl, trivial⟩ : PySem.W.InstAt hp a { cls := .ref C, dict := none, data := .fields #[.ref t1, .none, .none, .none, .bool false, .none] } C none)
  have as_ : a ≠ hp.objs.size := Nat.ne_of_lt (Heap.lt_size ho)
  refine PySem.W.set_plain I.kIn J T.sa (PySem.W.osa_openX SF I.kIn J ov (taker_none hno) fun b => ?_)
  dsimp only
  unfold storeInOwnDict ownDictForStores
  repeat (first | with_reducible refine PySem.HandSPX.store_in_new ?_ ?_ | with_reducible refine wpAny_loadPart_at ho ?_ | with_reducible refine lk.at ?_ | wp_step)
  · exact ⟨_, #[], _, (Heap.get?_update_ne _ _ _ _ as_.symm).trans (Heap.get?_push_at rfl rfl), rfl, fun en he => absurd he (by simp), fun _ => rfl⟩
  intro h' tk' hn sb
  have gd : ∀ b o, b ≠ a → hp.get? b = some o → h'.get? b = some o := fun b o hb eo => (sb.2 b (Nat.ne_of_lt (Heap.lt_size eo))).trans ((Heap.get?_update_ne _ _ _ _ hb).trans (Heap.get?_push_of_some _ eo))
  have ga : h'.get? a = some { cls := .ref C, dict := some hp.objs.size, data := .fields #[.ref t1, .none, .none, .none, .bool false, .none] } := (sb.2 a as_).trans (Heap.get?_update_self _ (Heap.get?_push_of_some _ ho) rfl)
  -- between: the dict is there, the exception does not know of it
  obtain ⟨hm, em⟩ : ∃ hm : Heap, hm = h'.update a fun _ => { cls := .ref C, dict := none, data := .fields #[.ref t1, .none, .none, .none, .bool false, .none] } := ⟨_, rfl⟩
  have ma : hm.get? a = some { cls := .ref C, dict := none, data := .fields #[.ref t1, .none, .none, .none, .bool false, .none] } := by
    rw [em]
    exact Heap.get?_update_self _ ga rfl
  have mb : ∀ b, b ≠ a → hm.get? b = h'.get? b := fun b hb => by
    rw [em]
    exact Heap.get?_update_ne _ _ _ _ hb
  have nm1 : hm.Ns1 hp.objs.size (fun z => if z = f then some u else none) := hn.at fun o eo => (mb _ as_.symm).trans eo
  have I1 : L2.Inv X pins σ (upd H hp.objs.size (exd hp.objs.size [(f, y)])) ⟨hm, gn, dr, tk', os⟩ := I.laid (t' := tk') (fun b o eo => by
    by_cases hb : b = a
    · subst hb
      rw [ma, ← ho]
      exact eo
    · exact (mb b hb).trans (gd b o hb eo)) (Nat.le_refl _) (exd_ok nm1 (relO_put (fs := []) ry fun _ => True.intro))
  have e1 : upd H hp.objs.size (exd hp.objs.size [(f, y)]) a = some (exo a C none) := by rw [upd_ne as_, e]
  have I2 := I1.write (t' := tk') (h' := h') (x := a) (e := a) (o := exo a C (some hp.objs.size)) (by rw [e1]; exact True.intro) (.inl rfl) (fun b o hb eo => (mb b hb).symm.trans eo) ⟨_, ga⟩ (exo_ok ga)
  exact h _ _ (I.hok.fresh (Nat.le_refl _)) as_.symm I2
open PySem.Builtin PySem.Builtin.ObjectAttr in
theorem ostG_old (T : OexG X.K C) (I : L2.Inv X pins σ H s) (e : H a = some (exo a C (some dx))) (ed : H dx = some (exd dx fs)) (hl : fs.length ≤ 900) (hno : PySem.W.findIn X.K (.ref C) f = some none) (ry : RelV y u)
    (h : ∀ s', L2.Inv X pins σ (upd H dx (exd dx ((f, y) :: fs))) s' → Q () s') : wpAny (model X.prog X.w) A (setAttr (.ref a) f u) Q E s := by
  obtain ⟨B0, nw, ini, bmB, FB, SF, ov, nm, q, N, bs, bm, sn, sub, ab, col, dd, k0, k1, k2, k3, k5, hC, hbm⟩ := T.base
  obtain ⟨t1, ho⟩ := exo_at I.hok e
  obtain ⟨mA, hns, rel⟩ := exd_at I.hok ed
  have hw := within_of rel
  have cl0 : PySem.W.clsIn X.K C = some { name := nm, bases := bs, mro := .ref C :: bm, ns := N, qualname := q, hasDict := true, slotNames := sn, subclasses := sub, abstract := ab, collection := col, hasDel := false } := by
    unfold PySem.W.clsIn
    rw [hC] <;> rfl
  have lk := PySem.W.looks_clsIn (M := model X.prog X.w) I.kIn cl0
  obtain ⟨hp, gn, dr, tk, os⟩ := s
  obtain ⟨oD, _, _, hoD, _, _⟩ := hns.count hw
  have J := (⟨ho, rfl, rfl, hoD⟩ : PySem.W.InstAt hp a { cls := .ref C, dict := some dx, data := .fields #[.ref t1, .none, .none, .none, .bool false, .none] } C (some oD))
  refine PySem.W.set_plain I.kIn J T.sa (PySem.W.osa_openX SF I.kIn J ov (taker_none hno) fun b => ?_)
  dsimp only
  unfold storeInOwnDict ownDictForStores
  repeat (first | with_reducible refine PySem.OEX.store_in_old hns hw (by rw [List.length_map]; omega) ?_ | with_reducible refine wpAny_loadPart_at ho ?_ | with_reducible refine lk.at ?_ | wp_step)
  intro h' tk' hn sb
  obtain ⟨o2, e2⟩ : ∃ o, h'.get? dx = some o := by
    obtain ⟨o, _, _, z, _⟩ := hn
    exact ⟨o, z⟩
  exact h _ (I.write (t' := tk') (x := dx) (e := dx) (o := exd dx ((f, y) :: fs)) (by rw [ed]; exact True.intro) (.inl rfl) (fun b o hb eo => (sb.2 b hb).trans eo) ⟨o2, e2⟩ (exd_ok hn (relO_put ry rel)))
end
def tOstG (K : PySem.W.Frag) (f : Str) (to te : TE) : TS := fun D σ H => te σ H fun y H1 => to σ H1 fun x H2 => ∃ a C : Addr, x = .ref a ∧ OexG K C ∧ PySem.W.findIn K (.ref C) f = some none ∧ ((H2 a = some (exo a C none) ∧ ∀ dx, H2 dx = none → dx ≠ a → D.nx σ (upd (upd H2 dx (exd dx [(f, y)])) a (exo a C (some dx)))) ∨
    ∃ (dx : Addr) (fs : List (Str × V)), H2 a = some (exo a C (some dx)) ∧ H2 dx = some (exd dx fs) ∧ fs.length ≤ 900 ∧ D.nx σ (upd H2 dx (exd dx ((f, y) :: fs))))
theorem ps_ostG {X : Cx} {o e : Expr} {to te : TE} {f : Str} {p' pos : Pos} (ho : PE X o to) (he : PE X e te) (hs : swapsWith e (some (.Attribute o f p')) pos.line X.env = pure false := by rfl) : PS X (.Assign [.Attribute o f p'] e pos) (tOstG X.K f to te) :=
  ⟨fun pins s σ H D I h => plainObj_wpAny_Assign_Attribute (thn (he.run pins s σ H _ I h) fun u1 s1 ⟨y, H1, I1, ry, q1⟩ => thn (ho.run pins s1 σ H1 _ I1 q1) fun u2 s2 ⟨x, H2, I2, rx, a, C, ex, T, hno, q⟩ => by
    subst ex
    obtain rfl : u2 = Value.ref a := rx
    exact q.elim (fun ⟨ea, z⟩ => ostG_new T I2 ea hno ry fun dx s' n ne J => ⟨σ, _, J, z dx n ne⟩) fun ⟨dx, fs, ea, ed, hl, z⟩ => ostG_old T I2 ea ed hl hno ry fun s' J => ⟨σ, _, J, z⟩) hs⟩
def spX (C : Addr) (n : Nat) (g : List V → List (Str × V)) : Sp := fun vs H Q _ => vs.length = n + 1 ∧ ∃ a ws, vs = .ref a :: ws ∧ H a = some (exo a C none) ∧
  ∀ dx H', H dx = none → dx ≠ a → H' a = some (exo a C (some dx)) → H' dx = some (exd dx (g ws)) → (∀ b, b ≠ a → b ≠ dx → H' b = H b) → Q .non H'
section
variable {P : Program} {w : World} {K : PySem.W.Frag} {mg : Str → Option Value} {base : Heap}
def tag2 (t fl : Str) : List V → List (Str × V) := fun ws => match ws with
  | [v] => [(fl, v), ("tag", .str t)]
  | _ => []
def tag1 (t : Str) : List V → List (Str × V) := fun _ => [("tag", .str t)]
theorem x1_ok {x qual : Str} {st : Stmt} {f C : Addr} {fd : FuncData} {t fl : Str} {j : Nat} {p1 p2 p3 p4 p5 p6 p7 p8 : Pos} {sc : Scope} (F : Fun K x qual st f fd) (T : OexG K C) (n1 : PySem.W.findIn K (.ref C) "tag" = some none) (n2 : PySem.W.findIn K (.ref C) fl = some none)
    (hb : defBody st = [.Assign [.Attribute (.Name "self" p1) "tag" p2] (.Constant (.str t) j p3) p4, .Assign [.Attribute (.Name "self" p5) fl p6] (.Name fl p7) p8]) (hs : defScope st = sc) (S : FnScope ["self", fl] ["self", fl] sc) (hv : sc.names.lookup ("self" : Str) = some .local) (hv2 : sc.names.lookup fl = some .local) (hd : (fl == ("__debug__" : Str)) = false)
    (hc : (fl == ("__classdict__" : Str)) = false) : FnOk P w K mg base (L2.CX P w) 1 f fd ["self", fl] (spX C 1 (tag2 t fl)) := by
  subst hs
  refine F.okX S (fun vs H Q E h => h.1) fun cdv A outer s H vs Q E hr h => ?_
  obtain ⟨hl, a, ws, rfl, ha, k⟩ := h
  obtain ⟨v, rfl⟩ : ∃ v, ws = [v] := by
    match ws, hl with
    | [v], _ => exact ⟨v, rfl⟩
  rw [hb]
  refine ⟨_, pss_cons (ps_ostG (pe_var (i := 0) rfl (.inl hv)) pe_str) (pss_one (ps_ostG (pe_var (i := 0) rfl (.inl hv)) (pe_var (i := 1) rfl (.inl hv2) hd hc))), ?_⟩
  refine ⟨_, rfl, a, C, rfl, T, n1, .inl ⟨ha, fun dx hdx hne => ?_⟩⟩
  refine ⟨_, rfl, _, rfl, a, C, rfl, T, n2, .inr ⟨dx, _, upd_same, by rw [upd_ne hne, upd_same], Nat.le_of_ble_eq_true rfl, ?_⟩⟩
  refine k dx _ hdx hne (by rw [upd_ne hne.symm, upd_same]) upd_same fun b h1 h2 => ?_
  rw [upd_ne h2, upd_ne h1, upd_ne h2]
theorem x0_ok {x qual : Str} {st : Stmt} {f C : Addr} {fd : FuncData} {t : Str} {j : Nat} {p1 p2 p3 p4 : Pos} {sc : Scope} (F : Fun K x qual st f fd) (T : OexG K C) (n1 : PySem.W.findIn K (.ref C) "tag" = some none)
    (hb : defBody st = [.Assign [.Attribute (.Name "self" p1) "tag" p2] (.Constant (.str t) j p3) p4]) (hs : defScope st = sc) (S : FnScope ["self"] ["self"] sc) (hv : sc.names.lookup ("self" : Str) = some .local) : FnOk P w K mg base (L2.CX P w) 1 f fd ["self"] (spX C 0 (tag1 t)) := by
  subst hs
  refine F.okX S (fun vs H Q E h => h.1) fun cdv A outer s H vs Q E hr h => ?_
  obtain ⟨hl, a, ws, rfl, ha, k⟩ := h
  rw [hb]
  refine ⟨_, pss_one (ps_ostG (pe_var (i := 0) rfl (.inl hv)) pe_str), ?_⟩
  refine ⟨_, rfl, a, C, rfl, T, n1, .inl ⟨ha, fun dx hdx hne => ?_⟩⟩
  refine k dx _ hdx hne upd_same (by rw [upd_ne hne, upd_same]; rfl) fun b h1 h2 => ?_
  rw [upd_ne h1, upd_ne h2]
structure Xf (P : Program) (w : World) (K : PySem.W.Frag) (mg : Str → Option Value) (base : Heap) (x : Str) (C : Addr) (n : Nat) (g : List V → List (Str × V)) : Prop where
  cls : OexG K C
  mgC : mg x = some (.ref C)
  ex : ∃ fI fd ps, PySem.W.findIn K (.ref C) "__init__" = some (some (.ref fI)) ∧ PySem.W.typeIn K (.ref fI) = some (.type "function") ∧ FnOk P w K mg base (L2.CX P w) 1 fI fd ps (spX C n g) ∧ Binds K fd ps [] ∧ ps.length = n + 1
end
section
variable {X : Cx} {B : Bs} {Ξ : XD → En → Sto → Prop} {pos p : Pos} {e : Expr} {es : List Expr} {ga : DTA} {k n : Nat} {x : Str} {C : Addr} {g : List V → List (Str × V)}
theorem mk_x (XF : Xf X.prog X.w X.K X.mg X.base x C n g) (hr : Room k X.A) (hk : 2 ≤ k) {pins : List (Addr × Obj)} {s : Shared} {σ : L2.St} {H : Hp} {Q : XK} {us : List Value} {vs : List V} (I : L2.Inv X pins σ H s) (rv : Vals vs us) (hl : vs.length = n) (hn : n ≤ 1000)
    (q : ∀ d H', H d = none → H' d = some (.xd (g vs)) → (∀ b, b ≠ d → H' b = H b) → Q (.ref C) (some d) H') : wpAny (model X.prog X.w) X.A (call (.ref C) us) (MkP X pins σ Q) X.xe s := by
  obtain ⟨fI, fd, ps, iC, tI, FO, hb, lp⟩ := XF.ex
  have T := XF.cls
  obtain ⟨B0, nw, ini, bmB, FB, SF, ov, nm, qq, N, bs, bm, sn, sub, ab, col, dd, k0, k1, k2, k3, k5, hC, hbm⟩ := T.base
  obtain ⟨hp, gn, dr, tk, os⟩ := s
  generalize ea : hp.objs.size + 1 = a
  have hsz : hp.objs.size ≤ a := by omega
  have na : H a = none := I.hok.fresh hsz
  have kk : ∀ b o, hp.get? b = some o → ((hp.push (PySem.W.kdv_tup us)).push (PySem.HandSPX.excO C hp.objs.size)).get? b = some o := fun b o z => Heap.get?_push_of_some _ (Heap.get?_push_of_some _ z)
  have hget : ((hp.push (PySem.W.kdv_tup us)).push (PySem.HandSPX.excO C hp.objs.size)).get? a = some (PySem.HandSPX.excO C hp.objs.size) := by rw [← ea]; heap_get
  have I2 : L2.Inv X pins σ (upd H a (exo a C none)) ⟨(hp.push (PySem.W.kdv_tup us)).push (PySem.HandSPX.excO C hp.objs.size), gn, dr, tk, os⟩ := I.laid (t' := tk) kk hsz (exo_ok hget)
  have r2 : Vals (V.ref a :: vs) (Value.ref a :: us) := .cons rfl rv
  have hul : (Value.ref a :: us ++ []).length = ps.length := by rw [List.append_nil, ← r2.length, lp, List.length_cons, hl]
  have hus : us.length ≤ sizeLine := by rw [← rv.length, hl, sizeLine_eq]; omega
  have hsp : spX C n g (V.ref a :: vs) (upd H a (exo a C none)) (fun v H2 => v = .non ∧ ∃ d, H d = none ∧ H2 a = some (exo a C (some d)) ∧ H2 d = some (exd d (g vs)) ∧ Q (.ref C) (some d) (upd (del H2 a) d (.xd (g vs)))) (fun _ _ _ => False) := by
    refine ⟨by rw [List.length_cons, hl], a, vs, rfl, upd_same, fun dx H' h1 h2 h3 h4 h5 => ⟨rfl, dx, ?_, h3, h4, q dx _ ?_ upd_same fun b hb => ?_⟩⟩
    · rw [upd_ne h2] at h1; exact h1
    · rw [upd_ne h2] at h1; exact h1
    · rw [upd_ne hb]
      by_cases z : b = a
      · rw [z, del_same, na]
      · rw [del_ne z, h5 b z hb, upd_ne z]
  refine wpAny_call (PySem.HandSPX.call_own FB hbm (I.kIn _ _ hC) (PySem.W.looks_findIn I.kIn iC) (fun self => PySem.W.bind_fn I.kIn self tI) hus ?_)
  rw [ea]
  refine codeAny_mono (FO.run _ X.stack _ _ ⟨Value.ref a :: us, []⟩ (Value.ref a :: us) _ _ (fun _ _ _ => False) ((hr.mono hk).make C us []) (I2.env0.make C us []) ?_ r2 hsp) fun r s' hq' => ?_
  · have z := hb ⟨(hp.push (PySem.W.kdv_tup us)).push (PySem.HandSPX.excO C hp.objs.size), gn, dr, tk, os⟩ (Value.ref a :: us) I2.kIn hul
    rw [List.append_nil] at z
    exact z
  · cases r with
    | error er =>
      obtain ⟨_, _, _, _, _, _, _, _, _, _, _, _, z⟩ := hq'
      exact z.elim
    | ok fl =>
      cases fl with
      | ret u =>
        obtain ⟨v, H2, os2, bare2, un2, hok2, rv2, ev, d, hd, e1, e2, q2⟩ := hq'
        subst ev
        obtain ⟨h2, g2, d2, t2, os'⟩ := s'
        exact ⟨rv2, mk_end (raises_own T.exC T.tyC) I hsz kk un2 hok2 os2 bare2 e1 e2 hd q2⟩
      | next => exact False.elim hq'
      | brk => exact False.elim hq'
      | cont => exact False.elim hq'
theorem ds_raise1 {t fl : Str} {p2 : Pos} (XF : Xf X.prog X.w X.K X.mg X.base x C 1 (tag2 t fl)) (hr : Room k X.A) (z : Zx X B Ξ) (hc : X.calm = true) (ha : DA X B [e] ga) (hk : 2 ≤ k := by decide) (hg : Gl X x := by rfl) (hdb : (x == ("__debug__" : Str)) = false := by decide)
    (he : starEach [e] X.env = (false, eval e X.env) :: starEach [] X.env := by rfl) : DS X B (.Raise (some (.Call (.Name x p) [e] [] p2)) none pos) (fun E r M => ga r M fun ds M1 => match ds with | [d] => Ξ (C, [(fl, d), ("tag", .str t)]) r M1 | _ => False) := by
  have mk : PMk X (.Call (.Name x p) [e] [] p2) (fun σ H Q => liftA X.K B ga σ H fun vs H1 => vs.length = 1 ∧ ∀ d H', H1 d = none → H' d = some (.xd (tag2 t fl vs)) → (∀ b, b ≠ d → H' b = H1 b) → Q (.ref C) (some d) H') := by
    intro pins s σ H Q I h
    refine wpAny_Call_Name_kw (ld_glob I hg XF.mgC ?_ hdb)
    exact PySem.W.callWith_K (h₀ := X.base) I.ok.mod.kin XF.cls.kC (thn (ha.run p2 pins s σ H _ I h) fun us s1 ⟨vs, H1, I1, rv, l1, q1⟩ => ⟨I1.kIn, mk_x XF hr hk I1 rv l1 (by omega) q1⟩) he rfl
  refine PS_imp (ps_raise hc z.tk mk) fun D' σ H h => ?_
  obtain ⟨r, M, G, E, R, q, _⟩ := EkOk.of h
  refine ⟨r, M, G, _, R, q, fun ds M1 vs H1 G1 q1 R1 s1 p1 => ?_⟩
  split at q1
  · rename_i d
    cases p1 with
    | @cons _ _ v _ p1 p2 =>
      cases p2
      refine ⟨rfl, fun dd H' hd h' hb => ⟨(C, [(fl, d), ("tag", .str t)]), r, M1, G1, q1, ?_, rfl, dd, _, rfl, h', .cons p1 (.cons .str .nil)⟩⟩
      have e : H' = upd H1 dd (.xd (tag2 t fl [v])) := by
        funext b
        by_cases z : b = dd
        · rw [z, upd_same]; exact h'
        · rw [upd_ne z]; exact hb b z
      rw [e]
      refine R1.go ⟨fun a o y => by rw [upd_ne (ne_of_none (R1.wd.sub _ _ y) hd)]; exact R1.wd.sub _ _ y, fun a c y => ?_⟩ ⟨fun a o y _ => by rw [upd_ne (ne_of_none y hd)]; exact y, fun a y => ?_, Sub.rfl', fun a y n => absurd n y, fun a y n => absurd n y⟩
      · obtain ⟨h1, h2⟩ := R1.wd.cells a c y
        exact ⟨h1, h2.move Sub.rfl' fun o z => by rw [upd_ne (ne_of_none z hd)]; exact z⟩
      · by_cases z : a = dd
        · rw [z, upd_same]; simp
        · rw [upd_ne z]; exact y
  · exact q1.elim
theorem ds_raise0 {t : Str} {p2 : Pos} (XF : Xf X.prog X.w X.K X.mg X.base x C 0 (tag1 t)) (hr : Room k X.A) (z : Zx X B Ξ) (hc : X.calm = true) (hk : 2 ≤ k := by decide) (hg : Gl X x := by rfl) (hdb : (x == ("__debug__" : Str)) = false := by decide) :
    DS X B (.Raise (some (.Call (.Name x p) [] [] p2)) none pos) (fun E r M => Ξ (C, [("tag", .str t)]) r M) := by
  have mk : PMk X (.Call (.Name x p) [] [] p2) (fun σ H Q => ∀ d H', H d = none → H' d = some (.xd (tag1 t [])) → (∀ b, b ≠ d → H' b = H b) → Q (.ref C) (some d) H') := by
    intro pins s σ H Q I h
    refine wpAny_Call_Name_kw (ld_glob I hg XF.mgC ?_ hdb)
    exact PySem.W.callWith_K0 I.kIn XF.cls.kC (mk_x (us := []) (vs := []) XF hr hk I .nil rfl (by omega) h)
  refine PS_imp (ps_raise hc z.tk mk) fun D' σ H h => ?_
  obtain ⟨r, M, G, E, R, q, _⟩ := EkOk.of h
  intro dd H' hd h' hb
  refine ⟨(C, [("tag", .str t)]), r, M, G, q, ?_, rfl, dd, _, rfl, h', .cons .str .nil⟩
  have e : H' = upd H dd (.xd (tag1 t [])) := by
    funext b
    by_cases z : b = dd
    · rw [z, upd_same]; exact h'
    · rw [upd_ne z]; exact hb b z
  rw [e]
  refine R.go ⟨fun a o y => by rw [upd_ne (ne_of_none (R.wd.sub _ _ y) hd)]; exact R.wd.sub _ _ y, fun a c y => ?_⟩ ⟨fun a o y _ => by rw [upd_ne (ne_of_none y hd)]; exact y, fun a y => ?_, Sub.rfl', fun a y n => absurd n y, fun a y n => absurd n y⟩
  · obtain ⟨h1, h2⟩ := R.wd.cells a c y
    exact ⟨h1, h2.move Sub.rfl' fun o z => by rw [upd_ne (ne_of_none z hd)]; exact z⟩
  · by_cases z : a = dd
    · rw [z, upd_same]; simp
    · rw [upd_ne z]; exact y
end
end Z
namespace Z
open PySem PySem.Spec PyProof.Rows L2

def objOf (M : Sto) : D → Option (Addr × List (Str × D))
  | .obj C fs => some (C, fs)
  | .ref p => match M p with
    | some (.ins C fs) => some (C, fs)
    | _ => none
  | _ => none
theorem objOf_ref {M : Sto} {a C : Addr} {fs : List (Str × D)} (e : objOf M (.ref a) = some (C, fs)) : M a = some (.ins C fs) := by
  have e' : (match M a with | some (.ins C fs) => some (C, fs) | _ => none) = some (C, fs) := e
  split at e'
  · rename_i l' q
    cases e'
    exact q
  · cases e'
theorem obj_rep {K : PySem.W.Frag} {M : Sto} {H G : Hp} {d : D} {v : V} {C : Addr} {fs : List (Str × D)} (w : Wd K M H G) (r : Rep K G d v) (e : objOf M d = some (C, fs)) : ∃ a dx fvs, v = .ref a ∧ H a = some (.ins C dx fvs) ∧ RepF K G fs fvs := by
  cases r with
  | obj h r => cases e; exact ⟨_, _, _, rfl, w.sub _ _ h, r⟩
  | ref =>
    obtain ⟨_, dx, fvs, h, r⟩ := w.cells _ _ (objOf_ref e)
    exact ⟨_, dx, fvs, rfl, h, r⟩
  | _ => cases e
def isO (C : Addr) (M : Sto) (x : D) (φ : List (Str × D) → Prop) : Prop := match objOf M x with
  | some (C', fs) => C' = C ∧ φ fs
  | none => False
theorem isO_some {C : Addr} {M : Sto} {x : D} {φ : List (Str × D) → Prop} (h : isO C M x φ) : ∃ fs, objOf M x = some (C, fs) ∧ φ fs := by
  unfold isO at h
  split at h
  · rename_i C' fs e
    obtain ⟨rfl, h⟩ := h
    exact ⟨fs, e, h⟩
  · exact h.elim
theorem RepF.put {K : PySem.W.Frag} {G : Hp} {f : Str} {d : D} {v : V} (p : Rep K G d v) : ∀ {fs : List (Str × D)} {gs : List (Str × V)}, RepF K G fs gs → RepF K G (putD f d fs) (putF f v gs)
  | _, _, .nil => .cons p .nil
  | _, _, .cons (f := g) q r => by
    unfold putD putF
    by_cases e : g = f
    · rw [if_pos e, if_pos e]; exact .cons p r
    · rw [if_neg e, if_neg e]; exact .cons q (r.put p)
section
variable {X : Cx} {B : Bs} {Ξ : XD → En → Sto → Prop} {k j n : Nat} {c : Ct} {pos apos p p' : Pos} {e o : Expr} {es : List Expr} {kws : List Keyword} {ga gk : DTA} {fa fo : DTE} {C f : Addr} {fn m x : Str} {ks : List Str} {g : List D → List D → List D} {bs : List (Nat × List Str × (List D → List D → List D))}
theorem de_fld (T : Cls X.K C) (nf : NoAttr X.K C fn) (ho : DE X B o fo) (hb : attributeBase o fn X.env (eval o X.env) = eval o X.env := by rfl) :
    DE X B (.Attribute o fn pos) (fun r M Ψ => fo r M fun x M1 => isO C M1 x fun fs => optK (fs.lookup fn) fun d => Ψ d M1) := PE_imp (pe_fld ho hb) fun σ H Q ⟨r, M, G, Ψ, R, h, k⟩ => by
  refine ⟨r, M, G, _, R, h, fun x M1 v H1 G1 q R1 s1 p1 => ?_⟩
  obtain ⟨fs, e1, q⟩ := isO_some q
  obtain ⟨d, e2, q⟩ := optK_some q
  obtain ⟨a, dx, fvs, rfl, h1, r1⟩ := obj_rep R1.wd p1 e1
  obtain ⟨u, e3, p3⟩ := r1.look e2
  exact ⟨a, C, dx, fvs, u, rfl, h1, T, nf, e3, k _ _ _ _ _ q R1 s1 p3⟩
theorem ds_fld {value : Expr} (T : Cls X.K C) (nf : NoAttr X.K C fn) (hv : DE X B value fa) (ho : DE X B o fo) (hs : swapsWith value (some (.Attribute o fn p')) pos.line X.env = pure false := by rfl) :
    DS X B (.Assign [.Attribute o fn p'] value pos) (fun E r M => fa r M fun d M1 => fo r M1 fun x M2 => match x with
      | .ref a => match M2 a with
        | some (.ins C' fs) => C' = C ∧ fs.length < 1000 ∧ E.nx r (updM M2 a (.ins C (putD fn d fs)))
        | _ => False
      | _ => False) := PS_imp (ps_fld ho hv hs) fun D' σ H h => by
  obtain ⟨r, M, G, E, R, q, k⟩ := EkOk.of h
  refine ⟨r, M, G, _, R, q, fun d M1 v H1 G1 q1 R1 s1 p1 => ?_⟩
  refine ⟨r, M1, G1, _, R1, q1, fun x M2 u H2 G2 q2 R2 s2 p2 => ?_⟩
  split at q2
  · split at q2
    · rename_i a _ C' fs em
      obtain ⟨rfl, hl, q2⟩ := q2
      cases p2
      obtain ⟨ga, dx, fvs, h1, r1⟩ := R2.wd.cells _ _ em
      obtain ⟨w, s⟩ := cell_put (c := .ins C' (putD fn d fs)) (o := .ins C' dx (putF fn v fvs)) R2.wd em ⟨dx, _, upd_same, r1.put (p1.mono s2)⟩
      exact ⟨a, C', dx, fvs, rfl, h1, T, nf, by rw [← r1.length]; exact hl, k.nx _ _ _ _ _ q2 (R2.go w s) (s1.tr s2)⟩
    · exact q2.elim
  · exact q2.elim
structure Mf (P : Program) (w : World) (K : PySem.W.Frag) (mg : Str → Option Value) (base : Heap) (C : Addr) (m : Str) (k : Nat) (c : Ct) (bs : List (Nat × List Str × (List D → List D → List D))) : Prop where
  ex : ∃ f fd ps, Meth K C m f ∧ FnOk P w K mg base (L2.CX P w) k f fd ps (spC K ps.length c) ∧ ∀ b ∈ bs, BindD K fd ps b
theorem de_meth {pl : Sem Bool} (F : Mf X.prog X.w X.K X.mg X.base C m j c bs) (T : Cls X.K C) (hr : Room k X.A) (z : Zx X B Ξ) (hb : (n + 1, [], g) ∈ bs) (ho : DE X B o fo) (ha : DA X B (e :: es) ga) (hj : j ≤ k := by decide)
    (hst : starEach (e :: es) X.env = (false, eval e X.env) :: starEach es X.env := by rfl) (hpl : (backTo pos (starEach es X.env)).any (·.1) = false := by rfl)
    (ht : eval (.Call (.Attribute o m apos) (e :: es) [] pos) X.env = (do let ov ← eval o X.env; standAt apos.atName; let (f, first) ← holding [ov] (getMethod ov m pl); callWith pos f first (backTo pos (starEach (e :: es) X.env)) (backToKw pos (keywordEach [] X.env))) := by rfl) :
    DE X B (.Call (.Attribute o m apos) (e :: es) [] pos) (fun r M Ψ => fo r M fun x M1 => isO C M1 x fun fs => fs.lookup m = none ∧ ga r M1 fun ds M2 => callD (n + 1) 0 g c Ξ (x :: ds) [] r M2 Ψ) := by
  obtain ⟨f, fd, ps, mt, FO, hbs⟩ := F.ex
  refine ⟨fun pins s σ H Q I ⟨r, M, G, Ψ, R, h, kk⟩ => ?_⟩
  refine PySem.W.methodCall_KW (pl := pl) (thn (ho.run pins s σ H _ I ⟨r, M, G, _, R, h, fun x M1 v H1 G1 q R1 s1 p1 => (⟨x, M1, G1, q, R1, s1, p1⟩ : ∃ x M1 G1, (isO C M1 x fun fs => fs.lookup m = none ∧ ga r M1 fun ds M2 => callD (n + 1) 0 g c Ξ (x :: ds) [] r M2 Ψ) ∧ Rel X.K B r M1 σ H1 G1 ∧ Sub G G1 ∧ Rep X.K G1 x v)⟩) fun u s1 ⟨v, H1, I1, rx, x, M1, G1, q, R1, t1, p1⟩ => ?_) ht
  obtain ⟨fs, e1, l, q⟩ := isO_some q
  obtain ⟨a, dx, fvs, rfl, h1, r1⟩ := obj_rep R1.wd p1 e1
  obtain rfl : u = Value.ref a := rx
  refine getmeth_ok I1 h1 T mt (r1.none l) ?_
  refine PySem.W.callWith_K (first := [.ref a]) (h₀ := X.base) I.ok.mod.kin mt.kp (thn (ha.run pos pins s1 σ H1 _ I1 ⟨r, M1, G1, _, R1, q, fun ds M2 vs H2 G2 q R2 s2 p2 => (⟨ds, M2, G2, q, R2, s2, p2⟩ : ∃ ds M2 G2, callD (n + 1) 0 g c Ξ (x :: ds) [] r M2 Ψ ∧ Rel X.K B r M2 σ H2 G2 ∧ Sub G1 G2 ∧ RepL X.K G2 ds vs)⟩) fun us s2 ⟨vs, H2, I2, rv, ds, M2, G2, ⟨l1, _, q⟩, R2, t2, p2⟩ => ⟨I2.kIn, ?_⟩) hst hpl
  exact run_c (us := .ref a :: us) (vs := .ref a :: vs) (zs := []) (ws := []) (dz := []) FO (hr.mono hj) (hbs _ hb) z.tk I2 R2 (.cons rfl rv) .nil (.cons (p1.mono t2) p2) .nil l1 rfl q fun d M' v H' G' q R' s' p' => kk _ _ _ _ _ q R' ((t1.tr t2).tr s') p'
theorem de_meth0 {pl : Sem Bool} (F : Mf X.prog X.w X.K X.mg X.base C m j c bs) (T : Cls X.K C) (hr : Room k X.A) (z : Zx X B Ξ) (hb : (1, [], g) ∈ bs) (ho : DE X B o fo) (hj : j ≤ k := by decide)
    (ht : eval (.Call (.Attribute o m apos) [] [] pos) X.env = (do let ov ← eval o X.env; standAt apos.atName; let (f, first) ← holding [ov] (getMethod ov m pl); callWith pos f first (backTo pos (starEach [] X.env)) (backToKw pos (keywordEach [] X.env))) := by rfl) :
    DE X B (.Call (.Attribute o m apos) [] [] pos) (fun r M Ψ => fo r M fun x M1 => isO C M1 x fun fs => fs.lookup m = none ∧ callD 1 0 g c Ξ [x] [] r M1 Ψ) := by
  obtain ⟨f, fd, ps, mt, FO, hbs⟩ := F.ex
  refine ⟨fun pins s σ H Q I ⟨r, M, G, Ψ, R, h, kk⟩ => ?_⟩
  refine PySem.W.methodCall_KW (pl := pl) (thn (ho.run pins s σ H _ I ⟨r, M, G, _, R, h, fun x M1 v H1 G1 q R1 s1 p1 => (⟨x, M1, G1, q, R1, s1, p1⟩ : ∃ x M1 G1, (isO C M1 x fun fs => fs.lookup m = none ∧ callD 1 0 g c Ξ [x] [] r M1 Ψ) ∧ Rel X.K B r M1 σ H1 G1 ∧ Sub G G1 ∧ Rep X.K G1 x v)⟩) fun u s1 ⟨v, H1, I1, rx, x, M1, G1, q, R1, t1, p1⟩ => ?_) ht
  obtain ⟨fs, e1, l, l1, _, q⟩ := isO_some q
  obtain ⟨a, dx, fvs, rfl, h1, r1⟩ := obj_rep R1.wd p1 e1
  obtain rfl : u = Value.ref a := rx
  refine getmeth_ok I1 h1 T mt (r1.none l) ?_
  refine PySem.W.callWith_K0 (first := [.ref a]) I1.kIn mt.kp ?_
  exact run_c (us := [.ref a]) (vs := [.ref a]) (zs := []) (ws := []) (dz := []) FO (hr.mono hj) (hbs _ hb) z.tk I1 R1 (.cons rfl .nil) .nil (.cons p1 .nil) .nil l1 rfl q fun d M' v H' G' q R' s' p' => kk _ _ _ _ _ q R' (t1.tr s') p'
end
end Z
namespace Z
open PySem PySem.Spec PyProof.Rows L2

abbrev noX : XD → Sto → Prop := fun _ _ => False
theorem Env0_at {P : Program} {w : World} {K : PySem.W.Frag} {mg : Str → Option Value} {base : Heap} {A A' : Around} {outer : List Env} {s : Shared} {H : Hp} (e : Env0 P w K mg base A outer s H) (h : A'.frames = A.frames) : Env0 P w K mg base A' outer s H :=
  ⟨h.trans e.frames, e.mod, e.bs, e.bsz, e.funs, e.frf, e.hok, e.bare⟩
section
variable {X : Cx} {B : Bs} {Ξ : XD → En → Sto → Prop} {k j n : Nat} {c : Ct} {pos apos p p' p1 p2 : Pos} {a b e o : Expr} {es : List Expr} {kws : List Keyword} {ga gk : DTA} {fa fb fo : DTE} {C : Addr} {fn m x : Str} {ks : List Str} {g : List D → List D → List D} {bs : List (Nat × List Str × (List D → List D → List D))}
theorem run_n {f : Addr} {fd : FuncData} {ps : List Str} {pins : List (Addr × Obj)} {M : Sto} {σ : L2.St} {H G : Hp} {s : Shared} {Q : VK} {vs : List V} {us : List Value} {ds : List D} {Ψ : D → Sto → Prop} {A : Around} {E : Value → Shared → Prop}
    (F : FnOk X.prog X.w X.K X.mg X.base (L2.CX X.prog X.w) k f fd ps (spC X.K ps.length c)) (hr : Room k A) (hA : A.frames = X.A.frames) (hb : BindD X.K fd ps (ds.length, [], fun ds _ => ds)) (I : L2.Inv X pins σ H s) (w : Wd X.K M H G) (hv : Vals vs us) (rv : RepL X.K G ds vs)
    (hc : c ds M Ψ noX) (hQ : Post X.K H G M Ψ Q) : wpAny (model X.prog X.w) A (call (.ref f) us) (EP X pins σ Q) E s := by
  obtain ⟨hl, gl, gV, kb, rel⟩ := hb
  have rr := rel G ds vs [] [] rv .nil
  have u1 : us.length = ds.length := by rw [← hv.length, ← rv.length]
  have hsp : spC X.K ps.length c (gV vs []) H Q (fun _ _ _ => False) := ⟨by rw [← rr.length]; exact hl ds [] rfl rfl, _, G, M, Ψ, _, w, rr, hc, fun d M' v H' G' q w s p => hQ d M' v H' G' q w s p, fun _ _ _ _ _ _ z _ _ _ => z.elim⟩
  refine wpAny_call (codeAny_mono (F.run A X.stack s H ⟨us, []⟩ (gl us []) (gV vs []) Q _ hr (Env0_at I.env0 hA) (kb.to s us [] I.kIn u1 rfl) (kb.rel hv .nil) hsp) fun fr s' hq => ?_)
  cases fr with
  | error e =>
    obtain ⟨_, _, _, _, _, _, _, _, _, _, _, _, z⟩ := hq
    exact z.elim
  | ok fl =>
    cases fl with
    | ret u => exact I.after hq
    | next => exact False.elim hq
    | brk => exact False.elim hq
    | cont => exact False.elim hq
def OkP2 (K : PySem.W.Frag) (r : R2) (g : Sto → D → D → PD → Prop) : Prop := ∀ (M : Sto) (H G : Hp) (x y : D) (v u : V) (φ : PD) (Q : VK), Wd K M H G → Rep K G x v → Rep K G y u → g M x y φ → Post K H G M φ Q → r v u H Q
theorem tOp_okPT {r : R2} {g : Sto → D → D → PD → Prop} (ok : OkP2 X.K r g) (σ : L2.St) (H : Hp) (Q : Bool → Hp → Prop) (h : liftT X.K B (fun r M Ψ => fa r M fun x M1 => fb r M1 fun y M2 => g M2 x y fun z M3 => blD (fun b => Ψ b M3) z) σ H Q) :
    tTest (tOp r (lift X.K B fa) (lift X.K B fb)) σ H Q := by
  obtain ⟨r, M, G, Ψ, R, h, k⟩ := h
  refine ⟨r, M, G, _, R, h, fun d M1 v H1 G1 q1 R1 s1 p1 => ?_⟩
  refine ⟨r, M1, G1, _, R1, q1, fun y M2 u H2 G2 q2 R2 s2 p2 => ?_⟩
  refine ok M2 H2 G2 _ _ _ _ _ _ R2.wd (p1.mono s2) p2 q2 fun d M' w H' G' f w' s' p => ?_
  unfold blD at f
  cases p with
  | bl => exact ⟨_, rfl, k _ _ _ _ f (R2.go w' s') ((s1.tr s2).tr s'.gsub)⟩
  | _ => exact f.elim
theorem bind2 {fd : FuncData} {ps : List Str} {K : PySem.W.Frag} (h : BindD K fd ps (Z.pos 2)) {x y : D} : BindD K fd ps ([x, y].length, [], fun ds _ => ds) := h
def eqR (K : PySem.W.Frag) (C : Addr) (M : Sto) (y : D) : Prop := (∃ fs, objOf M y = some (C, fs)) ∨ ∃ t, tyN M y = some t ∧ PySem.W.notFirst K C (.type t) = true
def rOwnE (K : PySem.W.Frag) (C : Addr) (c : Ct) (neg : Bool) : R2 := fun v u H Q => ∃ a dx fs t, v = .ref a ∧ H a = some (.ins C dx fs) ∧ (TyX K H u t ∨ ∃ b dy gs, u = .ref b ∧ H b = some (.ins C dy gs) ∧ t = .ref C) ∧ PySem.W.notFirst K C t = true ∧
  ∃ M G x y, Wd K M H G ∧ Rep K G x v ∧ Rep K G y u ∧ c [x, y] M (fun d M' => ∃ b, d = .bl b ∧ ∀ H' G', Wd K M' H' G' → Since H G M M' H' G' → Q (.bl (if neg then !b else b)) H') noX
def ownE (K : PySem.W.Frag) (C : Addr) (c : Ct) (neg : Bool) (M : Sto) (x y : D) (φ : PD) : Prop := isO C M x fun _ => eqR K C M y ∧ c [x, y] M (fun d M' => blD (fun b => φ (.bl (if neg then !b else b)) M') d) noX
def Mono (c : Ct) : Prop := ∀ ds M (Ψ Ψ' : PD) (Ξ Ξ' : XD → Sto → Prop), (∀ d M', Ψ d M' → Ψ' d M') → (∀ x M', Ξ x M' → Ξ' x M') → c ds M Ψ Ξ → c ds M Ψ' Ξ'
theorem looks_ty {pins : List (Addr × Obj)} {σ : L2.St} {H : Hp} {s : Shared} {v : V} {u t : Value} (I : L2.Inv X pins σ H s) (r : RelV v u) (h : TyX X.K H v t ∨ ∃ b dy gs, v = .ref b ∧ H b = some (.ins C dy gs) ∧ t = .ref C) (M : Model) : PySem.W.Looks M s.heap (typeOf u) t := by
  rcases h with h | ⟨b, dy, gs, rfl, hb, rfl⟩
  · obtain ⟨P, k, p, _⟩ := kit_of I r h
    exact k.ty M _ I.kIn p
  · cases r
    obtain ⟨mB, J, _⟩ := ins_get I.hok hb
    obtain ⟨od, J, _⟩ := J.look
    exact J.type
end
theorem slot_ne : Slot "object" "__ne__" "object.__ne__" := .of (owner := "object") (n := "__ne__") (by rw [typeLookup_type, builtinLookup_eq_fast]; kernel_rfl) (by decide +kernel) (by decide +kernel) (by decide +kernel) (.inl (by decide +kernel)) (by rw [isSubtype_type]; kernel_rfl)
section
variable {prog : Program} {w : World} {A : Around} {E : Value → Shared → Prop} {s : Shared} {K : PySem.W.Frag} {x C L f : Addr} {h₀ : Heap} {m : Str → Option Value} {ox : Obj} {od : Option Obj} {b tb : Value}
theorem ne_entry {Q : Fin → Shared → Prop} (X : K.In s.heap) (hu : A.units < cLine) (I : PySem.W.InstAt s.heap x ox C od) (hs : PySem.W.findIn K (.ref C) "__eq__" = some (some (.ref f))) (hf : PySem.W.isFn K (.ref f) = true)
    (h : wpAny (model prog w) A (call (.ref f) [.ref x, b]) (fun v s' => ∃ y, v = .bool y ∧ Q (.done (.ret (.bool (!y)))) s') E s) : wpAny (model prog w) A (Builtin.«object.__ne__» ⟨[.ref x, b], []⟩) Q E s := by
  unfold Builtin.«object.__ne__»
  repeat (first
    | with_reducible refine wpAny_cRoomFor hu ?_
    | (refine wpAny_bind (m := callSpecialIfBound? (.ref x) (Str.ofString "__eq__") [b])
        (PySem.W.ifBound_K X I hs hf (wpAny_mono h (fun r s' hr => by
          obtain ⟨y, rfl, hq⟩ := hr
          repeat (first | exact hq | exact wpAny_pure hq | exact wpAny_truthy_bool hq | (refine wpAny_bind (m := truthy (.bool _)) (wpAny_truthy_bool ?_)) | wp_step)) fun _ _ e => e)))
    | wp_step)
theorem ne_K {Q : Value → Shared → Prop} (hu : A.units + 1 < cLine) (F : PyProof.Rows.Fr h₀ L s.heap m) (X₀ : K.In h₀) (I : PySem.W.InstAt s.heap x ox C od) (hb : PySem.W.Looks (model prog w) s.heap (typeOf b) tb) (hn : PySem.W.notFirst K C tb = true)
    (hne : PySem.W.findIn K (.ref C) "__ne__" = some (some (.builtin "object.__ne__"))) (hm : PySem.W.mroIn K C (.type "object") = some true) (hs : PySem.W.findIn K (.ref C) "__eq__" = some (some (.ref f))) (hf : PySem.W.isFn K (.ref f) = true)
    (h : wpAny (model prog w) A.in1 (call (.ref f) [.ref x, b]) (fun v s' => ∃ y, v = .bool y ∧ Q (.bool (!y)) s') E s) : wpAny (model prog w) A (richCompare .NotEq (.ref x) b) Q E s := by
  have X := X₀.keeps F.keep
  have cl : wpAny (model prog w) A (call (.builtin "object.__ne__") [.ref x, b]) (fun r s' => ∃ y, r = .bool y ∧ Q (.bool y) s') E s := by
    refine wpAny_call (codeAny_call_builtin slot_ne.plain PySem.F.cmpEntry_ne (PySem.W.check_slot PySem.F.cmpKind_ne PySem.F.cmpSplit_ne (I.type.andThen (PySem.W.looks_mroIn X hm)) (PySem.F.cmpArgs_ne _ _) (ne_entry (A := A.in1) X hu I hs hf (wpAny_mono h (fun v s' hv => ?_) fun _ _ e => e))))
    obtain ⟨y, rfl, hq⟩ := hv
    exact ⟨y, rfl, _, rfl, hq⟩
  have one : wpAny (model prog w) A (tryCompare (.ref x) (cmpInfo .NotEq).2.1 b) (fun r s' => ∃ v, r = some v ∧ Q v s') E s := by
    rw [cmpInfo_NotEq]
    unfold tryCompare
    simp only [callSpecialIfBound?, bindSpecialIfBound?]
    refine wpAny_bind (wpAny_holding (wpAny_bind (wpAny_bind (wpAny_bind (I.type.here ((PySem.W.looks_findIn X hne).here ?_))))))
    simp only [slot_ne.bind]
    refine wpAny_bind (wpAny_askSetting (wpAny_ite ?_))
    have fin : ∀ R : Option Value → Shared → Prop, (∀ y s', Q (.bool y) s' → R (some (.bool y)) s') → wpAny (model prog w) A (call (.builtin "object.__ne__") ([.ref x] ++ [b]) >>= fun v => pure (some v)) R E s := fun R hR =>
      wpAny_bind (wpAny_mono cl (fun v s' h' => by obtain ⟨y, rfl, hq⟩ := h'; exact wpAny_pure (hR _ _ hq)) fun _ _ h' => h')
    split
    · exact wpAny_bind (wpAny_pure (wpAny_pure (fin _ fun y s' hq => wpAny_pure ⟨_, rfl, hq⟩)))
    · exact wpAny_tryCatch (wpAny_bind (wpAny_pure (wpAny_pure (fin _ fun y s' hq => wpAny_pure ⟨_, rfl, hq⟩))))
  unfold richCompare
  simp only [oneThing_ref]
  refine wpAny_holding (wpAny_bind (wpAny_cRoomFor (Nat.lt_of_succ_lt hu) ?_))
  refine wpAny_bind (I.type.here (wpAny_bind (hb.here ?_)))
  split
  · rename_i q
    have e : PySem.W.subIn K tb (.ref C) = some false := by
      rcases Bool.or_eq_true_iff.mp hn with e | e
      · rw [beq_iff_eq.mp e] at q; simp at q
      · exact beq_iff_eq.mp e
    refine wpAny_bind ((PySem.W.looks_subIn X e).here ?_)
    simp only [Bool.false_eq_true, if_false]
    refine wpAny_bind (wpAny_mono one (fun r s' z => ?_) fun _ _ e => e)
    obtain ⟨v, rfl, hq⟩ := z
    exact wpAny_pure hq
  · refine wpAny_bind (wpAny_pure ?_)
    simp only [Bool.false_eq_true, if_false]
    refine wpAny_bind (wpAny_mono one (fun r s' z => ?_) fun _ _ e => e)
    obtain ⟨v, rfl, hq⟩ := z
    exact wpAny_pure hq
end
section
variable {X : Cx} {B : Bs} {Ξ : XD → En → Sto → Prop} {k j n : Nat} {c : Ct} {pos apos p p' p1 p2 : Pos} {a b e o : Expr} {es : List Expr} {kws : List Keyword} {ga gk : DTA} {fa fb fo : DTE} {C : Addr} {fn m x : Str} {ks : List Str} {g : List D → List D → List D} {bs : List (Nat × List Str × (List D → List D → List D))}
structure CmpF (K : PySem.W.Frag) (C : Addr) : Prop where
  ne : PySem.W.findIn K (.ref C) "__ne__" = some (some (.builtin "object.__ne__"))
  top : PySem.W.mroIn K C (.type "object") = some true
theorem ok_ownE {K : PySem.W.Frag} {C : Addr} {c : Ct} {neg : Bool} (hc : Mono c) : OkP2 K (rOwnE K C c neg) (ownE K C c neg) := fun M H G x y v u φ Q w rx ry h k => by
  obtain ⟨fs, e1, h, hc'⟩ := isO_some h
  obtain ⟨a, dx, fvs, rfl, h1, _⟩ := obj_rep w rx e1
  have fin : c [x, y] M (fun d M' => ∃ b, d = .bl b ∧ ∀ H' G', Wd K M' H' G' → Since H G M M' H' G' → Q (.bl (if neg then !b else b)) H') noX := hc _ _ _ _ _ _ (fun d M' z => by
    unfold blD at z
    cases d with
    | bl b => exact ⟨b, rfl, fun H' G' w' s' => k _ _ _ _ _ z w' s' .bl⟩
    | _ => exact z.elim) (fun _ _ z => z) hc'
  rcases h with ⟨gs, e2⟩ | ⟨t, e2, e3⟩
  · obtain ⟨b, dy, gvs, rfl, h2, _⟩ := obj_rep w ry e2
    exact ⟨a, dx, _, .ref C, rfl, h1, .inr ⟨b, dy, _, rfl, h2, rfl⟩, by simp [PySem.W.notFirst], M, G, x, y, w, rx, ry, fin⟩
  · exact ⟨a, dx, _, .type t, rfl, h1, .inl (tyN_x w ry e2), e3, M, G, x, y, w, rx, ry, fin⟩
theorem op_ownNe (F : Mf X.prog X.w X.K X.mg X.base C "__eq__" j c bs) (T : CmpF X.K C) (hr : Room k X.A) (hb : Z.pos 2 ∈ bs) (hj : j + 1 ≤ k := by decide) : OpR X (compareOp .NotEq) (rOwnE X.K C c true) := by
  obtain ⟨f, fd, ps, mt, FO, hbs⟩ := F.ex
  intro pins s σ H x y v u Q I rx ry h
  obtain ⟨a, dx, fs, t, rfl, h1, h2, h3, M, G, x', y', w, r1, r2, hq⟩ := h
  cases rx
  obtain ⟨mA, J, _⟩ := ins_get I.hok h1
  obtain ⟨od, J, _⟩ := J.look
  obtain ⟨m, hF⟩ := I.fr
  show wpAny _ _ (richCompare .NotEq _ _) _ _ _
  have hr1 : Room (j + 1) X.A := hr.mono hj
  refine ne_K hr1.in1.units0 hF I.ok.mod.kin J (looks_ty I ry h2 _) h3 T.ne T.top mt.at_ mt.fn ?_
  refine wpAny_mono (run_n (Q := fun v H' => ∃ y, v = .bl y ∧ Q (.bl (!y)) H') (vs := [.ref a, y]) FO hr1.in1 rfl (bind2 (hbs _ hb)) I w (.cons rfl (.cons ry .nil)) (.cons r1 (.cons r2 .nil)) hq fun d M' v' H' G' z w' s' p => ?_) (fun u s' z => ?_) fun _ _ z => z
  · obtain ⟨b, rfl, z⟩ := z
    cases p
    exact ⟨b, rfl, z H' G' w' s'⟩
  · obtain ⟨v, H', I', r, b, rfl, q⟩ := z
    cases r
    exact ⟨b, rfl, .bl (!b), H', I', rfl, q⟩
end
end Z
namespace Z
open PySem PySem.Spec PyProof.Rows L2

structure Cf (P : Program) (w : World) (K : PySem.W.Frag) (mg : Str → Option Value) (base : Heap) (x : Str) (C : Addr) (k : Nat) (c : Ct) (bs : List (Nat × List Str × (List D → List D → List D))) : Prop where
  gl : mg x = some (.ref C)
  ex : ∃ f fd ps, Mk K C f ∧ FnOk P w K mg base (L2.CX P w) k f fd ps (spC K ps.length c) ∧ ∀ b ∈ bs, BindD K fd ps b
theorem own_new {K : PySem.W.Frag} {M : Sto} {H G : Hp} {p : Addr} {o : HO} (w : Wd K M H G) (hp : H p = none) : Wd K M (upd H p o) G ∧ Since H G M M (upd H p o) G := by
  refine ⟨⟨fun a u h => ?_, fun a u h => ?_⟩, ⟨fun a u h n => ?_, fun a h => ?_, Sub.rfl', fun a h n => absurd n h, fun a h n => absurd n h⟩⟩
  · rw [upd_ne (ne_of_none (w.sub _ _ h) hp)]; exact w.sub _ _ h
  · obtain ⟨h1, h2⟩ := w.cells a u h
    exact ⟨h1, h2.move Sub.rfl' fun o z => by rw [upd_ne (ne_of_none z hp)]; exact z⟩
  · rw [upd_ne (ne_of_none h hp)]; exact h
  · by_cases e : a = p
    · subst e; rw [upd_same]; simp
    · rw [upd_ne e]; exact h
theorem ins_frz {K : PySem.W.Frag} {M : Sto} {H G H' G' : Hp} {p C : Addr} {fs : List (Str × D)} (wd : Wd K M H G) (hp : H p = none) (w : Wd K (updM M p (.ins C fs)) H' G') (s : Since H G M (updM M p (.ins C fs)) H' G') :
    Wd K M H' (frz1 p H' G') ∧ Since H G M M H' (frz1 p H' G') ∧ Sub G' (frz1 p H' G') ∧ Rep K (frz1 p H' G') (.obj C fs) (.ref p) := by
  obtain ⟨gp, dx, fvs, h1, r1⟩ := w.cells p _ updM_same
  have mp := wd.nomem hp
  have sg : Sub G' (frz1 p H' G') := fun a o e => by
    unfold frz1
    rw [if_neg (by intro z; rw [z, gp] at e; cases e)]; exact e
  refine ⟨⟨fun a o e => ?_, fun a u e => ?_⟩, ⟨s.keep, s.stay, s.gsub.tr sg, fun a e n => ?_, fun a e n => absurd n e⟩, sg, .obj (dx := dx) (by unfold frz1; rw [if_pos rfl]; exact h1) (r1.mono sg)⟩
  · unfold frz1 at e
    split at e
    · exact e
    · exact w.sub _ _ e
  · have z : a ≠ p := fun z => by rw [z, mp] at e; cases e
    obtain ⟨h2, h3⟩ := w.cells a u (by rw [updM_ne z]; exact e)
    exact ⟨by unfold frz1; rw [if_neg z]; exact h2, h3.move sg fun _ z => z⟩
  · unfold frz1 at e
    split at e
    · rename_i z; rw [z]; exact hp
    · exact s.gnew a e n
section
variable {X : Cx} {B : Bs} {Ξ : XD → En → Sto → Prop} {k j n : Nat} {c : Ct} {pos apos p p' : Pos} {e o : Expr} {es : List Expr} {kws : List Keyword} {ga gk : DTA} {fa fo : DTE} {C : Addr} {fn m x : Str} {ks : List Str} {g : List D → List D → List D} {bs : List (Nat × List Str × (List D → List D → List D))}
theorem run_mk {pins : List (Addr × Obj)} {r : En} {M : Sto} {σ : L2.St} {H G : Hp} {s : Shared} {Q : VK} {vs zs : List V} {us ws : List Value} {ds dz : List D} {b : Nat × List Str × (List D → List D → List D)} {f : Addr} {fd : FuncData} {ps : List Str} {Ψ : Addr → D → Sto → Prop} {Ξ' : Addr → XD → Sto → Prop}
    (mk : Mk X.K C f) (F : FnOk X.prog X.w X.K X.mg X.base (L2.CX X.prog X.w) k f fd ps (spC X.K ps.length c)) (hr : Room (k + 1) X.A) (hb : BindD X.K fd ps b) (tk : Takes X (wOf X.K B Ξ)) (I : L2.Inv X pins σ H s) (R : Rel X.K B r M σ H G)
    (hv : Vals vs us) (hz : Vals zs ws) (rv : RepL X.K G ds vs) (rz : RepL X.K G dz zs) (l1 : ds.length + 1 = b.1) (l2 : dz.length = b.2.1.length)
    (hc : ∀ p, M p = none → c (b.2.2 (.ref p :: ds) dz) (updM M p (.ins C [])) (Ψ p) (Ξ' p))
    (hQ : ∀ p d M' v H' G', H p = none → Ψ p d M' → Wd X.K M' H' G' → Since H G M M' H' G' → Rep X.K G' d v → v = .non ∧ Q (.ref p) H')
    (hE : ∀ p x M' H' G', H p = none → Ξ' p x M' → Wd X.K M' H' G' → Since H G M M' H' G' → ∃ M2 G2, Sub G' G2 ∧ Ξ x r M2 ∧ Wd X.K M2 H' G2 ∧ Since H G M M2 H' G2) :
    wpAny (model X.prog X.w) X.A (call (.ref C) us (b.2.1.zip ws)) (EP X pins σ Q) X.xe s := by
  obtain ⟨hl, gl, gV, kb, rel⟩ := hb
  have hx : H (s.heap.objs.size + 1) = none := I.hok.fresh (Nat.le_succ _)
  have hd : H s.heap.objs.size = none := I.hok.fresh (Nat.le_refl _)
  have hne : s.heap.objs.size + 1 ≠ s.heap.objs.size := (Nat.ne_of_lt (Nat.lt_succ_self _)).symm
  obtain ⟨w1, s1⟩ := own_new (o := .own (s.heap.objs.size + 1)) R.wd hd
  obtain ⟨w2, s2⟩ := cell_new (p := s.heap.objs.size + 1) (c := .ins C []) (o := .ins C s.heap.objs.size []) w1 (by rw [upd_ne hne]; exact hx) ⟨_, _, upd_same, .nil⟩
  have t2 := Since.trans w1 s1 s2
  have I2 := Inv.made (C := C) I
  have rr := rel G (.ref (s.heap.objs.size + 1) :: ds) (.ref (s.heap.objs.size + 1) :: vs) dz zs (.cons .ref rv) rz
  have l3 := hl (.ref (s.heap.objs.size + 1) :: ds) dz (by simpa using l1) l2
  have r1 : Vals (V.ref (s.heap.objs.size + 1) :: vs) (Value.ref (s.heap.objs.size + 1) :: us) := .cons rfl hv
  have u1 : (Value.ref (s.heap.objs.size + 1) :: us).length = b.1 := by rw [← r1.length, List.length_cons, ← rv.length]; exact l1
  have u2 : ws.length = b.2.1.length := by rw [← hz.length, ← rz.length]; exact l2
  have hsp : spC X.K ps.length c (gV (.ref (s.heap.objs.size + 1) :: vs) zs) (upd (upd H s.heap.objs.size (.own (s.heap.objs.size + 1))) (s.heap.objs.size + 1) (.ins C s.heap.objs.size [])) (fun v H2 => v = .non ∧ Q (.ref (s.heap.objs.size + 1)) H2) (fun cls d H' => wOf X.K B Ξ cls d σ H') := by
    refine ⟨by rw [← rr.length]; exact l3, _, G, _, _, _, w2, rr, hc _ (R.wd.nomem hx), fun d M' v H' G' q w s p => hQ _ d M' v H' G' hx q w (Since.trans w2 t2 s) p, fun x M' H' G' cls dd q w s rx => ?_⟩
    obtain ⟨M2, G2, g2, q2, w3, s3⟩ := hE _ x M' H' G' hx q w (Since.trans w2 t2 s)
    obtain ⟨e, dd', fvs, e1, e2, r2⟩ := rx
    exact ⟨x, r, M2, G2, q2, R.go w3 s3, e, dd', fvs, e1, e2, r2.mono g2⟩
  refine wpAny_call (make_map (f := f) I.kIn mk.makes mk.init (beq_iff_eq.mp mk.fn) (codeAny_mono (F.run _ X.stack _ _ ⟨Value.ref (s.heap.objs.size + 1) :: us, b.2.1.zip ws⟩ (gl (Value.ref (s.heap.objs.size + 1) :: us) ws) _ _ _ (hr.make C us (b.2.1.zip ws))
    (I2.env0.make C us (b.2.1.zip ws)) (kb.to _ (Value.ref (s.heap.objs.size + 1) :: us) ws I2.kIn u1 u2) (kb.rel r1 hz) hsp) fun r s' hq' => ?_))
  cases r with
  | error e => exact tk e s' (XE.of_call I2 (fun cls d H' h => h) hq')
  | ok fl =>
    cases fl with
    | ret u =>
      obtain ⟨v, H', I3, rv, ev, q3⟩ := I2.after hq'
      subst ev
      exact ⟨rv, ⟨V.ref (s.heap.objs.size + 1), H', I3, rfl, q3⟩⟩
    | next => exact False.elim hq'
    | brk => exact False.elim hq'
    | cont => exact False.elim hq'
def mkD (n m : Nat) (g : List D → List D → List D) (C : Addr) (c : Ct) (Ξ : XD → En → Sto → Prop) (ds dz : List D) (r : En) (M : Sto) (Ψ : PD) : Prop := ds.length = n ∧ dz.length = m ∧ ∀ p, M p = none → c (g (.ref p :: ds) dz) (updM M p (.ins C []))
  (fun d M' => d = .non ∧ ∃ fs, M' = updM M p (.ins C fs) ∧ Ψ (.obj C fs) M) (fun x M' => ∃ fs, M' = updM M p (.ins C fs) ∧ Ξ x r M)
theorem run_mkD {pins : List (Addr × Obj)} {r : En} {M : Sto} {σ : L2.St} {H G : Hp} {s : Shared} {Q : VK} {vs zs : List V} {us ws : List Value} {ds dz : List D} {b : Nat × List Str × (List D → List D → List D)} {f : Addr} {fd : FuncData} {ps : List Str} {Ψ : PD}
    (mk : Mk X.K C f) (F : FnOk X.prog X.w X.K X.mg X.base (L2.CX X.prog X.w) k f fd ps (spC X.K ps.length c)) (hr : Room (k + 1) X.A) (hb : BindD X.K fd ps b) (tk : Takes X (wOf X.K B Ξ)) (I : L2.Inv X pins σ H s) (R : Rel X.K B r M σ H G)
    (hv : Vals vs us) (hz : Vals zs ws) (rv : RepL X.K G ds vs) (rz : RepL X.K G dz zs) (l1 : ds.length + 1 = b.1) (l2 : dz.length = b.2.1.length) (hc : mkD ds.length dz.length b.2.2 C c Ξ ds dz r M Ψ)
    (hQ : ∀ d M' v H' G', Ψ d M' → Rel X.K B r M' σ H' G' → Sub G G' → Rep X.K G' d v → Q v H') : wpAny (model X.prog X.w) X.A (call (.ref C) us (b.2.1.zip ws)) (EP X pins σ Q) X.xe s := by
  refine run_mk mk F hr hb tk I R hv hz rv rz l1 l2 hc.2.2 (fun p d M' v H' G' hp q w s rp => ?_) fun p x M' H' G' hp q w s => ?_
  · obtain ⟨rfl, fs, rfl, q⟩ := q
    cases rp
    obtain ⟨w1, s1, g1, p1⟩ := ins_frz R.wd hp w s
    exact ⟨rfl, hQ _ _ _ _ _ q (R.go w1 s1) s1.gsub p1⟩
  · obtain ⟨fs, rfl, q⟩ := q
    obtain ⟨w1, s1, g1, p1⟩ := ins_frz R.wd hp w s
    exact ⟨M, _, g1, q, w1, s1⟩
theorem de_make (F : Cf X.prog X.w X.K X.mg X.base x C j c bs) (hr : Room k X.A) (z : Zx X B Ξ) (hb : (n + 1, [], g) ∈ bs) (ha : DA X B (e :: es) ga) (hj : j + 1 ≤ k := by decide) (hg : Gl X x := by rfl) (hdb : (x == ("__debug__" : Str)) = false := by decide)
    (he : starEach (e :: es) X.env = (false, eval e X.env) :: starEach es X.env := by rfl) (hpl : (backTo pos (starEach es X.env)).any (·.1) = false := by rfl) :
    DE X B (.Call (.Name x p) (e :: es) [] pos) (fun r M Ψ => ga r M fun ds M1 => mkD n 0 g C c Ξ ds [] r M1 Ψ) := by
  obtain ⟨f, fd, ps, mk, FO, hbs⟩ := F.ex
  refine ⟨fun pins s σ H Q I ⟨r, M, G, Ψ, R, h, kk⟩ => ?_⟩
  refine wpAny_Call_Name_kw (ld_glob I hg F.gl ?_ hdb)
  refine PySem.W.callWith_K (h₀ := X.base) I.ok.mod.kin mk.kp (thn (ha.run pos pins s σ H _ I ⟨r, M, G, _, R, h, fun ds M1 vs H1 G1 q R1 s1 p1 => (⟨ds, M1, G1, q, R1, s1, p1⟩ : ∃ ds M1 G1, mkD n 0 g C c Ξ ds [] r M1 Ψ ∧ Rel X.K B r M1 σ H1 G1 ∧ Sub G G1 ∧ RepL X.K G1 ds vs)⟩) fun us s1 ⟨vs, H1, I1, rv, ds, M1, G1, q, R1, t1, p1⟩ => ⟨I1.kIn, ?_⟩) he hpl
  obtain ⟨l1, l2, q⟩ := q
  exact run_mkD (zs := []) (ws := []) (dz := []) (b := (n + 1, [], g)) mk FO (hr.mono hj) (hbs _ hb) z.tk I1 R1 rv .nil p1 .nil (congrArg Nat.succ l1) rfl ⟨rfl, rfl, q⟩ fun d M' v H' G' q R' s' p' => kk _ _ _ _ _ q R' (t1.tr s') p'
theorem de_makeK (F : Cf X.prog X.w X.K X.mg X.base x C j c bs) (hr : Room k X.A) (z : Zx X B Ξ) (hb : (n + 1, ks, g) ∈ bs) (ha : DA X B (e :: es) ga) (hkw : DK X B kws gk) (hj : j + 1 ≤ k := by decide) (hg : Gl X x := by rfl) (hdb : (x == ("__debug__" : Str)) = false := by decide)
    (hall : (backToKw pos (keywordEach kws X.env)).all (·.1.isSome) = true := by rfl) (hks : (backToKw pos (keywordEach kws X.env)).filterMap (·.1) = ks := by rfl) (he : starEach (e :: es) X.env = (false, eval e X.env) :: starEach es X.env := by rfl)
    (hpl : ((backTo pos (starEach (e :: es) X.env)).any (·.1) || (backToKw pos (keywordEach kws X.env)).any (·.1.isNone)) = false := by rfl) :
    DE X B (.Call (.Name x p) (e :: es) kws pos) (fun r M Ψ => ga r M fun ds M1 => gk r M1 fun dz M2 => mkD n ks.length g C c Ξ ds dz r M2 Ψ) := by
  obtain ⟨f, fd, ps, mk, FO, hbs⟩ := F.ex
  refine ⟨fun pins s σ H Q I ⟨r, M, G, Ψ, R, h, kk⟩ => ?_⟩
  refine wpAny_Call_Name_kw (ld_glob I hg F.gl ?_ hdb)
  refine PySem.W.callWith_KW (h₀ := X.base) I.ok.mod.kin mk.kp hall (thn (ha.run pos pins s σ H _ I ⟨r, M, G, _, R, h, fun ds M1 vs H1 G1 q R1 s1 p1 => (⟨ds, M1, G1, q, R1, s1, p1⟩ : ∃ ds M1 G1, (gk r M1 fun dz M2 => mkD n ks.length g C c Ξ ds dz r M2 Ψ) ∧ Rel X.K B r M1 σ H1 G1 ∧ Sub G G1 ∧ RepL X.K G1 ds vs)⟩) fun us s1 ⟨vs, H1, I1, rv, ds, M1, G1, q, R1, t1, p1⟩ => ?_) hpl he
  refine thn (hkw.run pos pins s1 σ H1 _ I1 ⟨r, M1, G1, _, R1, q, fun dz M2 us H2 G2 q R2 s2 p2 => (⟨dz, M2, G2, q, R2, s2, p2⟩ : ∃ dz M2 G2, mkD n ks.length g C c Ξ ds dz r M2 Ψ ∧ Rel X.K B r M2 σ H2 G2 ∧ Sub G1 G2 ∧ RepL X.K G2 dz us)⟩) fun ws s2 ⟨zs, H2, I2, rz, dz, M2, G2, q, R2, t2, p2⟩ => ⟨I2.kIn, ?_⟩
  obtain ⟨l1, l2, q⟩ := q
  rw [hks]
  exact run_mkD (b := (n + 1, ks, g)) mk FO (hr.mono hj) (hbs _ hb) z.tk I2 R2 rv rz (p1.mono t2) p2 (congrArg Nat.succ l1) l2 ⟨rfl, rfl, q⟩ fun d M' v H' G' q R' s' p' => kk _ _ _ _ _ q R' ((t1.tr t2).tr s') p'
end
end Z
namespace Z
open PySem PySem.Spec PyProof.Rows L2

structure Sf (P : Program) (w : World) (K : PySem.W.Frag) (mg : Str → Option Value) (base : Heap) (C : Addr) (m : Str) (k : Nat) (c : Ct) (bs : List (Nat × List Str × (List D → List D → List D))) : Prop where
  ex : ∃ f fd ps p rest mc, PySem.W.readsIn K C mc = true ∧ PySem.W.specialIn K (.ref C) "__getattribute__" = some (some (.builtin "type.__getattribute__")) ∧ PySem.W.findCls K (.ref C) mc m = some (.get (.builtin "staticmethod.__get__") (.ref p) .none (.ref C)) ∧
    PySem.W.recIn K p "staticmethod" = some (.ref f :: rest) ∧ PySem.W.keepIn K (.ref f) = true ∧ FnOk P w K mg base (L2.CX P w) k f fd ps (spC K ps.length c) ∧ ∀ b ∈ bs, BindD K fd ps b
structure Pf (P : Program) (w : World) (K : PySem.W.Frag) (mg : Str → Option Value) (base : Heap) (C : Addr) (m : Str) (k : Nat) (c : Ct) : Prop where
  ex : ∃ f fd ps p, PropOf K C m p f ∧ FnOk P w K mg base (L2.CX P w) k f fd ps (spC K ps.length c) ∧ BindD K fd ps (Z.pos 1)
section
variable {X : Cx} {B : Bs} {Ξ : XD → En → Sto → Prop} {k j n : Nat} {c : Ct} {pos apos p p' : Pos} {e o : Expr} {es : List Expr} {kws : List Keyword} {ga gk : DTA} {fa fo : DTE} {C : Addr} {fn m x : Str} {ks : List Str} {g : List D → List D → List D} {bs : List (Nat × List Str × (List D → List D → List D))}
theorem getsm_ok {pins : List (Addr × Obj)} {σ : L2.St} {H : Hp} {s : Shared} {A : Around} {E : Value → Shared → Prop} {pl : Sem Bool} {Q : Value × List Value → Shared → Prop} {f p : Addr} {rest : List Value} {mc : Value} (I : L2.Inv X pins σ H s) (h1 : PySem.W.readsIn X.K C mc = true)
    (h2 : PySem.W.specialIn X.K (.ref C) "__getattribute__" = some (some (.builtin "type.__getattribute__"))) (h3 : PySem.W.findCls X.K (.ref C) mc m = some (.get (.builtin "staticmethod.__get__") (.ref p) .none (.ref C)))
    (h4 : PySem.W.recIn X.K p "staticmethod" = some (.ref f :: rest)) (h : Q (.ref f, []) { s with toks := s.toks + 1 }) : wpAny (model X.prog X.w) A (getMethod (.ref C) m pl) Q E s :=
  PySem.W.method_cls I.kIn h2 (PySem.W.cls_bind I.kIn h1 h3 (wpAny_call (PySem.W.sm_get (s := { s with toks := s.toks + 1 }) I.kIn h4 (PySem.W.handed_on rfl h))))
theorem de_sm {pl : Sem Bool} (F : Sf X.prog X.w X.K X.mg X.base C m j c bs) (hm : X.mg x = some (.ref C)) (hr : Room k X.A) (z : Zx X B Ξ) (hb : (n, [], g) ∈ bs) (ha : DA X B (e :: es) ga) (hj : j ≤ k := by decide) (hg : Gl X x := by rfl) (hdb : (x == ("__debug__" : Str)) = false := by decide)
    (hst : starEach (e :: es) X.env = (false, eval e X.env) :: starEach es X.env := by rfl) (hpl : (backTo pos (starEach es X.env)).any (·.1) = false := by rfl)
    (ht : eval (.Call (.Attribute (.Name x p) m apos) (e :: es) [] pos) X.env = (do let ov ← eval (.Name x p) X.env; standAt apos.atName; let (f, first) ← holding [ov] (getMethod ov m pl); callWith pos f first (backTo pos (starEach (e :: es) X.env)) (backToKw pos (keywordEach [] X.env))) := by rfl) :
    DE X B (.Call (.Attribute (.Name x p) m apos) (e :: es) [] pos) (fun r M Ψ => ga r M fun ds M2 => callD n 0 g c Ξ ds [] r M2 Ψ) := by
  obtain ⟨f, fd, ps, q, rest, mc, h1, h2, h3, h4, kp, FO, hbs⟩ := F.ex
  refine ⟨fun pins s σ H Q I ⟨r, M, G, Ψ, R, h, kk⟩ => ?_⟩
  refine PySem.W.methodCall_KW (pl := pl) (thn ((pe_glob (pos := p) (v := .ref C) hg hm rfl hdb).run pins s σ H (fun v H1 => v = .ref C ∧ H1 = H) I ⟨rfl, rfl⟩) fun u s1 ⟨v, H1, I1, rx, q1⟩ => ?_) ht
  obtain ⟨rfl, rfl⟩ := q1
  obtain rfl : u = Value.ref C := rx
  refine getsm_ok I1 h1 h2 h3 h4 ?_
  have I1' := I1.tok (s1.toks + 1)
  refine PySem.W.callWith_K (first := []) (h₀ := X.base) I.ok.mod.kin kp (thn (ha.run pos pins _ σ H1 _ I1' ⟨r, M, G, _, R, h, fun ds M2 vs H2 G2 q R2 s2 p2 => (⟨ds, M2, G2, q, R2, s2, p2⟩ : ∃ ds M2 G2, callD n 0 g c Ξ ds [] r M2 Ψ ∧ Rel X.K B r M2 σ H2 G2 ∧ Sub G G2 ∧ RepL X.K G2 ds vs)⟩) fun us s2 ⟨vs, H2, I2, rv, ds, M2, G2, ⟨l1, _, q⟩, R2, t2, p2⟩ => ⟨I2.kIn, ?_⟩) hst hpl
  exact run_c (zs := []) (ws := []) (dz := []) FO (hr.mono hj) (hbs _ hb) z.tk I2 R2 rv .nil p2 .nil l1 rfl q fun d M' v H' G' q R' s' p' => kk _ _ _ _ _ q R' (t2.tr s') p'
theorem de_prop (F : Pf X.prog X.w X.K X.mg X.base C fn j c) (T : Cls X.K C) (hr : Room k X.A) (ho : DE X B o fo) (hj : j + 1 ≤ k := by decide) (hab : attributeBase o fn X.env (eval o X.env) = eval o X.env := by rfl) :
    DE X B (.Attribute o fn pos) (fun r M Ψ => fo r M fun x M1 => isO C M1 x fun _ => c [x] M1 Ψ noX) := by
  obtain ⟨f, fd, ps, q, hp, FO, hb⟩ := F.ex
  refine ⟨fun pins s σ H Q I ⟨r, M, G, Ψ, R, h, kk⟩ => ?_⟩
  refine attr_of hab (thn (ho.run pins s σ H _ I ⟨r, M, G, _, R, h, fun x M1 v H1 G1 q R1 s1 p1 => (⟨x, M1, G1, q, R1, s1, p1⟩ : ∃ x M1 G1, (isO C M1 x fun _ => c [x] M1 Ψ noX) ∧ Rel X.K B r M1 σ H1 G1 ∧ Sub G G1 ∧ Rep X.K G1 x v)⟩) fun u s1 ⟨v, H1, I1, rx, x, M1, G1, q, R1, t1, p1⟩ => ?_)
  obtain ⟨fs, e1, q⟩ := isO_some q
  obtain ⟨a, dx, fvs, rfl, h1, r1⟩ := obj_rep R1.wd p1 e1
  obtain rfl : u = Value.ref a := rx
  obtain ⟨mA, O, _, _, _, _⟩ := ins_get I1.hok h1
  obtain ⟨od, J, _⟩ := O.look
  obtain ⟨rest, hrec⟩ := hp.rec_
  have I2 := I1.tok (s1.toks + 1)
  have hc : (PySem.W.clsIn X.K C).isSome = true := by
    obtain ⟨cd, hc, _⟩ := PySem.W.any_some T.hd
    rw [hc]
    rfl
  have hr1 : Room (j + 1) X.A := hr.mono hj
  obtain ⟨hl, gl, gV, kb, rel⟩ := hb
  have rr := rel G1 [x] [.ref a] [] [] (.cons p1 .nil) .nil
  have hsp : spC X.K ps.length c (gV [.ref a] []) H1 Q (fun _ _ _ => False) := ⟨by rw [← rr.length]; exact hl [x] [] rfl rfl, _, G1, M1, Ψ, _, R1.wd, rr, q, fun d M' v H' G' q w s p => kk _ _ _ _ _ q (R1.go w s) (t1.tr s.gsub) p, fun _ _ _ _ _ _ z _ _ _ => z.elim⟩
  refine PySem.W.get_bind I1.kIn J (PySem.W.plainGet_of (T.get fn)).1 (PySem.W.findObj_data hc hp.at_ hp.get hp.tak) (PySem.W.plainGet_of (T.get fn)).2 (wpAny_call (PySem.W.prop_get (s := { s1 with toks := s1.toks + 1 }) I1.kIn hrec ?_))
  refine codeAny_mono (FO.run X.A.in1 X.stack { s1 with toks := s1.toks + 1 } H1 ⟨[.ref a], []⟩ (gl [.ref a] []) (gV [.ref a] []) Q _ hr1.in1 I2.env0.in1 (kb.to _ [.ref a] [] I1.kIn rfl rfl) (kb.rel (.cons rfl .nil) .nil) hsp) fun r s' hq => ?_
  cases r with
  | error e =>
    obtain ⟨_, _, _, _, _, _, _, _, _, _, _, _, z⟩ := hq
    exact z.elim
  | ok fl =>
    cases fl with
    | ret u =>
      obtain ⟨v, H', I3, rv, q3⟩ := I2.after hq
      show wpAny _ _ (handedOut u) _ _ _
      rw [PySem.W.handedOut_of (handed_of rv)]
      exact wpAny_pure ⟨v, H', I3, rv, q3⟩
    | next => exact False.elim hq
    | brk => exact False.elim hq
    | cont => exact False.elim hq

def OkM (K : PySem.W.Frag) (r : V → List V → Hp → VK → Prop) (g : Sto → D → List D → PD → Prop) : Prop := ∀ (M : Sto) (H G : Hp) (x : D) (v : V) (ds : List D) (vs : List V) (φ : PD) (Q : VK), Wd K M H G → Rep K G x v → RepL K G ds vs → g M x ds φ → Post K H G M φ Q → r v vs H Q
def isS : D → Prop
  | .str _ => True
  | _ => False
theorem de_sm1 {id : String} {name : Str} {r : V → List V → Hp → VK → Prop} {g : Sto → D → List D → PD → Prop} (slot : Slot "str" name id) (ty : typeOf (.builtin id) = pure (.type "method_descriptor")) (rule : MtR X id r) (ok : OkM X.K r g) (ho : DE X B o fo) (he : DE X B e fa)
    (hs : starEach [e] X.env = [(false, eval e X.env)] := by rfl) (hbase : attributeBase o name X.env (eval o X.env) = eval o X.env := by rfl) (hline : (apos.endLine == pos.line) = true := by rfl) :
    DE X B (.Call (.Attribute o name apos) [e] [] pos) (fun r M Ψ => fo r M fun x M1 => isS x ∧ fa r M1 fun y M2 => g M2 x [y] Ψ) := PE_imp (pe_m1 slot ty rule ho he hs hbase hline) fun σ H Q ⟨r, M, G, Ψ, R, h, k⟩ => by
  refine ⟨r, M, G, _, R, h, fun x M1 v H1 G1 ⟨q1, q⟩ R1 s1 p1 => ⟨?_, r, M1, G1, _, R1, q, fun y M2 u H2 G2 q2 R2 s2 p2 => ?_⟩⟩
  · cases p1 <;> first | exact ⟨_, rfl⟩ | exact q1.elim
  · exact ok M2 H2 G2 _ _ _ _ _ _ R2.wd (p1.mono s2) (.cons p2 .nil) q2 fun d M' w H' G' f w' s' p => k _ _ _ _ _ f (R2.go w' s') ((s1.tr s2).tr s'.gsub) p
def strsD : List D → Option (List Str)
  | [] => some []
  | .str a :: l => (strsD l).map (a :: ·)
  | _ => none
theorem strsD_rep {K : PySem.W.Frag} {G : Hp} : ∀ {l : List D} {vs : List V} {ys : List Str}, RepL K G l vs → strsD l = some ys → vs = ys.map V.str
  | _, _, ys, .nil, h => by cases h; rfl
  | _, _, ys, .cons (d := d) p r, h => by
    cases p with
    | str =>
      unfold strsD at h
      obtain ⟨zs, e, rfl⟩ := Option.map_eq_some_iff.mp h
      rw [strsD_rep r e]; rfl
    | _ => cases h
theorem strsD_map : ∀ ys : List Str, strsD (ys.map D.str) = some ys
  | [] => rfl
  | y :: r => by show (strsD (r.map D.str)).map (y :: ·) = _; rw [strsD_map r]; rfl
def joinD (M : Sto) (x : D) (ds : List D) (φ : PD) : Prop := match x, ds with
  | .str a, [d] => ∃ l ys, (lstOf M d = some l ∨ tupOf d = some l) ∧ strsD l = some ys ∧ (ys.map (·.length)).sum + ys.length * a.length ≤ 16777216 ∧ φ (.str (Txt.join a ys)) M
  | _, _ => False
theorem ok_join {K : PySem.W.Frag} : OkM K (fun x xs H Q => ∃ a p, ∃ ys : List Str, x = .str a ∧ xs = [.ref p] ∧ (SqL K H p (ys.map V.str) ∨ SqT K H p (ys.map V.str)) ∧ (ys.map (·.length)).sum + ys.length * a.length ≤ 16777216 ∧ Q (.str (Txt.join a ys)) H) joinD := fun M H G x v ds vs φ Q w r rs h k => by
  unfold joinD at h
  split at h
  · cases r
    cases rs with
    | cons r1 rs =>
      cases rs
      obtain ⟨l, ys, h1, h2, h3, h4⟩ := h
      rcases h1 with h1 | h1
      · obtain ⟨a, us, e0, e, r2⟩ := one_lst w (.cons r1 .nil) h1
        cases e0
        rw [strsD_rep r2 h2] at e
        exact ⟨_, a, ys, rfl, rfl, .inl e, h3, Post.id k w h4 .str⟩
      · obtain ⟨a, us, rfl, e, r2⟩ := tup_rep w r1 h1
        rw [strsD_rep r2 h2] at e
        exact ⟨_, a, ys, rfl, rfl, .inr e, h3, Post.id k w h4 .str⟩
  · exact h.elim
theorem de_join (ho : DE X B o fo) (he : DE X B e fa) (hs : starEach [e] X.env = [(false, eval e X.env)] := by rfl) (hbase : attributeBase o "join" X.env (eval o X.env) = eval o X.env := by rfl) (hline : (apos.endLine == pos.line) = true := by rfl) :
    DE X B (.Call (.Attribute o "join" apos) [e] [] pos) (fun r M Ψ => fo r M fun x M1 => isS x ∧ fa r M1 fun y M2 => joinD M2 x [y] Ψ) := de_sm1 PySem.F.slot_str_join PySem.F.type_str_join mt_join ok_join ho he hs hbase hline

def fmtD (d : D) (φ : Str → Prop) : Prop := match d with
  | .str y => y.length ≤ sizeLine ∧ φ y
  | .int i => i.natAbs.log2 < 1920 ∧ φ (toString i)
  | _ => False
theorem de_fmt (he : DE X B e fa) : DE X B (.FormattedValue e (-1) none pos) (fun r M Ψ => fa r M fun d M1 => fmtD d fun y => Ψ (.str y) M1) := PE_imp (pe_fmt he) fun σ H Q ⟨r, M, G, Ψ, R, h, k⟩ => by
  refine ⟨r, M, G, _, R, h, fun d M1 v H1 G1 q R1 s1 p1 => ?_⟩
  unfold fmtD at q
  split at q
  · cases p1; exact .inl ⟨_, rfl, q.1, k _ _ _ _ _ q.2 R1 s1 .str⟩
  · cases p1; exact .inr ⟨_, rfl, q.1, k _ _ _ _ _ q.2 R1 s1 .str⟩
  · exact q.elim
inductive DJ (X : Cx) (B : Bs) : List Expr → List DTE → Prop where
  | nil : DJ X B [] []
  | cons {e : Expr} {t : DTE} {es : List Expr} {ts : List DTE} (h : DE X B e t) (r : DJ X B es ts) : DJ X B (e :: es) (t :: ts)
theorem DJ.pj : ∀ {es : List Expr} {ts : List DTE}, DJ X B es ts → PJ X es (ts.map (lift X.K B))
  | _, _, .nil => .nil
  | _, _, .cons h r => .cons h r.pj
def jsD : List DTE → Str → En → Sto → (Str → Sto → Prop) → Prop
  | [], acc, _, M, φ => φ acc M
  | t :: ts, acc, r, M, φ => t r M fun d M1 => match d with
    | .str y => (acc ++ y).length ≤ sizeLine ∧ jsD ts (acc ++ y) r M1 φ
    | _ => False
theorem js_ok {σ : L2.St} {Q : Str → Hp → Prop} {φ : Str → Sto → Prop} {r : En} : ∀ {ts : List DTE} {acc : Str} {M : Sto} {H G : Hp}, Rel X.K B r M σ H G → jsD ts acc r M φ →
    (∀ y M' H' G', φ y M' → Rel X.K B r M' σ H' G' → Sub G G' → Q y H') → tJs (ts.map (lift X.K B)) acc σ H Q
  | [], acc, M, H, G, R, h, k => k _ _ _ _ h R Sub.rfl'
  | t :: ts, acc, M, H, G, R, h, k => ⟨r, M, G, _, R, h, fun d M1 v H1 G1 q R1 s1 p1 => by
    split at q
    · cases p1
      exact ⟨_, rfl, q.1, js_ok R1 q.2 fun y M' H' G' q R' s => k y M' H' G' q R' (s1.tr s)⟩
    · exact q.elim⟩
theorem de_joined {v1 v2 : Expr} {rest : List Expr} {ts : List DTE} (h : DJ X B (v1 :: v2 :: rest) ts) : DE X B (.JoinedStr (v1 :: v2 :: rest) pos) (fun r M Ψ => jsD ts Str.empty r M fun y M1 => Ψ (.str y) M1) := PE_imp (pe_joined h.pj) fun σ H Q ⟨r, M, G, Ψ, R, h, k⟩ =>
  js_ok R h fun y M' H' G' q R' s => k _ _ _ _ _ q R' s .str
end
end Z
namespace Z
open PySem PySem.Spec PyProof.Rows L2

section
variable {P : Program} {w : World} {K : PySem.W.Frag} {mg : Str → Option Value} {base : Heap} {x qual : Str} {st : Stmt} {f : Addr} {fd : FuncData} {N ps : List Str} {k : Nat} {dvs : List V} {kws : List (Str × V)}
abbrev FnZ (K : PySem.W.Frag) (x qual : Str) (st : Stmt) (dvs : List V) (kws : List (Str × V)) (f : Addr) (fd : FuncData) : Prop := FunD K x qual (defArgs st) (defBody st) (defScope st) dvs kws f fd
theorem fnD (F : FnZ K x qual st dvs kws f fd) (S : FnScope N ps (defScope st)) (c : Ct)
    (hb : ∀ (cdv : Value) (A : Around) (outer : List Env) (s : Shared) (H : Hp) (E : XK) (B : Bs) (Ξ : XD → Sto → Prop), Room k (A.deeper (envOfC qual (defScope st) s.heap.objs.size f cdv)) →
      Zx (cxOf (L2.CX P w) P w K mg base N qual (defScope st) f cdv A outer s H E) B (exF B.M Ξ) →
      ∃ t, DSs (cxOf (L2.CX P w) P w K mg base N qual (defScope st) f cdv A outer s H E) B (defBody st) t ∧
        ∀ (ds : List D) (Ψ : D → Sto → Prop), ds.length = ps.length → c ds B.M Ψ Ξ → t { nx := fun _ M' => rtF B.M Ψ .non M', rt := rtF B.M Ψ } (ent N.length ds) B.M) :
    FnOk P w K mg base (L2.CX P w) (k + 1) f fd ps (spC K ps.length c) := by
  refine F.ok S (fun vs H Q E h => h.1) fun cdv A outer s H vs Q E hr h => ?_
  obtain ⟨hl, ds, G, M, Ψ, Ξ, wd, r, hc, hQ, hE⟩ := h
  have tk0 : Takes (cxOf (L2.CX P w) P w K mg base N qual (defScope st) f cdv A outer s H E) (fun cls d _ H => E cls d H) := takes_of rfl rfl rfl rfl
  obtain ⟨t, ht, q⟩ := hb cdv A outer s H E ⟨H, G, M⟩ Ξ hr ⟨tk0.imp (exF_take (B := ⟨H, G, M⟩) hE), passes_of rfl⟩
  have end_ : ∀ (d : D) (r' : En) (M' : Sto) (v : V) (σ' : L2.St) (H' G' : Hp), rtF M Ψ d M' → Rel K ⟨H, G, M⟩ r' M' σ' H' G' → Rep K G' d v → Q v H' := fun d r' M' v σ' H' G' ⟨d', M'', fr, q⟩ R' p => by
    cases fr with
    | same => exact hQ _ _ _ _ _ q R'.wd R'.sin p
    | drop =>
      obtain ⟨w1, s1⟩ := frz_end R'.wd R'.sin
      exact hQ _ _ _ _ _ q w1 s1 (p.mono frzG_sub)
    | frz n =>
      obtain ⟨w1, s1⟩ := frz_end R'.wd R'.sin
      exact hQ _ _ _ _ _ q w1 s1 ((p.mono frzG_sub).sb (rep_frz R'.wd n))
  refine ⟨_, ht, ent N.length ds, M, G, _, rel_start wd r, q ds Ψ (r.length.trans hl) hc, ⟨fun r' M' σ' H' G' q' R' s' => ?_, fun d r' M' v σ' H' G' q' R' p => end_ d r' M' v σ' H' G' q' R' p, fun _ _ _ _ _ q' _ _ => q'.elim, fun _ _ _ _ _ q' _ _ => q'.elim⟩⟩
  exact end_ .non r' M' .non σ' H' G' q' R' .non
theorem fun_of (F : FnZ K x qual st [] kws f fd) : Fun K x qual st f fd := by
  obtain ⟨oc, od, dV, kV, doc, pm, an, cdv, ct, osl, rfl, lk, hcd, hD, _⟩ := F.ex
  rcases hD with ⟨_, rfl⟩ | ⟨e, _⟩
  · exact ⟨⟨oc, od, kV, doc, pm, an, cdv, ct, osl, rfl, lk, hcd⟩, F.kp⟩
  · exact absurd rfl e
inductive Src where
  | p (i : Nat) | k (i : Nat) | d (i : Nat)
def srcO {α : Type} (us its ws : List α) : Src → Option α
  | .p i => us[i]?
  | .k i => ws[i]?
  | .d i => its[i]?
def gS {α : Type} : List Src → List α → List α → List α → List α
  | [], _, _, _ => []
  | s :: ss, us, its, ws => match srcO us its ws s with
    | some a => a :: gS ss us its ws
    | none => gS ss us its ws
theorem get_vals {as : List V} {bs : List Value} (r : Vals as bs) (i : Nat) : (as[i]? = none ∧ bs[i]? = none) ∨ ∃ a b, as[i]? = some a ∧ bs[i]? = some b ∧ L2.RelV a b := by
  rcases Nat.lt_or_ge i as.length with h | h
  · obtain ⟨u, hu, ru⟩ := r.get (List.getElem?_eq_getElem h)
    exact .inr ⟨_, _, List.getElem?_eq_getElem h, hu, ru⟩
  · exact .inl ⟨List.getElem?_eq_none h, List.getElem?_eq_none (r.length ▸ h)⟩
theorem get_reps {G : Hp} {as : List D} {bs : List V} (r : RepL K G as bs) (i : Nat) : (as[i]? = none ∧ bs[i]? = none) ∨ ∃ a b, as[i]? = some a ∧ bs[i]? = some b ∧ Rep K G a b := by
  rcases Nat.lt_or_ge i as.length with h | h
  · obtain ⟨u, hu, ru⟩ := r.get (List.getElem?_eq_getElem h)
    exact .inr ⟨_, _, List.getElem?_eq_getElem h, hu, ru⟩
  · exact .inl ⟨List.getElem?_eq_none h, List.getElem?_eq_none (r.length ▸ h)⟩
theorem vals_gS {us its ws : List Value} {vs ds zs : List V} (r1 : Vals vs us) (r2 : Vals ds its) (r3 : Vals zs ws) : ∀ ss : List Src, Vals (gS ss vs ds zs) (gS ss us its ws)
  | [] => .nil
  | s :: ss => by
    have ih := vals_gS r1 r2 r3 ss
    have g : (srcO vs ds zs s = none ∧ srcO us its ws s = none) ∨ ∃ a b, srcO vs ds zs s = some a ∧ srcO us its ws s = some b ∧ L2.RelV a b := by
      cases s with
      | p i => exact get_vals r1 i
      | k i => exact get_vals r3 i
      | d i => exact get_vals r2 i
    rcases g with ⟨h1, h2⟩ | ⟨a, b, h1, h2, r⟩
    · simp only [gS, h1, h2]; exact ih
    · simp only [gS, h1, h2]; exact .cons r ih
theorem rep_gS {G : Hp} {us its ws : List V} {vs ds zs : List D} (r1 : RepL K G vs us) (r2 : RepL K G ds its) (r3 : RepL K G zs ws) : ∀ ss : List Src, RepL K G (gS ss vs ds zs) (gS ss us its ws)
  | [] => .nil
  | s :: ss => by
    have ih := rep_gS r1 r2 r3 ss
    have g : (srcO vs ds zs s = none ∧ srcO us its ws s = none) ∨ ∃ a b, srcO vs ds zs s = some a ∧ srcO us its ws s = some b ∧ Rep K G a b := by
      cases s with
      | p i => exact get_reps r1 i
      | k i => exact get_reps r3 i
      | d i => exact get_reps r2 i
    rcases g with ⟨h1, h2⟩ | ⟨a, b, h1, h2, r⟩
    · simp only [gS, h1, h2]; exact ih
    · simp only [gS, h1, h2]; exact .cons r ih
theorem bind0 (F : FnZ K x qual st [] kws f fd) (n : Nat) (hn : ps.length = n)
    (h : ∀ (kV doc pm : Value) (an : Option Addr) (cdv ct : Value) (us : List Value), us.length = n → bindArgs (PySem.W.fnOf x qual (defArgs st) (defBody st) (defScope st) .none kV doc pm an cdv ct) ⟨us, []⟩ = pure (ps.zip us)) : BindD K fd ps (Z.pos n) := by
  obtain ⟨oc, od, dV, kV, doc, pm, an, cdv, ct, osl, rfl, lk, hcd, hD, _⟩ := F.ex
  rcases hD with ⟨_, rfl⟩ | ⟨e, _⟩
  · exact ⟨fun ds zs h _ => h.trans hn.symm, fun us _ => us, fun vs _ => vs, ⟨fun s us ws _ h1 h2 => .of_eq (by
      have e : ws = [] := List.length_eq_zero_iff.mp h2
      rw [e]; exact h kV doc pm an cdv ct us h1), fun r _ => r⟩, fun G ds vs zs us r _ => r⟩
  · exact absurd rfl e
theorem bind0k (F : FnZ K x qual st [] kws f fd) (n : Nat) (ks : List Str) (ss : List Src) (hl : ∀ {α : Type} (us its ws : List α), us.length = n → its.length = 0 → ws.length = ks.length → (gS ss us its ws).length = ps.length)
    (h : ∀ (kV doc pm : Value) (an : Option Addr) (cdv ct : Value) (us ws : List Value), us.length = n → ws.length = ks.length → bindArgs (PySem.W.fnOf x qual (defArgs st) (defBody st) (defScope st) .none kV doc pm an cdv ct) ⟨us, ks.zip ws⟩ = pure (ps.zip (gS ss us [] ws))) :
    BindD K fd ps (n, ks, fun ds dz => gS ss ds [] dz) := by
  obtain ⟨oc, od, dV, kV, doc, pm, an, cdv, ct, osl, rfl, lk, hcd, hD, _⟩ := F.ex
  rcases hD with ⟨_, rfl⟩ | ⟨e, _⟩
  · exact ⟨fun ds zs h1 h2 => hl ds [] zs h1 rfl h2, fun us ws => gS ss us [] ws, fun us ws => gS ss us [] ws, ⟨fun s us ws _ h1 h2 => .of_eq (h kV doc pm an cdv ct us ws h1 h2), fun r1 r2 => vals_gS r1 .nil r2 ss⟩, fun G ds vs zs us r1 r2 => rep_gS r1 .nil r2 ss⟩
  · exact absurd rfl e
theorem bindk (F : FnZ K x qual st dvs kws f fd) (n : Nat) (ks : List Str) (ss : List Src) (dd md : List D) (ms : List (Str × V)) (hdd : ∀ G, RepL K G dd dvs) (hmd : ∀ G, RepL K G md (ms.map (·.2))) (hd : dvs ≠ []) (hk : kws ≠ []) (hms : ∀ q ∈ ms, q ∈ kws)
    (hl : ∀ {α : Type} (us its ws : List α), us.length = n → its.length = (dd ++ md).length → ws.length = ks.length → (gS ss us its ws).length = ps.length)
    (h : ∀ (T D' : Addr) (doc pm : Value) (an : Option Addr) (cdv ct : Value) (us its mv ws : List Value), us.length = n → its.length = dd.length → mv.length = md.length → ws.length = ks.length →
      ∃ k, bindArgs (PySem.W.fnOf x qual (defArgs st) (defBody st) (defScope st) (.ref T) (.ref D') doc pm an cdv ct) ⟨us, ks.zip ws⟩ = seqItems? (.ref T) >>= k ∧ KwChain D' ((ms.map (·.1)).zip mv) (k (some its.toArray)) (ps.zip (gS ss us (its ++ mv) ws))) :
    BindD K fd ps (n, ks, fun ds dz => gS ss ds (dd ++ md) dz) := by
  have l1 : dd.length = dvs.length := (hdd (fun _ => none)).length
  have l2 : md.length = ms.length := by rw [(hmd (fun _ => none)).length, List.length_map]
  obtain ⟨its, mv, kb⟩ := FunD.kbinds (ps := ps) F n ks ms (fun us its mv ws => gS ss us (its ++ mv) ws) hd hk hms (fun r1 r2 r3 r4 => vals_gS r1 (r2.append r3) r4 ss) (fun T D' doc pm an cdv ct us its mv ws h1 h2 h3 h4 => h T D' doc pm an cdv ct us its mv ws h1 (h2.trans l1.symm) (h3.trans l2.symm) h4)
  exact ⟨fun ds zs h1 h2 => hl ds (dd ++ md) zs h1 rfl h2, _, _, kb, fun G ds vs zs us r1 r2 => rep_gS r1 ((hdd G).app (hmd G)) r2 ss⟩
theorem all_nil {α : Type} {p : α → Prop} : ∀ b ∈ ([] : List α), p b := fun _ h => by cases h
theorem all_cons {α : Type} {p : α → Prop} {a : α} {l : List α} (h : p a) (r : ∀ b ∈ l, p b) : ∀ b ∈ a :: l, p b := fun b hb => by
  rcases List.mem_cons.mp hb with e | e
  · rw [e]; exact h
  · exact r b e
end

abbrev FF := PySem.W.Frag → Bool
def gaM (x m : Str) (K : PySem.W.Frag) : Addr := He.ma K (He.ga K x) m
def recA (T : String) (p : Addr) (K : PySem.W.Frag) : Addr := match PySem.W.recIn K p T with
  | some (.ref g :: _) => g
  | _ => 0
def recB (T : String) (p : Addr) (K : PySem.W.Frag) : Addr := match PySem.W.recIn K p T with
  | some (_ :: .ref g :: _) => g
  | _ => 0
inductive At where
  | g (x : Str)
  | mt (x m : Str)
  | pr (x m : Str)
  | sm (x m : Str)
  | cm (x m : Str)
  | st (x m : Str)
def At.ad (K : PySem.W.Frag) : At → Addr
  | .g x => He.ga K x
  | .mt x m => gaM x m K
  | .pr x m => recA "property" (gaM x m K) K
  | .sm x m => recA "staticmethod" (gaM x m K) K
  | .cm x m => recA "classmethod" (gaM x m K) K
  | .st x m => recB "property" (gaM x m K) K
def fnA (K : PySem.W.Frag) (a : Addr) : He.FnW := match K.lookup a with
  | some ⟨_, _, .func fd, _⟩ => some (fd.name, fd.qualname, fd.params, fd.body, fd.scope, fd.globals, fd.closure.map (fun c => (c.1, 0)), fd.builtins)
  | _ => none
structure DefZ where
  at_ : At
  name : Str
  qual : Str
  st : Stmt
  dfl : List He.Dv := []
  kdf : List (Str × He.Dv) := []
  sup : Bool := false
def DefZ.val (d : DefZ) : He.FnW := some (d.name, d.qual, defArgs d.st, .stmts (defBody d.st), defScope d.st, mainGlobals, (if d.sup then [("__class__", 0)] else []), builtinsNs)
def DefZ.dvs (K : PySem.W.Frag) (d : DefZ) : List V := d.dfl.map (He.Dv.v K)
def DefZ.kws (K : PySem.W.Frag) (d : DefZ) : List (Str × V) := d.kdf.map fun q => (q.1, q.2.v K)
def DefZ.ok (K : PySem.W.Frag) (d : DefZ) : Bool := PySem.W.keepIn K (.ref (d.at_.ad K)) && (match K.lookup (d.at_.ad K) with
  | some ⟨_, _, .func fd, _⟩ => PySem.W.codeIn K fd.code d.qual && (He.dflB K fd.defaults (d.dvs K) && He.kwdB K fd.kwdefaults (d.kws K))
  | _ => false)
theorem DefZ.funD {K : PySem.W.Frag} {d : DefZ} (e : fnA K (d.at_.ad K) = d.val) (c : d.ok K = true) (hs : d.sup = false := by rfl) : ∃ fd, FnZ K d.name d.qual d.st (d.dvs K) (d.kws K) (d.at_.ad K) fd := by
  obtain ⟨kp, c2⟩ := He.ba c
  unfold fnA at e
  cases q : K.lookup (d.at_.ad K) with
  | none =>
    rw [q] at c2
    cases c2
  | some o =>
    obtain ⟨oc, od, dt, osl⟩ := o
    rw [q] at c2 e
    cases dt with
    | func fd =>
      obtain ⟨n1, n2, n3, n4, n5, n6, n7, n8, n9, n10, n11, n12, n13, n14, n15⟩ := fd
      have e2 : (some (n1, n2, n3, n4, n5, n6, n7.map (fun c => (c.1, 0)), n15) : He.FnW) = (some (d.name, d.qual, defArgs d.st, .stmts (defBody d.st), defScope d.st, mainGlobals, (if d.sup then [("__class__", 0)] else []), builtinsNs) : He.FnW) := e
      rw [hs] at e2
      simp only [Option.some.injEq, Prod.mk.injEq, Bool.false_eq_true, if_false, List.map_eq_nil_iff] at e2
      obtain ⟨h1, h2, h3, h4, h5, h6, h7, h8⟩ := e2
      subst h1 h2 h3 h4 h5 h6 h7 h8
      have c3 : (PySem.W.codeIn K n13 d.qual && (He.dflB K n8 (d.dvs K) && He.kwdB K n9 (d.kws K))) = true := c2
      obtain ⟨k1, k2⟩ := He.ba c3
      obtain ⟨k2, k3⟩ := He.ba k2
      exact ⟨_, ⟨oc, od, n8, n9, n10, n11, n12, n13, n14, osl, rfl, q, k1, He.dflB_ok k2, He.kwdB_ok k3⟩, kp⟩
    | _ => cases c2
structure FnS (K : PySem.W.Frag) (x qual : Str) (st : Stmt) (f : Addr) (fd : FuncData) : Prop where
  ex : ∃ (oc : Value) (od : Option Addr) (kV doc pm : Value) (an : Option Addr) (cda : Addr) (ct : Value) (osl : Array (Option Value)) (cc : Addr), fd = PySem.W.fnX x qual (defArgs st) (defBody st) (defScope st) [("__class__", cc)] .none kV doc pm an (.ref cda) ct ∧ K.lookup f = some ⟨oc, od, .func fd, osl⟩ ∧ PySem.W.codeIn K (.ref cda) qual = true
  kp : PySem.W.keepIn K (.ref f) = true
theorem DefZ.funS {K : PySem.W.Frag} {d : DefZ} (e : fnA K (d.at_.ad K) = d.val) (c : d.ok K = true) (hs : d.sup = true := by rfl) (h1 : d.dfl = [] := by rfl) (h2 : d.kdf = [] := by rfl) : ∃ fd, FnS K d.name d.qual d.st (d.at_.ad K) fd := by
  obtain ⟨kp, c2⟩ := He.ba c
  unfold fnA at e
  cases q : K.lookup (d.at_.ad K) with
  | none =>
    rw [q] at c2
    cases c2
  | some o =>
    obtain ⟨oc, od, dt, osl⟩ := o
    rw [q] at c2 e
    cases dt with
    | func fd =>
      obtain ⟨n1, n2, n3, n4, n5, n6, n7, n8, n9, n10, n11, n12, n13, n14, n15⟩ := fd
      have e2 : (some (n1, n2, n3, n4, n5, n6, n7.map (fun c => (c.1, 0)), n15) : He.FnW) = (some (d.name, d.qual, defArgs d.st, .stmts (defBody d.st), defScope d.st, mainGlobals, (if d.sup then [("__class__", 0)] else []), builtinsNs) : He.FnW) := e
      rw [hs] at e2
      simp only [Option.some.injEq, Prod.mk.injEq, if_true] at e2
      obtain ⟨k1, k2, k3, k4, k5, k6, k7, k8⟩ := e2
      obtain ⟨cc, rfl⟩ : ∃ cc : Addr, n7 = ([(("__class__" : Str), cc)] : List (Str × Addr)) := by
        match n7, k7 with
        | [(y, cc)], k7 =>
          simp only [List.map_cons, List.map_nil, List.cons.injEq, Prod.mk.injEq, and_true] at k7
          exact ⟨cc, by rw [k7]⟩
        | [], k7 => cases k7
        | _ :: _ :: _, k7 => simp at k7
      subst k1 k2 k3 k4 k5 k6 k8
      have c3 : (PySem.W.codeIn K n13 d.qual && (He.dflB K n8 (d.dvs K) && He.kwdB K n9 (d.kws K))) = true := c2
      obtain ⟨y1, y2⟩ := He.ba c3
      obtain ⟨y2, y3⟩ := He.ba y2
      have z2 := He.dflB_ok y2
      have e8 : n8 = .none := by
        rcases z2 with ⟨_, z⟩ | ⟨z, _⟩
        · exact z
        · exact absurd (show d.dvs K = [] by unfold DefZ.dvs; rw [h1]; rfl) z
      subst e8
      obtain ⟨cda, rfl⟩ : ∃ cda, n13 = .ref cda := by
        unfold PySem.W.codeIn at y1
        split at y1
        · exact ⟨_, rfl⟩
        · cases y1
      exact ⟨_, ⟨oc, od, n9, n10, n11, n12, cda, n14, osl, cc, rfl, q, y1⟩, kp⟩
    | _ => cases c2
def obsZ (fa : List FF) (fn : List DefZ) (K : PySem.W.Frag) : He.AlD := ((fa.all fun f => f K) && fn.all fun d => d.ok K, fn.map fun d => fnA K (d.at_.ad K))
def valZ (fn : List DefZ) : He.AlD := (true, fn.map DefZ.val)
def SaysZ (fa : List FF) (fn : List DefZ) (K : PySem.W.Frag) : Prop := obsZ fa fn K = valZ fn
section
variable {fa : List FF} {fn : List DefZ} {K : PySem.W.Frag}
theorem SaysZ.fact (c : SaysZ fa fn K) (i : Nat) {f : FF} (h : fa[i]? = some f := by rfl) : f K = true := by
  have c1 := (He.ba (show ((fa.all fun f => f K) && fn.all fun d => d.ok K) = true from congrArg (fun z : He.AlD => z.1) c)).1
  exact List.all_eq_true.mp c1 f (List.mem_of_getElem? h)
theorem SaysZ.def_ (c : SaysZ fa fn K) (i : Nat) {d : DefZ} (h : fn[i]? = some d := by rfl) (hs : d.sup = false := by rfl) : ∃ fd, FnZ K d.name d.qual d.st (d.dvs K) (d.kws K) (d.at_.ad K) fd := by
  have c2 := (He.ba (show ((fa.all fun f => f K) && fn.all fun d => d.ok K) = true from congrArg (fun z : He.AlD => z.1) c)).2
  have e : fn.map (fun d => fnA K (d.at_.ad K)) = fn.map DefZ.val := congrArg (fun z : He.AlD => z.2) c
  have e2 : (fn.map fun d => fnA K (d.at_.ad K))[i]? = (fn.map DefZ.val)[i]? := by rw [e]
  rw [List.getElem?_map, List.getElem?_map, h] at e2
  exact DefZ.funD (Option.some.inj e2) (List.all_eq_true.mp c2 d (List.mem_of_getElem? h)) hs
theorem SaysZ.defS (c : SaysZ fa fn K) (i : Nat) {d : DefZ} (h : fn[i]? = some d := by rfl) (hs : d.sup = true := by rfl) (h1 : d.dfl = [] := by rfl) (h2 : d.kdf = [] := by rfl) : ∃ fd, FnS K d.name d.qual d.st (d.at_.ad K) fd := by
  have c2 := (He.ba (show ((fa.all fun f => f K) && fn.all fun d => d.ok K) = true from congrArg (fun z : He.AlD => z.1) c)).2
  have e : fn.map (fun d => fnA K (d.at_.ad K)) = fn.map DefZ.val := congrArg (fun z : He.AlD => z.2) c
  have e2 : (fn.map fun d => fnA K (d.at_.ad K))[i]? = (fn.map DefZ.val)[i]? := by rw [e]
  rw [List.getElem?_map, List.getElem?_map, h] at e2
  exact DefZ.funS (Option.some.inj e2) (List.all_eq_true.mp c2 d (List.mem_of_getElem? h)) hs h1 h2
end
def isF (f : He.Fa) : FF := fun K => f.ok K
def cmpF (x : Str) : FF := fun K => He.eqO (PySem.W.findIn K (.ref (He.ga K x)) "__ne__") (some (some (.builtin "object.__ne__"))) && decide (PySem.W.mroIn K (He.ga K x) (.type "object") = some true)
theorem cmpF_ok {x : Str} {K : PySem.W.Frag} (c : cmpF x K = true) : CmpF K (He.ga K x) := ⟨He.eqO_ok (He.ba c).1, of_decide_eq_true (He.ba c).2⟩
def smF (x m : Str) : FF := fun K => PySem.W.readsIn K (He.ga K x) (.type "type") && (He.eqO (PySem.W.specialIn K (.ref (He.ga K x)) "__getattribute__") (some (some (.builtin "type.__getattribute__"))) &&
  ((match PySem.W.findCls K (.ref (He.ga K x)) (.type "type") m with
    | some (.get (.builtin i) (.ref p) .none (.ref C)) => decide (i = "staticmethod.__get__") && (decide (p = gaM x m K) && decide (C = He.ga K x))
    | _ => false) && (match PySem.W.recIn K (gaM x m K) "staticmethod" with
    | some (.ref _ :: _) => true
    | _ => false)))
def prF (x m : Str) : FF := fun K => He.eqO (PySem.W.findIn K (.ref (He.ga K x)) m) (some (some (.ref (gaM x m K)))) && (He.eqO (PySem.W.specialIn K (.ref (gaM x m K)) "__get__") (some (some (.builtin "property.__get__"))) && (decide (PySem.W.takesIn K (.ref (gaM x m K)) = some true) &&
  (match PySem.W.recIn K (gaM x m K) "property" with
    | some (.ref _ :: _) => true
    | _ => false)))
theorem prF_ok {x m : Str} {K : PySem.W.Frag} (c : prF x m K = true) : PropOf K (He.ga K x) m (gaM x m K) ((At.pr x m).ad K) := by
  obtain ⟨c1, c⟩ := He.ba c
  obtain ⟨c2, c⟩ := He.ba c
  obtain ⟨c3, c4⟩ := He.ba c
  refine ⟨He.eqO_ok c1, He.eqO_ok c2, of_decide_eq_true c3, ?_⟩
  show ∃ rest, PySem.W.recIn K (gaM x m K) "property" = some (.ref (recA "property" (gaM x m K) K) :: rest)
  unfold recA
  split at c4
  · rename_i g rest e
    rw [e]
    exact ⟨rest, rfl⟩
  · cases c4
theorem smF_ok {x m : Str} {K : PySem.W.Frag} (c : smF x m K = true) : PySem.W.readsIn K (He.ga K x) (.type "type") = true ∧ PySem.W.specialIn K (.ref (He.ga K x)) "__getattribute__" = some (some (.builtin "type.__getattribute__")) ∧
    PySem.W.findCls K (.ref (He.ga K x)) (.type "type") m = some (.get (.builtin "staticmethod.__get__") (.ref (gaM x m K)) .none (.ref (He.ga K x))) ∧ ∃ rest, PySem.W.recIn K (gaM x m K) "staticmethod" = some (.ref ((At.sm x m).ad K) :: rest) := by
  obtain ⟨c1, c⟩ := He.ba c
  obtain ⟨c2, c⟩ := He.ba c
  obtain ⟨c3, c4⟩ := He.ba c
  refine ⟨c1, He.eqO_ok c2, ?_, ?_⟩
  · split at c3
    · rename_i i p C e
      obtain ⟨h1, h2⟩ := He.ba c3
      obtain ⟨h2, h3⟩ := He.ba h2
      rw [e, of_decide_eq_true h1, of_decide_eq_true h2, of_decide_eq_true h3]
    · cases c3
  · show ∃ rest, PySem.W.recIn K (gaM x m K) "staticmethod" = some (.ref (recA "staticmethod" (gaM x m K) K) :: rest)
    unfold recA
    split at c4
    · rename_i g rest e
      rw [e]
      exact ⟨rest, rfl⟩
    · cases c4
end Z
namespace Z
open PySem PySem.Spec PyProof.Rows L2
def excBx (x : Str) (bmB : List Value) (newId : String) : FF := fun K => (match K.lookup (He.ga K x) with
  | some ⟨.type t, _, .cls cd, sl⟩ => decide (t = "type") && ((match cd.mro, sl.toList with
    | .ref C :: bm, [_, _, _, _, some (.builtin n), _] => decide (C = He.ga K x) && (decide (n = newId) && (PySem.W.excTail bmB bm && (cd.hasDict && !cd.hasDel)))
    | _, _ => false))
  | _ => false) && PySem.W.excOver K (He.ga K x) bmB
theorem excBx_ok {x : Str} {K : PySem.W.Frag} {bmB : List Value} {newId : String} (c : excBx x bmB newId K = true) : PySem.W.excOver K (He.ga K x) bmB = true ∧
    ∃ nm q N bs bm sn sub ab col dd k0 k1 k2 k3 k5, K.lookup (He.ga K x) = some (excClassObj nm q (He.ga K x) N bs bm true sn sub ab col dd k0 k1 k2 k3 k5 newId) ∧ ∀ Y : String, bm.contains (.type Y) = bmB.contains (.type Y) := by
  obtain ⟨c0, c1⟩ := He.ba c
  refine ⟨c1, ?_⟩
  split at c0
  · rename_i t dd cd sl e
    obtain ⟨h1, h2⟩ := He.ba c0
    split at h2
    · rename_i C bm k0 k1 k2 k3 n k5 em es
      obtain ⟨h3, h4⟩ := He.ba h2
      obtain ⟨h5, h6⟩ := He.ba h4
      obtain ⟨h7, h8⟩ := He.ba h6
      obtain ⟨h9, h10⟩ := He.ba h8
      obtain ⟨nm, bs, mro, N, q, hd, sn, sub, ab, col, del⟩ := cd
      have e1 := of_decide_eq_true h1
      have e3 := of_decide_eq_true h3
      have e5 := of_decide_eq_true h5
      obtain ⟨sl⟩ := sl
      simp only at em es h9 h10
      subst em es e1 e5 h9
      have e10 : del = false := by cases del <;> simp_all
      subst e10
      refine ⟨nm, q, N, bs, bm, sn, sub, ab, col, dd, k0, k1, k2, k3, k5, ?_, fun Y => PySem.W.excTail_contains Y _ h7⟩
      rw [e, e3]
    · cases h2
  · cases c0
def veT : List Value := [.type "ValueError", .type "Exception", .type "BaseException", .type "object"]
def leT : List Value := [.type "LookupError", .type "Exception", .type "BaseException", .type "object"]
def ieT : List Value := [.type "IndexError", .type "LookupError", .type "Exception", .type "BaseException", .type "object"]
def excF (x : Str) : FF := fun K => (excBx x veT "ValueError.__new__" K || (excBx x leT "LookupError.__new__" K || excBx x ieT "IndexError.__new__" K)) && (He.eqO (PySem.W.findIn K (.ref (He.ga K x)) "__setattr__") (some (some (.builtin "object.__setattr__"))) && (decide (PySem.W.subIn K (.ref (He.ga K x)) (.type "BaseException") = some true) &&
    (decide (PySem.W.typeIn K (.ref (He.ga K x)) = some (.type "type")) && PySem.W.keepIn K (.ref (He.ga K x)))))
theorem excF_ok {x : Str} {K : PySem.W.Frag} (c : excF x K = true) : OexG K (He.ga K x) := by
  obtain ⟨c0, c⟩ := He.ba c
  obtain ⟨c1, c⟩ := He.ba c
  obtain ⟨c2, c⟩ := He.ba c
  obtain ⟨c3, c4⟩ := He.ba c
  refine ⟨?_, He.eqO_ok c1, of_decide_eq_true c2, of_decide_eq_true c3, c4⟩
  rcases Bool.or_eq_true_iff.mp c0 with h | h
  · obtain ⟨a, b⟩ := excBx_ok h
    exact ⟨_, _, _, _, PySem.F.excBase_ValueError, PySem.F.store_ValueError, a, b⟩
  rcases Bool.or_eq_true_iff.mp h with h | h
  · obtain ⟨a, b⟩ := excBx_ok h
    exact ⟨_, _, _, _, PySem.F.excBase_LookupError, PySem.F.store_LookupError, a, b⟩
  · obtain ⟨a, b⟩ := excBx_ok h
    exact ⟨_, _, _, _, PySem.F.excBase_IndexError, PySem.F.store_IndexError, a, b⟩
theorem methF_ok {x m : Str} {K : PySem.W.Frag} (c : isF (.meth x m) K = true) : Meth K (He.ga K x) m ((At.mt x m).ad K) := He.meth_ok c
theorem mkrF_ok {x : Str} {K : PySem.W.Frag} (c : isF (.mkr x) K = true) : Mk K (He.ga K x) ((At.mt x "__init__").ad K) := He.mkr_ok c
def tupF (x : Str) (vs : List He.Dv) : FF := fun K => (He.Fa.glo x).ok K && He.tupB K x vs
inductive Fl : D → He.Dv → Prop
  | non : Fl .non .non
  | bl {b} : Fl (.bl b) (.bl b)
  | int {i} : Fl (.int i) (.int i)
  | str {x} : Fl (.str x) (.str x)
theorem Fl.rep {K : PySem.W.Frag} {G : Hp} {d : D} {v : He.Dv} (h : Fl d v) : Rep K G d (v.v K) := by
  cases h with
  | non => exact .non
  | bl => exact .bl
  | int => exact .int
  | str => exact .str
inductive FlL : List D → List He.Dv → Prop
  | nil : FlL [] []
  | cons {d v ds vs} : Fl d v → FlL ds vs → FlL (d :: ds) (v :: vs)
theorem FlL.rep {K : PySem.W.Frag} {G : Hp} : ∀ {ds : List D} {vs : List He.Dv}, FlL ds vs → RepL K G ds (vs.map (He.Dv.v K))
  | _, _, .nil => .nil
  | _, _, .cons h r => .cons h.rep r.rep
section
variable {K : PySem.W.Frag} {h : Heap} {mg : Str → Option Value}
structure TupG (K : PySem.W.Frag) (mg : Str → Option Value) (x : Str) (ds : List D) : Prop where
  ex : ∃ a, mg x = some (.ref a) ∧ ∀ G, Rep K G (.tup ds) (.ref a)
theorem tupF_ok (X : K.In h) (G : h.Ns mainGlobals mg) {x : Str} {vs : List He.Dv} {ds : List D} (c : tupF x vs K = true) (f : FlL ds vs) : TupG K mg x ds :=
  ⟨_, He.glo_ok X G (He.ba c).1, fun H => .tup (He.tupB_ok (He.ba c).2 H) f.rep⟩
end
section
variable {X : Cx} {B : Bs} {pos : Pos}
theorem de_gtup {x : Str} {ds : List D} (T : TupG X.K X.mg x ds) (hg : Gl X x := by rfl) (hd : (x == ("__debug__" : Str)) = false := by decide) : DE X B (.Name x pos) (fun _ M Ψ => Ψ (.tup ds) M) := by
  obtain ⟨a, h1, h2⟩ := T.ex
  exact de_glob h1 (v := .ref a) rfl h2 hg hd
theorem de_gstr {x z : Str} (h : ∃ t, X.mg x = some (.str z t)) (hg : Gl X x := by rfl) (hd : (x == ("__debug__" : Str)) = false := by decide) : DE X B (.Name x pos) (fun _ M Ψ => Ψ (.str z) M) := by
  obtain ⟨t, h⟩ := h
  exact de_glob h (v := .str z) ⟨t, rfl⟩ (fun _ => .str) hg hd
end
def scr (ns : List Int) : D := .lk (ns.map .int)
def noM : Sto := fun _ => none
theorem repL_scr {K : PySem.W.Frag} {G : Hp} : ∀ ns : List Int, RepL K G (ns.map D.int) (ns.map V.int)
  | [] => .nil
  | _ :: r => .cons .int (repL_scr r)
theorem law_at {l : PySem.W.OpenLaw} {w : World} {K : PySem.W.Frag} {k : Nat} {mg : Str → Option Value} {fa : Addr} {h : Heap} {fd : FuncData} {c : Ct} {x : Str} (hb : ∀ (s : Shared) (u : Value), BindsTo s fd ⟨[u], []⟩ [(x, u)])
    (F : ∀ base : Heap, K.In base → base.Ns mainGlobals mg → FnOk l.prog w K mg base (L2.CX l.prog w) k fa fd [x] (spC K 1 c))
    (hc : ∀ (ns : List Int), ns.length ≤ 63 → (∀ z ∈ ns, Builtin.Int.intBits z ≤ 1048576) → c [scr ns] noM (fun d _ => d = .bl true) noX) : LamX.LawAtS l w K (L2.CX l.prog w) k 63 x mg fa h := by
  refine ⟨fd, [], spC K 1 c, (fun p hp => nomatch hp), (fun p hp => nomatch hp), (fun p hp => nomatch hp), hb, fun H a ns hl hbits _ hS => ?_, fun base KX G _ => F base KX G⟩
  refine ⟨rfl, [scr ns], H, noM, _, _, ⟨Sub.rfl', fun a c e => nomatch (show (none : Option Cell) = some c from e)⟩, .cons (.lk hS (repL_scr ns)) .nil, hc ns hl hbits, fun d M' v H' G' q _ _ r => ?_, fun _ _ _ _ _ _ z _ _ _ => z⟩
  subst q
  cases r
  rfl
end Z
namespace Z
open PySem PySem.Spec PyProof.Rows L2
theorem bt_abs : bootBuiltins "abs" = some (.builtin "abs") := by decide +kernel
theorem bt_all : bootBuiltins "all" = some (.builtin "all") := by decide +kernel
theorem bt_int : bootBuiltins "int" = some (.type "int") := by decide +kernel
theorem bt_str : bootBuiltins "str" = some (.type "str") := by decide +kernel
section
variable {X : Cx} {B : Bs} {pos p : Pos} {a b : Expr} {ga : DTA}
theorem de_abs1 (hm : X.mg "abs" = none) (ha : DA X B [a] ga) (hg : Gl X "abs" := by rfl) (he : starEach [a] X.env = (false, eval a X.env) :: starEach [] X.env := by rfl) : DE X B (.Call (.Name "abs" p) [a] [] pos) (fun r M Ψ => ga r M fun ds M1 => absD M1 ds Ψ) :=
  de_callB call_abs ok_abs hm bt_abs ha hg (by decide) (by decide) he rfl
theorem de_int1 (hm : X.mg "int" = none) (ha : DA X B [a] ga) (hg : Gl X "int" := by rfl) (he : starEach [a] X.env = (false, eval a X.env) :: starEach [] X.env := by rfl) : DE X B (.Call (.Name "int" p) [a] [] pos) (fun r M Ψ => ga r M fun ds M1 => intD M1 ds Ψ) :=
  de_callT call_int1 ok_int1 hm bt_int ha hg (by decide) (by decide) he rfl
theorem de_str1 (hm : X.mg "str" = none) (ha : DA X B [a] ga) (hg : Gl X "str" := by rfl) (he : starEach [a] X.env = (false, eval a X.env) :: starEach [] X.env := by rfl) : DE X B (.Call (.Name "str" p) [a] [] pos) (fun r M Ψ => ga r M fun ds M1 => strD M1 ds Ψ) :=
  de_callT call_str_int ok_str1 hm bt_str ha hg (by decide) (by decide) he rfl
theorem de_all1 (hc : X.calm = true) (hm : X.mg "all" = none) (ha : DA X B [a] ga) (hg : Gl X "all" := by rfl) (he : starEach [a] X.env = (false, eval a X.env) :: starEach [] X.env := by rfl) : DE X B (.Call (.Name "all" p) [a] [] pos) (fun r M Ψ => ga r M fun ds M1 => allD M1 ds Ψ) :=
  de_callB (cr_all hc) ok_all hm bt_all ha hg (by decide) (by decide) he rfl
end
theorem zx_blk {X : Cx} {B : Bs} {s : Shared} {H : Hp} {scope : Scope} {ce : Env} {fp : List Addr} : Zx (X.blk s H scope ce fp) B (fun _ _ _ => False) := ⟨takes0.imp fun _ _ _ _ ⟨_, _, _, _, z, _⟩ => z.elim, PassesOwn.never⟩
end Z
namespace Z
open PySem PySem.Spec PyProof.Rows L2
structure OwnF (K : PySem.W.Frag) (C : Addr) : Prop where
  cl : Cls K C
  ha : PySem.W.findIn K (.ref C) "__class__" = some (some (.builtin "object.__class__"))
  hn : PySem.W.specialIn K (.builtin "object.__class__") "__get__" = some (some (.builtin "getset_descriptor.__get__"))
  htk : PySem.W.takesIn K (.builtin "object.__class__") = some true
  hm : PySem.W.mroIn K C (.type "object") = some true
  self : PySem.W.kitOne K (.ref C) (.ref C) = some true
  other : ∀ t ∈ okTy, PySem.W.kitOne K (.type t) (.ref C) = some false
def ownF (x : Str) : FF := fun K => (isF (.cls x) K && (He.eqO (PySem.W.findIn K (.ref (He.ga K x)) "__class__") (some (some (.builtin "object.__class__"))) && (He.eqO (PySem.W.specialIn K (.builtin "object.__class__") "__get__") (some (some (.builtin "getset_descriptor.__get__"))) &&
  (decide (PySem.W.takesIn K (.builtin "object.__class__") = some true) && (decide (PySem.W.mroIn K (He.ga K x) (.type "object") = some true) && (decide (PySem.W.kitOne K (.ref (He.ga K x)) (.ref (He.ga K x)) = some true) && okTy.all fun t => decide (PySem.W.kitOne K (.type t) (.ref (He.ga K x)) = some false)))))))
theorem ownF_ok {x : Str} {K : PySem.W.Frag} (c : ownF x K = true) : OwnF K (He.ga K x) := by
  obtain ⟨c1, c⟩ := He.ba c
  obtain ⟨c2, c⟩ := He.ba c
  obtain ⟨c3, c⟩ := He.ba c
  obtain ⟨c4, c⟩ := He.ba c
  obtain ⟨c5, c⟩ := He.ba c
  obtain ⟨c6, c7⟩ := He.ba c
  exact ⟨He.cls_ok c1, He.eqO_ok c2, He.eqO_ok c3, of_decide_eq_true c4, of_decide_eq_true c5, of_decide_eq_true c6, fun t ht => of_decide_eq_true (List.all_eq_true.mp c7 t ht)⟩
def isiO (C : Addr) (M : Sto) (ds : List D) (φ : PD) : Prop := match ds with
  | [d, .ref C'] => C' = C ∧ ((∃ fs, objOf M d = some (C, fs) ∧ φ (.bl true) M) ∨ ∃ t, tyN M d = some t ∧ φ (.bl false) M)
  | _ => False
theorem ok_isiO {K : PySem.W.Frag} {C : Addr} (F : OwnF K C) : OkC K (rIsi K) (isiO C) := fun M H G ds vs φ Q w r h k => by
  unfold isiO at h
  split at h
  · obtain ⟨rfl, h⟩ := h
    cases r with
    | cons r1 r2 => cases r2 with
      | cons r2 r3 =>
        cases r3; cases r2
        rcases h with ⟨fs, e, h⟩ | ⟨t, e, h⟩
        · obtain ⟨a, dx, fvs, rfl, h1, _⟩ := obj_rep w r1 e
          exact ⟨_, _, _, _, _, rfl, .own _, .base (.ins h1 F.cl F.ha F.hn F.htk F.hm), F.self, k.id w h .bl⟩
        · exact ⟨_, _, _, _, _, rfl, .own _, tyN_x w r1 e, F.other t (tyN_ok e), k.id w h .bl⟩
  · exact h.elim
section
variable {X : Cx} {B : Bs} {pos p : Pos} {a b : Expr} {ga : DTA} {C : Addr}
theorem de_isio (hm : X.mg "isinstance" = none) (F : OwnF X.K C) (ha : DA X B [a, b] ga) (hg : Gl X "isinstance" := by rfl) (he : starEach [a, b] X.env = (false, eval a X.env) :: starEach [b] X.env := by rfl) (hpl : (backTo pos (starEach [b] X.env)).any (·.1) = false := by rfl) :
    DE X B (.Call (.Name "isinstance" p) [a, b] [] pos) (fun r M Ψ => ga r M fun ds M1 => isiO C M1 ds Ψ) := de_callB call_isi (ok_isiO F) hm boot_isinstance ha hg (by decide) (by decide) he hpl
end
section
variable {P : Program} {w : World} {K : PySem.W.Frag} {mg : Str → Option Value} {base : Heap} {h : Heap} {x m : Str} {k : Nat} {c : Ct} {ps : List Str} {fd : FuncData} {bs : List (Nat × List Str × (List D → List D → List D))} {qual nm : Str} {st : Stmt} {dvs : List V} {kws : List (Str × V)}
theorem gf_mk (hg : mg x = some (.ref ((At.g x).ad K))) (F : FnZ K nm qual st dvs kws ((At.g x).ad K) fd) (ok : FnOk P w K mg base (L2.CX P w) k ((At.g x).ad K) fd ps (spC K ps.length c)) (hb : ∀ b ∈ bs, BindD K fd ps b) : Gf P w K mg base x k c bs := ⟨_, fd, ps, hg, F.kp, ok, hb⟩
theorem mf_mk (hm : Meth K (He.ga K x) m ((At.mt x m).ad K)) (ok : FnOk P w K mg base (L2.CX P w) k ((At.mt x m).ad K) fd ps (spC K ps.length c)) (hb : ∀ b ∈ bs, BindD K fd ps b) : Mf P w K mg base (He.ga K x) m k c bs := ⟨_, fd, ps, hm, ok, hb⟩
theorem cf_mk (hg : mg x = some (.ref (He.ga K x))) (hm : Mk K (He.ga K x) ((At.mt x "__init__").ad K)) (ok : FnOk P w K mg base (L2.CX P w) k ((At.mt x "__init__").ad K) fd ps (spC K ps.length c)) (hb : ∀ b ∈ bs, BindD K fd ps b) : Cf P w K mg base x (He.ga K x) k c bs := ⟨hg, _, fd, ps, hm, ok, hb⟩
theorem pf_mk (hp : PropOf K (He.ga K x) m (gaM x m K) ((At.pr x m).ad K)) (ok : FnOk P w K mg base (L2.CX P w) k ((At.pr x m).ad K) fd ps (spC K ps.length c)) (hb : BindD K fd ps (Z.pos 1)) : Pf P w K mg base (He.ga K x) m k c := ⟨_, fd, ps, _, hp, ok, hb⟩
theorem sf_mk (hs : smF x m K = true) (F : FnZ K nm qual st dvs kws ((At.sm x m).ad K) fd) (ok : FnOk P w K mg base (L2.CX P w) k ((At.sm x m).ad K) fd ps (spC K ps.length c)) (hb : ∀ b ∈ bs, BindD K fd ps b) : Sf P w K mg base (He.ga K x) m k c bs := by
  obtain ⟨h1, h2, h3, rest, h4⟩ := smF_ok hs
  exact ⟨_, fd, ps, _, rest, _, h1, h2, h3, h4, F.kp, ok, hb⟩
end
end Z
namespace Z
open PySem PySem.Spec PyProof.Rows L2
section
variable {X : Cx} {B : Bs} {Ξ : XD → En → Sto → Prop} {k j n : Nat} {c : Ct} {pos : Pos} {a b : Expr} {fa fb : DTE} {C : Addr} {bs : List (Nat × List Str × (List D → List D → List D))}
theorem dt_ownNe (F : Mf X.prog X.w X.K X.mg X.base C "__eq__" j c bs) (T : CmpF X.K C) (hc : Mono c) (hr : Room k X.A) (hb : Z.pos 2 ∈ bs) (ha : DE X B a fa) (hb' : DE X B b fb) (hm : behindInMarks .NotEq b = false := by rfl) (hj : j + 1 ≤ k := by decide) :
    DT X B (.Compare a [.NotEq] [b] pos) (fun r M Ψ => fa r M fun x M1 => fb r M1 fun y M2 => ownE X.K C c true M2 x y fun z M3 => blD (fun b => Ψ b M3) z) := PT_imp (pt_cmpR (op_ownNe F T hr hb hj) ha hb' hm) (tOp_okPT (ok_ownE hc))
end
section
variable {vs : List Nat} {as : D → En → (En → Prop) → Prop} {tt : DTT} {fe : DTE} {r : En} {M : Sto} {Φ : List D → Sto → Prop} {xs : List D} {S : Sto → Prop}
abbrev CompB (vs : List Nat) (as : D → En → (En → Prop) → Prop) (tt : DTT) (fe : DTE) (r : En) (M : Sto) (xs : List D) (S : Sto → Prop) (Φ : List D → Sto → Prop) : Prop := ∃ Iv : Nat → List D → Sto → Prop, Iv 0 [] M ∧ (∀ i acc M, Iv i acc M → S M) ∧
  (∀ i d acc M, xs[i]? = some d → Iv i acc M → as d (wipeD r vs) fun r2 => tt r2 M fun b M3 => if b = true then fe r2 M3 fun y M4 => acc.length < sizeLine ∧ Iv (i + 1) (acc ++ [y]) M4 else Iv (i + 1) acc M3) ∧ ∀ acc M, Iv xs.length acc M → Φ acc M
theorem comp_fm (keep : D → Bool) (g : D → D) (hS : S M) (hl : xs.length ≤ sizeLine) (he : ∀ d ∈ xs, ∀ (Q : D → Sto → Prop) (R : Sto → Prop), (if keep d = true then Q (g d) M else R M) → as d (wipeD r vs) fun r2 => tt r2 M fun b M3 => if b = true then fe r2 M3 Q else R M3)
    (fin : Φ ((xs.filter keep).map g) M) : CompB vs as tt fe r M xs S Φ := by
  refine ⟨fun i acc M' => M' = M ∧ acc = ((xs.take i).filter keep).map g, ⟨rfl, rfl⟩, fun i acc M' h => h.1 ▸ hS, fun i d acc M' hd h => ?_, fun acc M' h => ?_⟩
  · obtain ⟨rfl, rfl⟩ := h
    have hi : i < xs.length := (List.getElem?_eq_some_iff.mp hd).1
    have ed : xs[i] = d := (List.getElem?_eq_some_iff.mp hd).2
    have et : xs.take (i + 1) = xs.take i ++ [d] := by rw [List.take_succ, hd]; rfl
    refine he d (ed ▸ List.getElem_mem hi) _ _ ?_
    cases q : keep d with
    | true =>
      rw [if_pos rfl]
      refine ⟨?_, rfl, ?_⟩
      · rw [List.length_map]
        have := List.length_filter_le keep (xs.take i)
        rw [List.length_take] at this
        omega
      · rw [et, List.filter_append, List.map_append, List.filter_cons, if_pos q]; rfl
    | false =>
      rw [if_neg (by simp)]
      refine ⟨rfl, ?_⟩
      rw [et, List.filter_append, List.map_append, List.filter_cons, if_neg (by rw [q]; simp)]
      simp
  · obtain ⟨rfl, rfl⟩ := h
    rw [List.take_length]
    exact fin
theorem comp_map (g : D → D) (hS : S M) (hl : xs.length ≤ sizeLine) (he : ∀ d ∈ xs, ∀ (Q : D → Sto → Prop), Q (g d) M → as d (wipeD r vs) fun r2 => fe r2 M Q) (fin : Φ (xs.map g) M) : CompB vs as (fun _ M Ψ => Ψ true M) fe r M xs S Φ := by
  refine comp_fm (fun _ => true) g hS hl (fun d hd Q R q => ?_) ?_
  · rw [if_pos rfl] at q
    have h := he d hd Q q
    have e : (fun r2 => fe r2 M Q) = (fun r2 => (fun _ M Ψ => Ψ true M : DTT) r2 M fun b M3 => if b = true then fe r2 M3 Q else R M3) := by
      funext r2
      show _ = (if true = true then fe r2 M Q else R M)
      rw [if_pos rfl]
    rw [e] at h
    exact h
  · rw [List.filter_eq_self.mpr (fun _ _ => rfl)]; exact fin
theorem comp_st (I : Sto → Prop) (Pg : D → D → Prop) (h0 : I M) (hS : ∀ M', I M' → S M') (hl : xs.length ≤ sizeLine) (he : ∀ d ∈ xs, ∀ M', I M' → ∀ (Q : D → Sto → Prop), (∀ y M4, I M4 → Pg d y → Q y M4) → as d (wipeD r vs) fun r2 => fe r2 M' Q)
    (fin : ∀ acc M', I M' → acc.length = xs.length → (∀ (i : Nat) d y, xs[i]? = some d → acc[i]? = some y → Pg d y) → Φ acc M') : CompB vs as (fun _ M Ψ => Ψ true M) fe r M xs S Φ := by
  refine ⟨fun i acc M' => I M' ∧ acc.length = i ∧ ∀ (j : Nat) d y, xs[j]? = some d → acc[j]? = some y → Pg d y, ⟨h0, rfl, fun j d y _ h => by simp at h⟩, fun i acc M' h => hS _ h.1, fun i d acc M' hd h => ?_, fun acc M' h => fin acc M' h.1 h.2.1 h.2.2⟩
  obtain ⟨h1, h2, h3⟩ := h
  have hi : i < xs.length := (List.getElem?_eq_some_iff.mp hd).1
  have ed : xs[i] = d := (List.getElem?_eq_some_iff.mp hd).2
  have h := he d (ed ▸ List.getElem_mem hi) M' h1 (fun y M4 => acc.length < sizeLine ∧ I M4 ∧ (acc ++ [y]).length = i + 1 ∧ ∀ (j : Nat) d y', xs[j]? = some d → (acc ++ [y])[j]? = some y' → Pg d y') (fun y M4 a b => ⟨by omega, a, by rw [List.length_append, h2]; rfl, fun j d' y' e1 e2 => by
    rcases Nat.lt_or_ge j acc.length with hj | hj
    · rw [List.getElem?_append_left hj] at e2; exact h3 j d' y' e1 e2
    · rw [List.getElem?_append_right hj] at e2
      have hj2 : j = i := by
        have := (List.getElem?_eq_some_iff.mp e2).1
        simp at this; omega
      subst hj2
      rw [h2, Nat.sub_self] at e2
      cases e2
      rw [hd] at e1; cases e1
      exact b⟩)
  have e : (fun r2 => fe r2 M' (fun y M4 => acc.length < sizeLine ∧ I M4 ∧ (acc ++ [y]).length = i + 1 ∧ ∀ (j : Nat) d y', xs[j]? = some d → (acc ++ [y])[j]? = some y' → Pg d y')) = (fun r2 => (fun _ M Ψ => Ψ true M : DTT) r2 M' fun b M3 => if b = true then fe r2 M3 (fun y M4 => acc.length < sizeLine ∧ I M4 ∧ (acc ++ [y]).length = i + 1 ∧ ∀ (j : Nat) d y', xs[j]? = some d → (acc ++ [y])[j]? = some y' → Pg d y') else (I M3 ∧ acc.length = i + 1 ∧ ∀ (j : Nat) d y, xs[j]? = some d → acc[j]? = some y → Pg d y)) := by
    funext r2
    show _ = (if true = true then _ else _)
    rw [if_pos rfl]
  rw [e] at h
  exact h
end
theorem for_n {M0 : Sto} {xs : List D} {S : Sto → Prop} {r : En} {M : Sto} {g : DTG} {f : DTS} {E : Ek} (Iv : Nat → En → Sto → Prop) (h0 : Iv 0 r M) (hS : ∀ i r M, Iv i r M → S M)
    (turn : ∀ i d r M, xs[i]? = some d → Iv i r M → g d r M fun r' M' => f { E with nx := Cl M0 (Iv (i + 1)), ct := Cl M0 (Iv (i + 1)), bk := E.nx } r' M') (fin : ∀ r M, Iv xs.length r M → E.nx r M) :
    ∃ Iv : Nat → En → Sto → Prop, Cl M0 (Iv 0) r M ∧ (∀ i r M, Iv i r M → S M) ∧ (∀ i d r M, xs[i]? = some d → Iv i r M → g d r M fun r' M' => f { E with nx := Cl M0 (Iv (i + 1)), ct := Cl M0 (Iv (i + 1)), bk := E.nx } r' M') ∧ ∀ r M, Iv xs.length r M → E.nx r M := ⟨Iv, .of h0, hS, turn, fin⟩
section
variable {vs : List Nat} {wi : DTI} {as : D → En → (En → Prop) → Prop} {tt : DTT} {fe : DTE} {r : En} {M : Sto} {Φ : List D → Sto → Prop}
theorem compD_of (Pw : List D → (Sto → Prop) → Sto → Prop) (hw : ∀ K : List D → (Sto → Prop) → Sto → Prop, (∀ xs S M1, Pw xs S M1 → K xs S M1) → wi r M K) (h : ∀ xs S M1, Pw xs S M1 → CompB vs as tt fe r M1 xs S Φ) : compD vs wi as tt fe r M Φ := by unfold compD; exact hw _ h
theorem compD_map {xs : List D} {S : Sto → Prop} (hw : ∀ K : List D → (Sto → Prop) → Sto → Prop, K xs S M → wi r M K) (g : D → D) (hS : S M) (hl : xs.length ≤ sizeLine) (he : ∀ d ∈ xs, ∀ (Q : D → Sto → Prop), Q (g d) M → as d (wipeD r vs) fun r2 => fe r2 M Q) (fin : Φ (xs.map g) M) :
    compD vs wi as (fun _ M Ψ => Ψ true M) fe r M Φ := by unfold compD; exact hw _ (comp_map g hS hl he fin)
end
section
variable {M0 : Sto} {wi : DTI} {g : DTG} {f : DTS} {E : Ek} {r : En} {M : Sto}
theorem forD_n {xs : List D} {S : Sto → Prop} (hw : ∀ K : List D → (Sto → Prop) → Sto → Prop, K xs S M → wi r M K) (Iv : Nat → En → Sto → Prop) (h0 : Iv 0 r M) (hS : ∀ i r M, Iv i r M → S M)
    (turn : ∀ i d r M, xs[i]? = some d → Iv i r M → g d r M fun r' M' => f { E with nx := Cl M0 (Iv (i + 1)), ct := Cl M0 (Iv (i + 1)), bk := E.nx } r' M') (fin : ∀ r M, Iv xs.length r M → E.nx r M) : forD M0 wi g f E r M := by unfold forD; exact hw _ (for_n Iv h0 hS turn fin)
end
structure Hand where
  cs : List Int
  i : Int
  r : Int
  m : Int
def hd (h : Hand) : Cell := .lst [.lst (h.cs.map .int), .int h.i, .int h.r, .int h.m]
def HandAt (M : Sto) (p : Addr) : Prop := ∃ h, M p = some (hd h) ∧ h.cs.length ≤ 63 ∧ 0 ≤ h.i
def Dr (p : Addr) (M M' : Sto) : Prop := HandAt M' p ∧ ∀ q, q ≠ p → M' q = M q
theorem Dr.refl {p : Addr} {M : Sto} (h : HandAt M p) : Dr p M M := ⟨h, fun _ _ => rfl⟩
theorem Dr.trans {p : Addr} {M M1 M2 : Sto} (a : Dr p M M1) (b : Dr p M1 M2) : Dr p M M2 := ⟨b.1, fun q h => (b.2 q h).trans (a.2 q h)⟩
end Z
namespace Z
open PySem PySem.Spec PyProof.Rows L2
theorem big_ok : (1000000 : Nat) ≤ sizeLine := by decide
theorem ite_t {c : Bool} {p q : Prop} (h : c = true) (x : p) : if c = true then p else q := by rw [if_pos h]; exact x
theorem ite_f {c : Bool} {p q : Prop} (h : c = false) (x : q) : if c = true then p else q := by rw [if_neg (by rw [h]; simp)]; exact x
theorem bl_t {f : Bool → Prop} {c : Bool} (h : c = true) (x : f true) : blD f (.bl c) := by rw [h]; unfold blD; exact x
theorem bl_f {f : Bool → Prop} {c : Bool} (h : c = false) (x : f false) : blD f (.bl c) := by rw [h]; unfold blD; exact x
theorem bl_c {f : Bool → Prop} {c : Bool} (h1 : c = true → f true) (h2 : c = false → f false) : blD f (.bl c) := by
  unfold blD
  cases c with
  | true => exact h1 rfl
  | false => exact h2 rfl
theorem ln {l : List D} {n : Nat} (h : l.length = n) (hn : n ≤ 1000000) : l.length ≤ sizeLine := h ▸ Nat.le_trans hn big_ok
theorem eqI {M : Sto} {i j : Int} {φ : D → Prop} (h : φ (.bl (decide (i = j)))) : eqD M (.int i) (.int j) φ := by unfold eqD; exact h
theorem ix_ref {M : Sto} {p : Addr} {i : Int} {l : List D} {φ : D → Prop} (e : M p = some (.lst l)) (h : optK (L2.atI l i) φ) : ixD M (.ref p) (.int i) φ := by
  unfold ixD
  simp only [lstOf, e]
  exact h
theorem set_ref {M : Sto} {p : Addr} {i : Int} {l : List D} {v : D} {j : Nat} {φ : Sto → Prop} (e : M p = some (.lst l)) (hj : L2.ixN l.length i = some j) (h : φ (updM M p (.lst (l.set j v)))) : setD (.ref p) i v M φ := by
  unfold setD
  simp only [e, hj, optK]
  exact h
theorem fld_hd {f : Str} {d : D} {fs : List (Str × D)} {φ : D → Prop} (h : φ d) : optK (((f, d) :: fs).lookup f) φ := optK_of List.lookup_cons_self h
theorem look_ne {f g : Str} {d : D} (h : (f == g) = false) : List.lookup f [(g, d)] = none := by
  rw [List.lookup_cons, h]; rfl
theorem lmem {α : Type} {xs : List α} {i : Nat} {d : α} (h : xs[i]? = some d) : d ∈ xs := by
  obtain ⟨h1, h2⟩ := List.getElem?_eq_some_iff.mp h
  exact h2 ▸ List.getElem_mem h1
theorem ty_int {M : Sto} {d : D} (h : tyN M d = some "int") : ∃ i, d = .int i := by
  unfold tyN at h
  split at h <;> first | exact ⟨_, rfl⟩ | (exfalso; revert h; decide) | (split at h <;> (exfalso; revert h; decide)) | cases h
theorem ty_str {M : Sto} {d : D} (h : tyN M d = some "str") : ∃ x, d = .str x := by
  unfold tyN at h
  split at h <;> first | exact ⟨_, rfl⟩ | (exfalso; revert h; decide) | (split at h <;> (exfalso; revert h; decide)) | cases h
theorem signs_mem {x : Str} {d : D} (h : d ∈ signs x) : ∃ c ∈ x.cps.toList, d = .str ⟨#[c]⟩ := by
  obtain ⟨c, hc, e⟩ := List.mem_map.mp h
  exact ⟨c, hc, e.symm⟩
theorem signs_get {x : Str} {i : Nat} {d : D} (h : (signs x)[i]? = some d) : ∃ c, x.cps.toList[i]? = some c ∧ d = .str ⟨#[c]⟩ := by
  unfold signs at h
  rw [List.getElem?_map] at h
  obtain ⟨c, hc, e⟩ := Option.map_eq_some_iff.mp h
  exact ⟨c, hc, e.symm⟩
theorem signs_len {x : Str} : (signs x).length = x.cps.size := by unfold signs; rw [List.length_map, Array.length_toList]
theorem mok_s {i j : Int} (h : j.natAbs < 2 ^ 40) : IntMulOk i j := IntMulOk.of_right (by
  have := PyProof.Rows.intBits_le h
  omega)
abbrev T4 := Int × Int × Int × Int
def tL (t : T4) : List D := [.int t.1, .int t.2.1, .int t.2.2.1, .int t.2.2.2]
def tD (t : T4) : D := .tup (tL t)
def mul4 (s t : T4) : T4 := (s.1 * t.1 + s.2.1 * t.2.2.1, s.1 * t.2.1 + s.2.1 * t.2.2.2, s.2.2.1 * t.1 + s.2.2.2 * t.2.2.1, s.2.2.1 * t.2.1 + s.2.2.2 * t.2.2.2)
def det4 (t : T4) : Int := t.1 * t.2.2.2 - t.2.1 * t.2.2.1
def O4 : T4 := (1, 0, 0, 1)
def L4 : T4 := (1, 0, 1, 1)
def R4 : T4 := (1, 1, 0, 1)
theorem det_mul (s t : T4) : det4 (mul4 s t) = det4 s * det4 t := by unfold det4 mul4; simp only; grind
theorem mul_assoc4 (r s t : T4) : mul4 (mul4 r s) t = mul4 r (mul4 s t) := by
  unfold mul4
  simp only [Prod.mk.injEq]
  refine ⟨?_, ?_, ?_, ?_⟩ <;> grind
theorem one_mul4 (t : T4) : mul4 O4 t = t := by
  obtain ⟨a, b, c, d⟩ := t
  unfold mul4 O4
  simp
theorem mul_one4 (t : T4) : mul4 t O4 = t := by
  obtain ⟨a, b, c, d⟩ := t
  unfold mul4 O4
  simp
def Sm (n : Nat) (t : T4) : Prop := t.1.natAbs < 2 ^ n ∧ t.2.1.natAbs < 2 ^ n ∧ t.2.2.1.natAbs < 2 ^ n ∧ t.2.2.2.natAbs < 2 ^ n
theorem sm_add {i j : Int} {n : Nat} (h : i.natAbs < 2 ^ n) (h' : j.natAbs < 2 ^ n) : (i + j).natAbs < 2 ^ (n + 1) := by
  rw [Nat.pow_succ]; omega
theorem sm_mono {i : Int} {n m : Nat} (h : i.natAbs < 2 ^ n) (hm : n ≤ m) : i.natAbs < 2 ^ m := Nat.lt_of_lt_of_le h (Nat.pow_le_pow_right (by decide) hm)
theorem Sm.mono {n m : Nat} {t : T4} (h : Sm n t) (hm : n ≤ m) : Sm m t := ⟨sm_mono h.1 hm, sm_mono h.2.1 hm, sm_mono h.2.2.1 hm, sm_mono h.2.2.2 hm⟩
theorem Sm.mul {n m : Nat} {s t : T4} (h : Sm n s) (h' : Sm m t) : Sm (n + m + 1) (mul4 s t) := by
  obtain ⟨a1, a2, a3, a4⟩ := h
  obtain ⟨b1, b2, b3, b4⟩ := h'
  exact ⟨sm_add (wide_lt a1 b1) (wide_lt a2 b3), sm_add (wide_lt a1 b2) (wide_lt a2 b4), sm_add (wide_lt a3 b1) (wide_lt a4 b3), sm_add (wide_lt a3 b2) (wide_lt a4 b4)⟩
theorem sm_O : Sm 1 O4 := by unfold Sm O4; decide
theorem sm_L : Sm 1 L4 := by unfold Sm L4; decide
theorem sm_R : Sm 1 R4 := by unfold Sm R4; decide
def turnT (c : Nat) : T4 := if (⟨#[c]⟩ : Str) = ("R" : Str) then R4 else L4
theorem sm_turn (c : Nat) : Sm 1 (turnT c) := by unfold turnT; split; exact sm_R; exact sm_L
theorem det_turn (c : Nat) : det4 (turnT c) = 1 := by unfold turnT; split <;> decide
def wL (l : List Nat) : T4 := l.foldl (fun t c => mul4 t (turnT c)) O4
theorem wL_snoc (l : List Nat) (c : Nat) : wL (l ++ [c]) = mul4 (wL l) (turnT c) := by unfold wL; rw [List.foldl_append]; rfl
theorem wL_take {l : List Nat} {i : Nat} {c : Nat} (h : l[i]? = some c) : wL (l.take (i + 1)) = mul4 (wL (l.take i)) (turnT c) := by
  rw [List.take_succ, h]; exact wL_snoc _ _
theorem wL_from (l : List Nat) : ∀ t, l.foldl (fun t c => mul4 t (turnT c)) t = mul4 t (wL l) := by
  unfold wL
  induction l with
  | nil => intro t; exact (mul_one4 t).symm
  | cons c l ih =>
    intro t
    rw [List.foldl_cons, List.foldl_cons, ih, ih (mul4 O4 (turnT c)), one_mul4, mul_assoc4]
theorem wL_app (l l' : List Nat) : wL (l ++ l') = mul4 (wL l) (wL l') := by
  conv => lhs; unfold wL
  rw [List.foldl_append, wL_from]; rfl
theorem sm_fold (l : List Nat) : ∀ (t : T4) (n : Nat), Sm n t → Sm (n + 2 * l.length) (l.foldl (fun t c => mul4 t (turnT c)) t) := by
  induction l with
  | nil => intro t n h; exact h
  | cons c l ih =>
    intro t n h
    rw [List.foldl_cons]
    exact (ih _ _ (h.mul (sm_turn c))).mono (by rw [List.length_cons]; omega)
theorem sm_wL (l : List Nat) : Sm (2 * l.length + 1) (wL l) := (sm_fold l O4 1 sm_O).mono (by omega)
theorem det_fold (l : List Nat) : ∀ t : T4, det4 (l.foldl (fun t c => mul4 t (turnT c)) t) = det4 t := by
  induction l with
  | nil => intro t; rfl
  | cons c l ih => intro t; rw [List.foldl_cons, ih, det_mul, det_turn, Int.mul_one]
theorem det_wL (l : List Nat) : det4 (wL l) = 1 := (det_fold l O4).trans (by decide)
theorem eqS {M : Sto} {i j : Str} {φ : D → Prop} (h : φ (.bl (decide (i = j)))) : eqD M (.str i) (.str j) φ := by unfold eqD; exact h
theorem neS {M : Sto} {i j : Str} {φ : D → Prop} (h : φ (.bl (!decide (i = j)))) : neD M (.str i) (.str j) φ := by unfold neD; exact h
theorem neI {M : Sto} {i j : Int} {φ : D → Prop} (h : φ (.bl (!decide (i = j)))) : neD M (.int i) (.int j) φ := by unfold neD; exact h
end Z
namespace Z
open PySem PySem.Spec PyProof.Rows L2
theorem fm0 {x m : Int} (h : 0 < m) : 0 ≤ x.fmod m := by
  rw [Int.fmod_eq_emod_of_nonneg x (Int.le_of_lt h)]
  exact Int.emod_nonneg x (by omega)
theorem fm1 {x m : Int} (h : 0 < m) : x.fmod m < m := by
  rw [Int.fmod_eq_emod_of_nonneg x (Int.le_of_lt h)]
  exact Int.emod_lt_of_pos x h
theorem fm_small {x m : Int} (h : 0 < m) (hm : m ≤ 2 ^ 39) : (x.fmod m).natAbs < 2 ^ 40 := by
  have h0 := fm0 (x := x) h
  have h1 := fm1 (x := x) h
  omega
theorem at_nat {α : Type} {xs : List α} {i : Int} {j : Nat} {d : α} (hi : i = (j : Int)) (h : xs[j]? = some d) : L2.atI xs i = some d := by
  subst hi
  have hj : j < xs.length := (List.getElem?_eq_some_iff.mp h).1
  unfold L2.atI L2.ixN
  rw [if_pos (by omega), if_pos (by omega)]
  simpa using h
theorem at_some {α : Type} {xs : List α} {i : Int} (h0 : 0 ≤ i) (h1 : i < xs.length) : ∃ d, L2.atI xs i = some d ∧ d ∈ xs := by
  obtain ⟨j, rfl⟩ := Int.eq_ofNat_of_zero_le h0
  have hj : j < xs.length := by omega
  exact ⟨xs[j], at_nat rfl (List.getElem?_eq_getElem hj), List.getElem_mem hj⟩
theorem cut_map {α β : Type} (f : α → β) (xs : List α) (lo hi : Option Int) : cutD (xs.map f) lo hi = (cutD xs lo hi).map f := by
  unfold cutD
  rw [List.length_map, List.map_take, List.map_drop]
theorem cut_len {α : Type} (xs : List α) (lo hi : Option Int) : (cutD xs lo hi).length ≤ xs.length := by
  unfold cutD
  rw [List.length_take, List.length_drop]
  omega
theorem dok_s {j : Int} (h : 0 < j) (h' : j < 2 ^ 40) : Dok j := dok_of (n := 40) (by omega) (by omega) (by decide)
def LR (w : List Nat) : Prop := ∀ c ∈ w, c = 76 ∨ c = 82
theorem lr_mem {c : Nat} : c ∈ ("LR" : Str).cps.toList ↔ c = 76 ∨ c = 82 := by
  have e : ("LR" : Str).cps.toList = [76, 82] := by decide +kernel
  rw [e]
  simp
theorem joinL_one : ∀ w : List Nat, TL.joinL [] (w.map fun c => [c]) = w
  | [] => rfl
  | [c] => rfl
  | c :: d :: w => by
    have ih := joinL_one (d :: w)
    show [c] ++ ([] ++ TL.joinL [] ((d :: w).map fun c => [c])) = _
    rw [ih]
    rfl
theorem join_chars (w : List Nat) : Txt.join Str.empty (w.map fun c => (⟨#[c]⟩ : Str)) = ⟨w.toArray⟩ := by
  have h := SX.join_S [] (w.map fun c => [c])
  rw [joinL_one, List.map_map] at h
  exact h
theorem chars_of {acc : List D} (h : ∀ y ∈ acc, ∃ c : Nat, (c = 76 ∨ c = 82) ∧ y = .str ⟨#[c]⟩) : ∃ w : List Nat, LR w ∧ acc = w.map (fun c => D.str ⟨#[c]⟩) := by
  induction acc with
  | nil => exact ⟨[], (fun c h => nomatch h), rfl⟩
  | cons y l ih =>
    obtain ⟨w, h1, h2⟩ := ih fun z hz => h z (List.mem_cons_of_mem _ hz)
    obtain ⟨c, hc, rfl⟩ := h y List.mem_cons_self
    refine ⟨c :: w, fun d hd => ?_, by rw [h2]; rfl⟩
    rcases List.mem_cons.mp hd with rfl | hd
    · exact hc
    · exact h1 d hd
theorem strsD_chars (w : List Nat) : strsD (w.map fun c => D.str ⟨#[c]⟩) = some (w.map fun c => (⟨#[c]⟩ : Str)) := by
  have := strsD_map (w.map fun c => (⟨#[c]⟩ : Str))
  rw [List.map_map] at this
  exact this
theorem chars_sum (w : List Nat) : ((w.map fun c => (⟨#[c]⟩ : Str)).map (·.length)).sum = w.length := by
  induction w with
  | nil => rfl
  | cons c w ih =>
    rw [List.map_cons, List.map_cons, List.sum_cons, ih, List.length_cons]
    show 1 + _ = _
    omega
def Nn (t : T4) : Prop := 0 ≤ t.1 ∧ 0 ≤ t.2.1 ∧ 0 ≤ t.2.2.1 ∧ 0 ≤ t.2.2.2
theorem Nn.mul {s t : T4} (a : Nn s) (b : Nn t) : Nn (mul4 s t) := by
  obtain ⟨a1, a2, a3, a4⟩ := a
  obtain ⟨b1, b2, b3, b4⟩ := b
  exact ⟨Int.add_nonneg (Int.mul_nonneg a1 b1) (Int.mul_nonneg a2 b3), Int.add_nonneg (Int.mul_nonneg a1 b2) (Int.mul_nonneg a2 b4), Int.add_nonneg (Int.mul_nonneg a3 b1) (Int.mul_nonneg a4 b3), Int.add_nonneg (Int.mul_nonneg a3 b2) (Int.mul_nonneg a4 b4)⟩
theorem nn_R : Nn R4 := ⟨by decide, by decide, by decide, by decide⟩
theorem nn_L : Nn L4 := ⟨by decide, by decide, by decide, by decide⟩
theorem nn_turn (c : Nat) : Nn (turnT c) := by
  unfold turnT
  split
  · exact nn_R
  · exact nn_L
theorem nn_fold (l : List Nat) : ∀ t : T4, Nn t → Nn (l.foldl (fun t c => mul4 t (turnT c)) t) := by
  induction l with
  | nil => intro t h; exact h
  | cons c l ih => intro t h; rw [List.foldl_cons]; exact ih _ (h.mul (nn_turn c))
theorem nn_wL (l : List Nat) : Nn (wL l) := nn_fold l O4 ⟨by decide, by decide, by decide, by decide⟩
theorem handAt_of {M : Sto} {p : Addr} {cs : List Int} {i r m : Int} (e : M p = some (.lst [.lst (cs.map .int), .int i, .int r, .int m])) (hc : cs.length ≤ 63) (hi : 0 ≤ i) : HandAt M p := ⟨⟨cs, i, r, m⟩, e, hc, hi⟩
theorem set_gen {M : Sto} {p : Addr} {i : Int} {l : List D} {v : D} {j : Nat} {φ : Sto → Prop} (e : M p = some (.lst l)) (hj : L2.ixN l.length i = some j) (h : ∀ M', M' p = some (.lst (l.set j v)) → (∀ b, b ≠ p → M' b = M b) → φ M') : setD (.ref p) i v M φ :=
  set_ref e hj (h _ updM_same fun b hb => updM_ne hb)
def itm (d : D) : Option (List D) := match d with
  | .str x => some (signs x)
  | .tup l => some l
  | .lst l => some l
  | _ => none
end Z
namespace Z
open PySem PySem.Spec PyProof.Rows L2
theorem fn_no {P : Program} {w : World} {K : PySem.W.Frag} {mg : Str → Option Value} {base : Heap} {k n : Nat} {f : Addr} {fd : FuncData} {ps : List Str} {c : Ct} (h : ∀ ds M Ψ Ξ, ¬ c ds M Ψ Ξ) : FnOk P w K mg base (L2.CX P w) k f fd ps (spC K n c) :=
  ⟨fun _ _ _ _ ⟨_, _, _, _, _, _, _, _, z, _⟩ => (h _ _ _ _ z).elim, fun _ _ _ _ _ _ _ _ _ _ _ _ _ ⟨_, _, _, _, _, _, _, _, z, _⟩ => (h _ _ _ _ z).elim⟩
def Same (M : Sto) : Nat → D → D → Prop
  | 0, _, _ => False
  | n + 1, x, y => (x = .non ∧ y = .non) ∨ (∃ b, x = .bl b ∧ y = .bl b) ∨ (∃ i, x = .int i ∧ y = .int i) ∨ (∃ s, x = .str s ∧ y = .str s) ∨
    (∃ xs ys, ((lstOf M x = some xs ∧ lstOf M y = some ys) ∨ (x = .tup xs ∧ y = .tup ys)) ∧ xs.length = ys.length ∧ xs.length ≤ 1000000 ∧ ∀ (i : Nat) a b, xs[i]? = some a → ys[i]? = some b → Same M n a b)
end Z
namespace Z
open PySem PySem.Spec PyProof.Rows L2
def iL (t : T4) : List Int := [t.1, t.2.1, t.2.2.1, t.2.2.2]
def gF (g : Nat) (l : List Int) : Nat := l.foldl (fun g x => Nat.gcd g x.natAbs) g
def gN (l : List Int) : Nat := gF 0 l
theorem gF_dvd0 : ∀ (l : List Int) (g : Nat), gF g l ∣ g
  | [], g => Nat.dvd_refl _
  | x :: l, g => Nat.dvd_trans (gF_dvd0 l _) (Nat.gcd_dvd_left _ _)
theorem gF_dvd : ∀ (l : List Int) (g : Nat) (x : Int), x ∈ l → gF g l ∣ x.natAbs
  | y :: l, g, x, h => by
    rcases List.mem_cons.mp h with rfl | h
    · exact Nat.dvd_trans (gF_dvd0 l _) (Nat.gcd_dvd_right _ _)
    · exact gF_dvd l _ x h
theorem gF_mul (m : Int) : ∀ (l : List Int) (g : Nat), gF (m.natAbs * g) (l.map (m * ·)) = m.natAbs * gF g l
  | [], g => rfl
  | x :: l, g => by
    show gF (Nat.gcd (m.natAbs * g) (m * x).natAbs) (l.map (m * ·)) = m.natAbs * gF (Nat.gcd g x.natAbs) l
    rw [Int.natAbs_mul, Nat.gcd_mul_left]
    exact gF_mul m l _
theorem gN_mul (m : Int) (l : List Int) : gN (l.map (m * ·)) = m.natAbs * gN l := gF_mul m l 0
theorem gN_dvd {l : List Int} {x : Int} (h : x ∈ l) : gN l ∣ x.natAbs := gF_dvd l 0 x h
theorem gN_zero {l : List Int} (h : gN l = 0) : ∀ x ∈ l, x = 0 := fun x hx => by
  have := gN_dvd hx
  rw [h] at this
  have := Nat.eq_zero_of_zero_dvd this
  omega
theorem gN_snoc (l : List Int) (x : Int) : gN (l ++ [x]) = Nat.gcd (gN l) x.natAbs := by
  unfold gN gF
  rw [List.foldl_append]; rfl
theorem gN_take {l : List Int} {i : Nat} {x : Int} (h : l[i]? = some x) : gN (l.take (i + 1)) = Nat.gcd (gN (l.take i)) x.natAbs := by
  rw [List.take_succ, h]; exact gN_snoc _ _
theorem fdiv_ex {x : Int} {g : Nat} (hg : 0 < g) (h : g ∣ x.natAbs) : (g : Int) * x.fdiv g = x := by
  have h2 : (g : Int) ∣ x := Int.ofNat_dvd_left.mpr h
  obtain ⟨y, rfl⟩ := h2
  rw [Int.mul_fdiv_cancel_left _ (by omega)]
def lead (l : List Int) : Int := (l.filter fun x => decide (x ≠ 0)).headD 0
end Z
namespace Z
open PySem PySem.Spec PyProof.Rows L2
theorem eqB {M : Sto} {i j : Bool} {φ : D → Prop} (h : φ (.bl (decide (i = j)))) : eqD M (.bl i) (.bl j) φ := by unfold eqD; exact h
theorem neB {M : Sto} {i j : Bool} {φ : D → Prop} (h : φ (.bl (!decide (i = j)))) : neD M (.bl i) (.bl j) φ := by unfold neD; exact h
theorem lst_cs {M : Sto} {x : D} {l : List D} (h : lstOf M x = some l) : x = .lst l ∨ ∃ p, x = .ref p ∧ M p = some (.lst l) := by
  cases x with
  | lst l' => cases h; exact .inl rfl
  | ref p => exact .inr ⟨p, rfl, lstOf_ref h⟩
  | _ => cases h
theorem lst_ty {M : Sto} {x : D} {l : List D} (h : lstOf M x = some l) : tyN M x = some "list" := by
  rcases lst_cs h with rfl | ⟨p, rfl, e⟩
  · rfl
  · simp only [tyN, e]
theorem zip_mem {xs ys : List D} {d : D} (h : d ∈ zipD xs ys) : ∃ (i : Nat) (a b : D), xs[i]? = some a ∧ ys[i]? = some b ∧ d = .tup [a, b] := by
  unfold zipD at h
  obtain ⟨⟨a, b⟩, h1, rfl⟩ := List.mem_map.mp h
  obtain ⟨i, hi, e⟩ := List.getElem_of_mem h1
  have e2 := List.getElem?_eq_getElem hi
  rw [e] at e2
  have := List.getElem?_zip_eq_some.mp e2
  exact ⟨i, a, b, this.1, this.2, rfl⟩
theorem zip_len {xs ys : List D} : (zipD xs ys).length = min xs.length ys.length := by unfold zipD; rw [List.length_map, List.length_zip]
theorem all_bl {xs : List D} : (xs.map fun _ => D.bl true) = (xs.map fun _ => true).map D.bl := by rw [List.map_map]; rfl
theorem all_tt (xs : List D) : (xs.map fun _ => true).all id = true := by
  rw [List.all_map, List.all_eq_true]
  intro _ _; rfl
section
variable {M : Sto} {n : Nat}
theorem Same.i (i : Int) : Same M (n + 1) (.int i) (.int i) := .inr (.inr (.inl ⟨i, rfl, rfl⟩))
theorem Same.b (i : Bool) : Same M (n + 1) (.bl i) (.bl i) := .inr (.inl ⟨i, rfl, rfl⟩)
theorem Same.s (i : Str) : Same M (n + 1) (.str i) (.str i) := .inr (.inr (.inr (.inl ⟨i, rfl, rfl⟩)))
theorem Same.no : Same M (n + 1) .non .non := .inl ⟨rfl, rfl⟩
inductive SameL (M : Sto) (n : Nat) : List D → List D → Prop
  | nil : SameL M n [] []
  | cons {a b : D} {xs ys : List D} : Same M n a b → SameL M n xs ys → SameL M n (a :: xs) (b :: ys)
theorem SameL.len : ∀ {xs ys : List D}, SameL M n xs ys → xs.length = ys.length
  | _, _, .nil => rfl
  | _, _, .cons _ r => congrArg (· + 1) r.len
theorem SameL.get : ∀ {xs ys : List D}, SameL M n xs ys → ∀ (i : Nat) a b, xs[i]? = some a → ys[i]? = some b → Same M n a b
  | _, _, .nil, i, a, b, h, _ => by simp at h
  | _, _, .cons h r, 0, a, b, h1, h2 => by simp at h1 h2; subst h1 h2; exact h
  | _, _, .cons h r, i + 1, a, b, h1, h2 => r.get i a b (by simpa using h1) (by simpa using h2)
theorem Same.t {xs ys : List D} (h : SameL M n xs ys) (hl : xs.length ≤ 1000000) : Same M (n + 1) (.tup xs) (.tup ys) :=
  .inr (.inr (.inr (.inr ⟨xs, ys, .inr ⟨rfl, rfl⟩, h.len, hl, h.get⟩)))
theorem Same.l {xs ys : List D} (h : SameL M n xs ys) (hl : xs.length ≤ 1000000) : Same M (n + 1) (.lst xs) (.lst ys) :=
  .inr (.inr (.inr (.inr ⟨xs, ys, .inl ⟨rfl, rfl⟩, h.len, hl, h.get⟩)))
theorem SameL.ints : ∀ l : List Int, SameL M (n + 1) (l.map .int) (l.map .int)
  | [] => .nil
  | i :: l => .cons (.i i) (SameL.ints l)
theorem Same.T (t : T4) : Same M (n + 2) (tD t) (tD t) := Same.t (SameL.ints (iL t)) (show 4 ≤ 1000000 by decide)
end
def sc (m : Int) (t : T4) : T4 := (m * t.1, m * t.2.1, m * t.2.2.1, m * t.2.2.2)
theorem gcd_step (a b : Nat) : Nat.gcd b (a % b) = Nat.gcd a b := by rw [Nat.gcd_comm b, ← Nat.gcd_rec, Nat.gcd_comm]
theorem fmod_nat (a b : Nat) : (a : Int).fmod (b : Int) = ((a % b : Nat) : Int) := by
  rw [Int.fmod_eq_emod_of_nonneg _ (by omega)]; rfl
theorem abs_nat (x : Int) : (if x < 0 then -x else x) = (x.natAbs : Int) := by split <;> omega
def slotN (r : En) (i : Nat) : Nat := match r[i]? with
  | some (some (.int j)) => j.natAbs
  | _ => 0
theorem map_get {l : List Int} {i : Nat} {d : D} (h : (l.map D.int)[i]? = some d) : ∃ x, l[i]? = some x ∧ d = .int x := by
  rw [List.getElem?_map] at h
  obtain ⟨x, e, rfl⟩ := Option.map_eq_some_iff.mp h
  exact ⟨x, e, rfl⟩
end Z
namespace Z
open PySem PySem.Spec PyProof.Rows L2
section
variable {X : Cx} {B : Bs} {pos apos : Pos} {e o : Expr} {es : List Expr} {fa fo : DTE} {ga : DTA}
section
variable {K : PySem.W.Frag}
end
end
section
variable {X : Cx} {B : Bs} {k j : Nat} {c : Ct} {pos apos p : Pos} {a : Expr} {ga : DTA} {C : Addr} {bs : List (Nat × List Str × (List D → List D → List D))}
end
section
variable {X : Cx} {B : Bs} {pos : Pos} {e : Expr} {fa : DTE}
theorem ok_ipa {K : PySem.W.Frag} {f : Int → Int → Int} {g : Sto → D → D → (D → Prop) → Prop} (hg : ∀ M x y φ, g M x y φ → ∃ i j, x = .int i ∧ y = .int j ∧ φ (.int (f i j))) : Ok2 K (ipI f) g := fun M H G x y v u φ Q w rx ry h k => by
  obtain ⟨i, j, rfl, rfl, q⟩ := hg _ _ _ _ h
  cases rx; cases ry
  exact ⟨i, j, rfl, rfl, k _ _ _ _ q (Grow.refl w.sub) .int⟩
def iaddD (_ : Sto) (x y : D) (φ : D → Prop) : Prop := match x, y with
  | .int i, .int j => φ (.int (i + j))
  | _, _ => False
theorem ds_iadd {i : Nat} {x : Str} {pos' : Pos} (hN : X.N.Nodup) (he : DE X B e fa) (hi : X.N[i]? = some x := by rfl) (hx : Loc X.env.scope x := by first | exact Or.inl rfl | exact Or.inr rfl)
    (hf : X.fn x = true ∨ X.env.scope.names.lookup x = some .local := by first | exact .inl rfl | exact .inr rfl | assumption) :
    DS X B (.AugAssign (.Name x pos') .Add e pos) (fun E r M => getS r i fun d => fa r M fun d' M1 => iaddD M1 d d' fun z => E.nx (r.set i (some z)) M1) :=
  ds_aug ip_add (ok_ipa fun M x y φ h => by unfold iaddD at h; split at h; exact ⟨_, _, rfl, rfl, h⟩; exact h.elim) hN he hi hx hf
end
end Z
namespace Z
open PySem PySem.Spec PyProof.Rows L2
section
variable {X : Cx}
end
section
variable {X : Cx} {B : Bs} {k : Nat} {pos p : Pos} {a : Expr} {ga : DTA}
end
end Z
namespace Z
open PySem PySem.Spec PyProof.Rows L2
def bR (t : T4) : Bool := decide (t.2.2.1 ≤ t.1) && decide (t.2.2.2 ≤ t.2.1)
def bL (t : T4) : Bool := decide (t.1 ≤ t.2.2.1) && decide (t.2.1 ≤ t.2.2.2)
structure Bal (t : T4) : Prop where
  r : bR t = false
  l : bL t = false
structure Tk (t : T4) (w : List Nat) (u : T4) : Prop where
  lr : LR w
  eq : mul4 (wL w) u = t
  nn : Nn u
  bal : Bal u
theorem turn_R : turnT 82 = R4 := by unfold turnT; rw [if_pos (by decide +kernel)]
theorem turn_L : turnT 76 = L4 := by unfold turnT; rw [if_neg (by decide +kernel)]
theorem wL_one (c : Nat) : wL [c] = turnT c := one_mul4 _
theorem wL_cons (c : Nat) (l : List Nat) : wL (c :: l) = mul4 (turnT c) (wL l) := by
  rw [show c :: l = [c] ++ l from rfl, wL_app, wL_one]
theorem mul_R (t : T4) : mul4 R4 t = (t.1 + t.2.2.1, t.2.1 + t.2.2.2, t.2.2.1, t.2.2.2) := by unfold mul4 R4; simp
theorem mul_L (t : T4) : mul4 L4 t = (t.1, t.2.1, t.1 + t.2.2.1, t.2.1 + t.2.2.2) := by unfold mul4 L4; simp
theorem beg_R {t : T4} (h : Nn t) (hd : 0 < det4 t) : bR (mul4 R4 t) = true ∧ bL (mul4 R4 t) = false := by
  rw [mul_R]
  obtain ⟨a, b, c, d⟩ := t
  obtain ⟨h1, h2, h3, h4⟩ := h
  simp only at h1 h2 h3 h4
  unfold bR bL
  simp only
  refine ⟨by rw [decide_eq_true (by omega), decide_eq_true (by omega)]; rfl, ?_⟩
  rw [Bool.and_eq_false_iff]
  by_cases e : a = 0
  · right
    refine decide_eq_false fun z => ?_
    have : b = 0 := by omega
    subst this e
    unfold det4 at hd
    simp at hd
  · left; exact decide_eq_false (by omega)
theorem beg_L {t : T4} (h : Nn t) (hd : 0 < det4 t) : bL (mul4 L4 t) = true ∧ bR (mul4 L4 t) = false := by
  rw [mul_L]
  obtain ⟨a, b, c, d⟩ := t
  obtain ⟨h1, h2, h3, h4⟩ := h
  simp only at h1 h2 h3 h4
  unfold bR bL
  simp only
  refine ⟨by rw [decide_eq_true (by omega), decide_eq_true (by omega)]; rfl, ?_⟩
  rw [Bool.and_eq_false_iff]
  by_cases e : c = 0
  · right
    refine decide_eq_false fun z => ?_
    have : d = 0 := by omega
    subst this e
    unfold det4 at hd
    simp at hd
  · left; exact decide_eq_false (by omega)
theorem Tk.tail {t u : T4} {c : Nat} {w : List Nat} (h : Tk t (c :: w) u) : ∃ t1, Tk t1 w u ∧ Nn t1 ∧ det4 t1 = det4 t ∧ t = mul4 (turnT c) t1 := by
  have e := h.eq
  rw [wL_cons, mul_assoc4] at e
  have hn : Nn (mul4 (wL w) u) := (nn_wL w).mul h.nn
  exact ⟨_, ⟨fun d hd => h.lr d (List.mem_cons_of_mem _ hd), rfl, h.nn, h.bal⟩, hn, by rw [← e, det_mul (turnT c), det_turn, Int.one_mul], e.symm⟩
theorem Tk.first {t u : T4} {c : Nat} {w : List Nat} (hd : 0 < det4 t) (h : Tk t (c :: w) u) : (c = 82 ∧ bR t = true ∧ bL t = false) ∨ (c = 76 ∧ bL t = true ∧ bR t = false) := by
  obtain ⟨t1, h1, hn, e1, e2⟩ := h.tail
  rw [← e1] at hd
  rcases h.lr c List.mem_cons_self with rfl | rfl
  · rw [turn_L] at e2
    obtain ⟨z1, z2⟩ := beg_L hn hd
    rw [e2]
    exact .inr ⟨rfl, z1, z2⟩
  · rw [turn_R] at e2
    obtain ⟨z1, z2⟩ := beg_R hn hd
    rw [e2]
    exact .inl ⟨rfl, z1, z2⟩
theorem LR.rep {w : List Nat} (h : LR w) {c k : Nat} (hc : c = 76 ∨ c = 82) : LR (w ++ List.replicate k c) := fun d hd => by
  rcases List.mem_append.mp hd with z | z
  · exact h d z
  · rw [List.eq_of_mem_replicate z]; exact hc
theorem fold_rep (x : Array Nat) : ∀ (n : Nat) (acc : Array Nat), ((List.replicate n x).foldl (· ++ ·) acc).toList = acc.toList ++ (List.replicate n x.toList).flatten
  | 0, acc => by simp
  | n + 1, acc => by
    rw [List.replicate_succ, List.foldl_cons, fold_rep x n, List.replicate_succ, List.flatten_cons]
    simp
def rMulS : R2 := fun x y H Q => ∃ a n, x = .str a ∧ y = .int n ∧ MulOk a n ∧ Q (.str (Txt.mul a n)) H
theorem op_mulS {X : Cx} : OpR X (binaryOp .Mult) rMulS := by
  intro pins s σ H x y v u Q I rx ry h
  obtain ⟨i, j, rfl, rfl, hz, q⟩ := h
  obtain ⟨t, rfl⟩ := rx
  obtain ⟨t', rfl⟩ := ry
  exact SB.mul hz fun t'' k => ⟨.str _, H, I.tok _, ⟨_, rfl⟩, q⟩
def mulSD (_ : Sto) (x y : D) (φ : D → Prop) : Prop := match x, y with
  | .str a, .int n => MulOk a n ∧ φ (.str (Txt.mul a n))
  | _, _ => False
theorem ok_mulS {K : PySem.W.Frag} : Ok2 K rMulS mulSD := fun M H G x y v u φ Q w rx ry h k => by
  unfold mulSD at h
  split at h
  · cases rx; cases ry; exact ⟨_, _, rfl, rfl, h.1, k _ _ _ _ h.2 (Grow.refl w.sub) .str⟩
  · exact h.elim
theorem de_mulS {X : Cx} {B : Bs} {a b : Expr} {fa fb : DTE} {pos : Pos} (ha : DE X B a fa) (hb : DE X B b fb) : DE X B (.BinOp a .Mult b pos) (fun r M Ψ => fa r M fun x M1 => fb r M1 fun y M2 => mulSD M2 x y fun z => Ψ z M2) := de_op op_mulS ok_mulS ha hb
end Z
namespace Z
section
open PySem PySem.SeqAt GQ
open AutoSeq1 (wpAny_loadPart')
open MeetsSeq MeetsSeq2 MeetsSeq3 SeqRoads2
variable {prog : Program} {w : World} {A : Around} {R : Result → Shared → Prop}
end
section
open PySem PySem.SeqAt GQ
variable {prog : Program} {w : World} {A : Around} {E : Value → Shared → Prop} {s : Shared}
end
open PySem PySem.Spec PyProof.Rows L2
section
variable {X : Cx} {j : Nat} {own : D → D → Sto → Prop}
end
section
variable {X : Cx} {B : Bs} {k j : Nat} {c : Ct} {pos : Pos} {a b : Expr} {fa fb : DTE} {C : Addr} {bs : List (Nat × List Str × (List D → List D → List D))}
end
end Z
namespace Z
open PySem PySem.Spec PyProof.Rows L2
theorem getS_z {d : D} {r : En} {k : D → Prop} : getS (some d :: r) 0 k = k d := rfl
theorem getS_s {o : Option D} {r : En} {i : Nat} {k : D → Prop} : getS (o :: r) (i + 1) k = getS r i k := rfl
theorem cmp_i {p : Int → Int → Bool} {M : Sto} {i j : Int} {φ : D → Prop} : cmpD p M (.int i) (.int j) φ = φ (.bl (p i j)) := rfl
theorem add_i {M : Sto} {i j : Int} {φ : D → Prop} : addD M (.int i) (.int j) φ = φ (.int (i + j)) := rfl
theorem min2_i {M : Sto} {i j : Int} {φ : PD} : min2D M [.int i, .int j] φ = φ (.int (if j < i then j else i)) M := rfl
theorem max2_i {M : Sto} {i j : Int} {φ : PD} : max2D M [.int i, .int j] φ = φ (.int (if j > i then j else i)) M := rfl
theorem sub_i {M : Sto} {i j : Int} {φ : D → Prop} : subD M (.int i) (.int j) φ = φ (.int (i - j)) := rfl
end Z
namespace Z
open PySem PySem.Spec PyProof.Rows L2
section
variable {X : Cx} {B : Bs} {pos : Pos} {a b c : Expr} {es : List Expr} {fa fb : DTE} {ta tb : DTT}
end
end Z
namespace Z
open PySem PySem.Spec PyProof.Rows L2
theorem log_sm {i : Int} {n : Nat} (h : i.natAbs < 2 ^ n) (hn : n ≤ 1900) : i.natAbs.log2 < 1920 := by
  by_cases e : i.natAbs = 0
  · rw [e]; decide
  · have := (Nat.log2_lt e).mpr h
    omega
theorem sz_le {x : Str} {n : Nat} (h : x.length ≤ n) (hn : n ≤ 1000000) : x.length ≤ sizeLine := Nat.le_trans h (Nat.le_trans hn big_ok)
theorem sz_app {x y : Str} {n m : Nat} (h : x.length ≤ n) (h' : y.length ≤ m) : (x ++ y).length ≤ n + m := by rw [Str.length_append]; omega
theorem sz_int {i : Int} {n : Nat} (h : i.natAbs < 2 ^ n) (hn : n ≤ 1900) : (Str.ofString (toString i)).length ≤ 1921 := PyProof.Rows.int_text_len_1921 (log_sm h hn)
theorem nn_sc' {m : Int} {t : T4} (hm : 0 ≤ m) (h : Nn t) : Nn (sc m t) := ⟨Int.mul_nonneg hm h.1, Int.mul_nonneg hm h.2.1, Int.mul_nonneg hm h.2.2.1, Int.mul_nonneg hm h.2.2.2⟩
theorem mul_sc4 (m : Int) (s t : T4) : mul4 s (sc m t) = sc m (mul4 s t) := by
  unfold mul4 sc
  simp only [Prod.mk.injEq]
  refine ⟨?_, ?_, ?_, ?_⟩ <;> grind
theorem Tk.app {t u : T4} {v w : List Nat} (hv : LR v) (h : Tk t w u) : Tk (mul4 (wL v) t) (v ++ w) u :=
  ⟨fun c hc => (List.mem_append.mp hc).elim (hv c) (h.lr c), by rw [wL_app, mul_assoc4, h.eq], h.nn, h.bal⟩
end Z
namespace Z
open PySem PySem.Spec PyProof.Rows L2
def Ib (n : Nat) (i : Int) : Prop := i.natAbs < 2 ^ n
theorem Ib.mono {n m : Nat} {i : Int} (h : Ib n i) (hm : n ≤ m) : Ib m i := Nat.lt_of_lt_of_le h (Nat.pow_le_pow_right (by decide) hm)
theorem Ib.mul {n m : Nat} {i j : Int} (h : Ib n i) (k : Ib m j) : Ib (n + m) (i * j) := by
  unfold Ib at *
  rw [Int.natAbs_mul, Nat.pow_add]
  exact Nat.mul_lt_mul'' h k
theorem Ib.add {n : Nat} {i j : Int} (h : Ib n i) (k : Ib n j) : Ib (n + 1) (i + j) := by
  unfold Ib at *
  rw [Nat.pow_succ]
  generalize 2 ^ n = z at *
  omega
theorem Ib.sub {n : Nat} {i j : Int} (h : Ib n i) (k : Ib n j) : Ib (n + 1) (i - j) := by
  unfold Ib at *
  rw [Nat.pow_succ]
  generalize 2 ^ n = z at *
  omega
theorem Ib.neg {n : Nat} {i : Int} (h : Ib n i) : Ib n (-i) := by unfold Ib at *; rw [Int.natAbs_neg]; exact h
theorem Ib.le {n : Nat} {i j : Int} (h : Ib n i) (k : j.natAbs ≤ i.natAbs) : Ib n j := Nat.lt_of_le_of_lt k h
theorem Ib.bits {n : Nat} {i : Int} (h : Ib n i) (hn : n ≤ 100000) : Builtin.Int.intBits i ≤ 2 ^ 20 := by
  unfold Builtin.Int.intBits
  unfold Ib at h
  by_cases e : i.natAbs = 0
  · have : i = 0 := by omega
    subst this
    decide
  · have := (Nat.log2_lt e).mpr h
    split <;> omega
theorem Ib.mok {n m : Nat} {i j : Int} (h : Ib n i) (k : Ib m j) (hn : n ≤ 100000) (hm : m ≤ 100000) : IntMulOk i j := IntMulOk.of_bits (h.bits hn) (k.bits hm)
theorem Ib.dok {n : Nat} {i : Int} (h : Ib n i) (h0 : i ≠ 0) (hn : n ≤ 9000) : Dok i := dok_of (n := n) h0 h hn
theorem Ib.str {n : Nat} {i : Int} (h : Ib n i) (hn : n ≤ 1900) : (Str.ofString (toString i)).length ≤ 1921 := sz_int h hn
def rtN : Nat → Nat
  | 0 => 0
  | n + 1 => if (rtN n + 1) * (rtN n + 1) ≤ n + 1 then rtN n + 1 else rtN n
theorem sq_succ (r : Nat) : (r + 1) * (r + 1) = r * r + 2 * r + 1 := by grind
theorem rtN_spec : ∀ n : Nat, rtN n * rtN n ≤ n ∧ n < (rtN n + 1) * (rtN n + 1)
  | 0 => by decide
  | n + 1 => by
    obtain ⟨h1, h2⟩ := rtN_spec n
    unfold rtN
    split
    · rename_i h
      refine ⟨h, ?_⟩
      rw [sq_succ]
      omega
    · exact ⟨by omega, by omega⟩
theorem rt_uniq {r u : Nat} (h1 : r * r ≤ u) (h2 : u < (r + 1) * (r + 1)) : r = rtN u := by
  obtain ⟨k1, k2⟩ := rtN_spec u
  have a : r < rtN u + 1 := Nat.lt_of_not_le fun h => by have := Nat.mul_le_mul h h; omega
  have b : rtN u < r + 1 := Nat.lt_of_not_le fun h => by have := Nat.mul_le_mul h h; omega
  omega
theorem sq_of {m u x : Nat} (hm : 0 < m) (h : m * m * u = x * x) : ∃ k, u = k * k := by
  have h1 : m ^ 2 ∣ x ^ 2 := ⟨u, by rw [Nat.pow_two, Nat.pow_two]; exact h.symm⟩
  obtain ⟨k, rfl⟩ := (Nat.pow_dvd_pow_iff (by decide)).mp h1
  refine ⟨k, Nat.eq_of_mul_eq_mul_left (Nat.mul_pos hm hm) ?_⟩
  rw [h]
  grind
def rtI (u : Int) : Int := rtN u.toNat
theorem rtI_nn (u : Int) : 0 ≤ rtI u := by unfold rtI; omega
theorem rtI_uniq {r u : Int} (h0 : 0 ≤ r) (h1 : r * r ≤ u) (h2 : u < (r + 1) * (r + 1)) : r = rtI u := by
  obtain ⟨n, rfl⟩ := Int.eq_ofNat_of_zero_le h0
  have hu : 0 ≤ u := Int.le_trans (Int.mul_nonneg h0 h0) h1
  obtain ⟨v, rfl⟩ := Int.eq_ofNat_of_zero_le hu
  unfold rtI
  rw [Int.toNat_natCast]
  congr 1
  exact rt_uniq (by exact_mod_cast h1) (by exact_mod_cast h2)
theorem rtI_sq {k : Int} (h : 0 ≤ k) : rtI (k * k) = k := (rtI_uniq h (Int.le_refl _) (by rw [show (k + 1) * (k + 1) = k * k + 2 * k + 1 by grind]; omega)).symm
def Sq (u : Int) : Prop := rtI u * rtI u = u
instance (u : Int) : Decidable (Sq u) := inferInstanceAs (Decidable (rtI u * rtI u = u))
theorem sq_iff {u : Int} : Sq u ↔ ∃ k : Int, u = k * k := by
  constructor
  · exact fun h => ⟨_, h.symm⟩
  · rintro ⟨k, rfl⟩
    unfold Sq
    rcases Int.le_total 0 k with h | h
    · rw [rtI_sq h]
    · have : k * k = (-k) * (-k) := by grind
      rw [this, rtI_sq (by omega)]
theorem sq_div {m u x : Int} (hm : m ≠ 0) (h : m * m * u = x * x) : Sq u := by
  have hu : 0 ≤ u := by
    have h1 : 0 ≤ x * x := by
      rcases Int.le_total 0 x with q | q
      · exact Int.mul_nonneg q q
      · exact Int.mul_nonneg_of_nonpos_of_nonpos q q
    have h2 : 0 < m * m := by
      rcases Int.lt_or_gt_of_ne hm with q | q
      · exact Int.mul_pos_of_neg_of_neg q q
      · exact Int.mul_pos q q
    rcases (show u < 0 ∨ 0 ≤ u by omega) with q | q
    · have := Int.mul_neg_of_pos_of_neg h2 q
      omega
    · exact q
  obtain ⟨v, rfl⟩ := Int.eq_ofNat_of_zero_le hu
  have e : m.natAbs * m.natAbs * v = x.natAbs * x.natAbs := by
    have := congrArg Int.natAbs h
    rw [Int.natAbs_mul, Int.natAbs_mul, Int.natAbs_mul] at this
    exact this
  obtain ⟨k, hk⟩ := sq_of (by omega) e
  exact sq_iff.mpr ⟨k, by rw [hk]; exact Int.natCast_mul k k⟩
theorem sq_mul {m u : Int} (hm : m ≠ 0) : Sq (m * m * u) ↔ Sq u := by
  constructor
  · intro h
    obtain ⟨x, hx⟩ := sq_iff.mp h
    exact sq_div hm hx
  · intro h
    obtain ⟨x, rfl⟩ := sq_iff.mp h
    exact sq_iff.mpr ⟨m * x, by grind⟩
abbrev T3 := Int × Int × Int
def tL3 (t : T3) : List D := [.int t.1, .int t.2.1, .int t.2.2]
def sgI (b : Int) : Int := if 0 < b then 1 else -1
theorem sgI_cs (b : Int) : sgI b = 1 ∨ sgI b = -1 := by unfold sgI; split <;> simp
theorem sgI_mul {m b : Int} (hm : 0 < m) : sgI (m * b) = sgI b := by
  unfold sgI
  by_cases h : 0 < b
  · rw [if_pos h, if_pos (Int.mul_pos hm h)]
  · rw [if_neg h, if_neg]
    have := Int.mul_le_mul_of_nonneg_left (show b ≤ 0 by omega) (Int.le_of_lt hm)
    omega
def gF2 (t b u : Int) : Int := (gN [t + rtI u, b] : Int) * sgI b
def gI3 (t b u : Int) : Int := (gN [b * b, 2 * t * b, t * t - u] : Int) * sgI b
def nf (t b u : Int) : T3 :=
  if Sq u then ((t + rtI u).fdiv (gF2 t b u), b.fdiv (gF2 t b u), 0)
  else (-((-2 * t * b).fdiv (gI3 t b u)), 2 * (b * b).fdiv (gI3 t b u), (-2 * t * b).fdiv (gI3 t b u) * (-2 * t * b).fdiv (gI3 t b u) - 4 * (b * b).fdiv (gI3 t b u) * (t * t - u).fdiv (gI3 t b u))
theorem g_ne {l : List Int} {x : Int} (hx : x ∈ l) (h0 : x ≠ 0) : (gN l : Int) ≠ 0 := fun h => h0 (gN_zero (by omega) x hx)
theorem sg_ne {g b : Int} (h : g ≠ 0) : g * sgI b ≠ 0 := by
  rcases sgI_cs b with e | e <;> rw [e] <;> omega
theorem fd_sg {l : List Int} {x : Int} (hx : x ∈ l) (b : Int) (hg : (gN l : Int) ≠ 0) : ∃ y, x = (gN l : Int) * sgI b * y ∧ x.fdiv ((gN l : Int) * sgI b) = y ∧ x.fdiv (gN l) = sgI b * y := by
  have e := fdiv_ex (by omega) (gN_dvd hx)
  refine ⟨sgI b * x.fdiv (gN l), ?_, ?_, ?_⟩
  · rcases sgI_cs b with e2 | e2 <;> rw [e2] <;> grind
  · conv => lhs; rw [show x = (gN l : Int) * sgI b * (sgI b * x.fdiv (gN l)) by rcases sgI_cs b with e2 | e2 <;> rw [e2] <;> grind]
    exact Int.mul_fdiv_cancel_left _ (sg_ne hg)
  · rcases sgI_cs b with e2 | e2 <;> rw [e2] <;> grind
theorem fdiv_of {x g y : Int} (hg : g ≠ 0) (h : x = g * y) : x.fdiv g = y := by rw [h]; exact Int.mul_fdiv_cancel_left _ hg

theorem nf_frac {t b u : Int} (hb : b ≠ 0) (hs : Sq u) : ∃ x y : Int, t + rtI u = gF2 t b u * x ∧ b = gF2 t b u * y ∧ gF2 t b u ≠ 0 ∧ nf t b u = (x, y, 0) ∧ (gN [t + rtI u, b] : Int) ≠ 0 := by
  have hg : (gN [t + rtI u, b] : Int) ≠ 0 := g_ne (x := b) (by simp) hb
  obtain ⟨x, e1, e2, _⟩ := fd_sg (l := [t + rtI u, b]) (x := t + rtI u) (by simp) b hg
  obtain ⟨y, e3, e4, _⟩ := fd_sg (l := [t + rtI u, b]) (x := b) (by simp) b hg
  refine ⟨x, y, e1, e3, sg_ne hg, ?_, hg⟩
  unfold nf gF2
  rw [if_pos hs, e2, e4]
theorem nf_irr {t b u : Int} (hb : b ≠ 0) (hs : ¬ Sq u) : ∃ f s l : Int, b * b = gI3 t b u * f ∧ -2 * t * b = gI3 t b u * s ∧ t * t - u = gI3 t b u * l ∧ gI3 t b u ≠ 0 ∧ nf t b u = (-s, 2 * f, s * s - 4 * f * l) ∧ (gN [b * b, 2 * t * b, t * t - u] : Int) ≠ 0 := by
  have hg : (gN [b * b, 2 * t * b, t * t - u] : Int) ≠ 0 := g_ne (x := b * b) (by simp) (Int.mul_ne_zero hb hb)
  obtain ⟨f, e1, e2, _⟩ := fd_sg (l := [b * b, 2 * t * b, t * t - u]) (x := b * b) (by simp) b hg
  obtain ⟨s, e3, e4, _⟩ := fd_sg (l := [b * b, 2 * t * b, t * t - u]) (x := 2 * t * b) (by simp) b hg
  obtain ⟨l, e5, e6, _⟩ := fd_sg (l := [b * b, 2 * t * b, t * t - u]) (x := t * t - u) (by simp) b hg
  have e7 : -2 * t * b = gI3 t b u * (-s) := by
    rw [show -2 * t * b = -(2 * t * b) by grind, e3]; unfold gI3; grind
  refine ⟨f, -s, l, e1, e7, e5, sg_ne hg, ?_, hg⟩
  unfold nf
  have e8 : (-2 * t * b).fdiv (gI3 t b u) = -s := fdiv_of (sg_ne hg) e7
  rw [if_neg hs, e8]
  unfold gI3
  rw [e2, e6]
theorem nf_scale {t b u m : Int} (hb : b ≠ 0) (hm : 0 < m) (hu : 0 ≤ u) : nf (m * t) (m * b) (m * m * u) = nf t b u := by
  have hm0 : m ≠ 0 := by omega
  by_cases hs : Sq u
  · have hs' : Sq (m * m * u) := (sq_mul hm0).mpr hs
    have er : rtI (m * m * u) = m * rtI u := by
      conv => lhs; rw [show u = rtI u * rtI u from hs.symm]
      rw [show m * m * (rtI u * rtI u) = (m * rtI u) * (m * rtI u) by grind]
      exact rtI_sq (Int.mul_nonneg (by omega) (rtI_nn u))
    obtain ⟨x, y, e1, e2, e3, e4, _⟩ := nf_frac (t := t) hb hs
    obtain ⟨x', y', f1, f2, f3, f4, _⟩ := nf_frac (t := m * t) (b := m * b) (Int.mul_ne_zero hm0 hb) hs'
    have eg : gF2 (m * t) (m * b) (m * m * u) = m * gF2 t b u := by
      unfold gF2
      rw [er, sgI_mul hm, ← Int.mul_add]
      have := gN_mul m [t + rtI u, b]
      simp only [List.map] at this
      rw [this, Int.natCast_mul, Int.natAbs_of_nonneg (by omega)]
      grind
    rw [eg] at f1 f2 f3
    rw [er] at f1
    rw [e4, f4]
    have g1 : x' = x := Int.eq_of_mul_eq_mul_left f3 (by rw [← f1, ← Int.mul_add, e1]; grind)
    have g2 : y' = y := Int.eq_of_mul_eq_mul_left f3 (by rw [← f2]; conv => lhs; rw [e2]
                                                         grind)
    rw [g1, g2]
  · have hs' : ¬ Sq (m * m * u) := fun h => hs ((sq_mul hm0).mp h)
    obtain ⟨f, s, l, e1, e2, e3, e4, e5, _⟩ := nf_irr (t := t) hb hs
    obtain ⟨f', s', l', f1, f2, f3, f4, f5, _⟩ := nf_irr (t := m * t) (b := m * b) (Int.mul_ne_zero hm0 hb) hs'
    have eg : gI3 (m * t) (m * b) (m * m * u) = m * m * gI3 t b u := by
      unfold gI3
      rw [sgI_mul hm]
      have := gN_mul (m * m) [b * b, 2 * t * b, t * t - u]
      simp only [List.map] at this
      rw [show m * b * (m * b) = m * m * (b * b) by grind, show 2 * (m * t) * (m * b) = m * m * (2 * t * b) by grind, show m * t * (m * t) - m * m * u = m * m * (t * t - u) by grind]
      rw [this, Int.natCast_mul, Int.natAbs_of_nonneg (Int.mul_nonneg (by omega) (by omega))]
      grind
    rw [eg] at f1 f2 f3 f4
    have g1 : f' = f := Int.eq_of_mul_eq_mul_left f4 (by rw [← f1, Int.mul_assoc (m * m), ← e1]; grind)
    have g2 : s' = s := Int.eq_of_mul_eq_mul_left f4 (by rw [← f2, Int.mul_assoc (m * m), ← e2]; grind)
    have g3 : l' = l := Int.eq_of_mul_eq_mul_left f4 (by rw [← f3, Int.mul_assoc (m * m), ← e3]; grind)
    rw [e5, f5, g1, g2, g3]
theorem sg_pos {g b y : Int} (hg : 0 < g) (hb : b ≠ 0) (h : b = g * sgI b * y) : 0 < y := by
  rcases (show y ≤ 0 ∨ 0 < y by omega) with q | q
  · exfalso
    have h1 : g * y ≤ 0 := Int.mul_nonpos_of_nonneg_of_nonpos (by omega) q
    unfold sgI at h
    split at h
    · rw [Int.mul_one] at h; omega
    · rw [show g * (-1) * y = -(g * y) by grind] at h; omega
  · exact q
theorem gN_nn (l : List Int) : (0 : Int) ≤ gN l := by omega
theorem rtI_0 : rtI 0 = 0 := rtI_sq (k := 0) (by decide)
theorem sq_0 : Sq 0 := sq_iff.mpr ⟨0, rfl⟩
theorem abs_sg {g b : Int} (hg : 0 ≤ g) : (g * sgI b).natAbs = g.natAbs := by
  rcases sgI_cs b with e | e <;> rw [e] <;> omega
theorem nf_ne {t b u : Int} (hb : b ≠ 0) : (nf t b u).2.1 ≠ 0 := by
  by_cases hs : Sq u
  · obtain ⟨x, y, e1, e2, e3, e4, _⟩ := nf_frac (t := t) hb hs
    rw [e4]
    intro (e : y = 0)
    rw [e, Int.mul_zero] at e2
    exact hb e2
  · obtain ⟨f, s, l, e1, e2, e3, e4, e5, _⟩ := nf_irr (t := t) hb hs
    rw [e5]
    intro (e : 2 * f = 0)
    rw [show f = 0 by omega, Int.mul_zero] at e1
    exact (Int.mul_ne_zero hb hb) e1
theorem disc {t b u g f s l : Int} (e1 : b * b = g * f) (e2 : -2 * t * b = g * s) (e3 : t * t - u = g * l) : g * g * (s * s - 4 * f * l) = (2 * b) * (2 * b) * u := by
  have h1 : g * g * (s * s - 4 * f * l) = (g * s) * (g * s) - 4 * (g * f) * (g * l) := by grind
  rw [h1, ← e1, ← e2, ← e3]
  grind
theorem sq_nn (x : Int) : 0 ≤ x * x := by
  rcases Int.le_total 0 x with q | q
  · exact Int.mul_nonneg q q
  · exact Int.mul_nonneg_of_nonpos_of_nonpos q q
theorem sq_pos {x : Int} (h : x ≠ 0) : 0 < x * x := by
  have := sq_nn x
  have := Int.mul_ne_zero h h
  omega
theorem nf_un {t b u : Int} (hb : b ≠ 0) (hu : 0 ≤ u) : 0 ≤ (nf t b u).2.2 := by
  by_cases hs : Sq u
  · obtain ⟨x, y, e1, e2, e3, e4, _⟩ := nf_frac (t := t) hb hs
    rw [e4]
    exact Int.le_refl 0
  · obtain ⟨f, s, l, e1, e2, e3, e4, e5, _⟩ := nf_irr (t := t) hb hs
    rw [e5]
    have h := disc e1 e2 e3
    have h1 : 0 ≤ (2 * b) * (2 * b) * u := Int.mul_nonneg (sq_nn _) hu
    rw [← h] at h1
    have h2 := sq_pos e4
    show 0 ≤ s * s - 4 * f * l
    rcases (show s * s - 4 * f * l < 0 ∨ 0 ≤ s * s - 4 * f * l by omega) with q | q
    · have := Int.mul_neg_of_pos_of_neg h2 q
      omega
    · exact q
theorem gN1 {l m : List Int} {g : Int} (h : l = m.map (g * ·)) (hg : g.natAbs = gN l) (h0 : g ≠ 0) : gN m = 1 := by
  have e := gN_mul g m
  rw [← h, hg] at e
  exact (Nat.eq_of_mul_eq_mul_left (show 0 < gN l by omega) (by rw [Nat.mul_one]; exact e)).symm
theorem Ib.of_mul {n : Nat} {x g y : Int} (h : Ib n x) (e : x = g * y) (hg : g ≠ 0) : Ib n y := by
  refine h.le ?_
  rw [e, Int.natAbs_mul]
  exact Nat.le_mul_of_pos_left _ (by omega)
theorem Ib.rt {n : Nat} {u : Int} (h : Ib n u) (h0 : 0 ≤ u) : Ib n (rtI u) := by
  refine h.le ?_
  obtain ⟨v, rfl⟩ := Int.eq_ofNat_of_zero_le h0
  unfold rtI
  rw [Int.toNat_natCast]
  have := (rtN_spec v).1
  have := Nat.le_mul_self (rtN v)
  omega
theorem Ib.c {i : Int} (n : Nat) (h : i.natAbs < 2 ^ n := by decide) : Ib n i := h
structure Ib3 (n : Nat) (p : T3) : Prop where
  a : Ib n p.1
  b : Ib n p.2.1
  c : Ib n p.2.2
theorem Ib.dbl {n : Nat} {u x : Int} (hu : Ib n u) (h0 : 0 ≤ x) (h : x ≤ 2 * u + 1) : Ib (n + 1) x := by
  unfold Ib at *
  rw [Nat.pow_succ]
  generalize 2 ^ n = z at *
  omega
theorem Ib.of_l {n : Nat} {x g y : Int} (h : Ib n x) (e : x = g * y) (hx : x ≠ 0) : Ib n g := by
  refine h.le ?_
  rw [e, Int.natAbs_mul]
  have : y ≠ 0 := fun z => hx (by rw [e, z, Int.mul_zero])
  exact Nat.le_mul_of_pos_right _ (by omega)
theorem mok_sg {g b : Int} : IntMulOk g (sgI b) := by rcases sgI_cs b with e | e <;> rw [e] <;> exact IntMulOk.of_right (by decide)
def istr (i : Int) : Str := Str.ofString (toString i)
theorem sz2 {x y : Str} {n m : Nat} (h : x.length ≤ n) (h' : y.length ≤ m) (hn : n + m ≤ 1000000) : x.length + y.length ≤ sizeLine := Nat.le_trans (Nat.add_le_add h h') (Nat.le_trans hn big_ok)
end Z
namespace Z
open PySem PySem.Spec PyProof.Rows L2
def s3 (x : Int) : Int := if 0 < x then 1 else if x < 0 then -1 else 0
def Gp (a p : Int) : Prop := 0 < a ∨ a * a < p
def Gm (a p : Int) : Prop := 0 < a ∧ p < a * a
def Gt (a b u : Int) : Prop := (0 ≤ b ∧ Gp a (b * b * u)) ∨ (b < 0 ∧ Gm a (b * b * u))
def Lt (a b u : Int) : Prop := Gt (-a) (-b) u
theorem s3_pos {x : Int} (h : 0 < x) : s3 x = 1 := if_pos h
theorem s3_neg {x : Int} (h : x < 0) : s3 x = -1 := by unfold s3; rw [if_neg (by omega), if_pos h]
theorem s3_cs (x : Int) : (0 < x ∧ s3 x = 1) ∨ (x = 0 ∧ s3 x = 0) ∨ (x < 0 ∧ s3 x = -1) := by
  rcases (show 0 < x ∨ x = 0 ∨ x < 0 by omega) with h | h | h
  · exact .inl ⟨h, s3_pos h⟩
  · subst h; exact .inr (.inl ⟨rfl, rfl⟩)
  · exact .inr (.inr ⟨h, s3_neg h⟩)
def NS (u : Int) : Prop := u = 0 ∨ (0 < u ∧ ¬ Sq u)
theorem NS.nn {u : Int} (h : NS u) : 0 ≤ u := by
  rcases h with h | h <;> omega
theorem NS.ne {u w f : Int} (h : NS u) (hf : f ≠ 0) (hu : u ≠ 0) : w * w ≠ f * f * u := fun e => by
  rcases h with h | ⟨_, h⟩
  · exact hu h
  · exact h (sq_div (m := f) (x := w) hf e.symm)
theorem s3_mul (a b : Int) : s3 (a * b) = s3 a * s3 b := by
  rcases s3_cs a with ⟨h, e⟩ | ⟨h, e⟩ | ⟨h, e⟩ <;> rcases s3_cs b with ⟨h', e'⟩ | ⟨h', e'⟩ | ⟨h', e'⟩ <;> rw [e, e']
  · exact s3_pos (Int.mul_pos h h')
  · subst h'; rw [Int.mul_zero]; rfl
  · exact s3_neg (Int.mul_neg_of_pos_of_neg h h')
  · subst h; rw [Int.zero_mul]; rfl
  · subst h; rw [Int.zero_mul]; rfl
  · subst h; rw [Int.zero_mul]; rfl
  · exact s3_neg (Int.mul_neg_of_neg_of_pos h h')
  · subst h'; rw [Int.mul_zero]; rfl
  · exact s3_pos (Int.mul_pos_of_neg_of_neg h h')
theorem s3_one {k : Int} (hk : k ≠ 0) : s3 k = 1 ∨ s3 k = -1 := by
  rcases s3_cs k with ⟨h, e⟩ | ⟨h, e⟩ | ⟨h, e⟩
  · exact .inl e
  · exact absurd h hk
  · exact .inr e
end Z
namespace Z
open PySem PySem.Spec PyProof.Rows L2
theorem sg_sq (b : Int) : sgI b * sgI b = 1 := by rcases sgI_cs b with e | e <;> rw [e] <;> rfl
theorem sg_mul_pos {b : Int} (hb : b ≠ 0) : 0 < b * sgI b := by
  unfold sgI
  split <;> omega
end Z
namespace Z
open PySem PySem.Spec PyProof.Rows L2
structure Nf (p : T3) : Prop where
  ne : p.2.1 ≠ 0
  ns : NS p.2.2
  neg : p.2.1 < 0 → 0 < p.2.2
  zero : p.1 = 0 → p.2.2 = 0 → p = (0, 1, 0)
theorem nf_Nf {t b u : Int} (hb : b ≠ 0) (hu : 0 ≤ u) : Nf (nf t b u) := by
  have hne := nf_ne (t := t) (u := u) hb
  by_cases hs : Sq u
  · obtain ⟨x, y, e1, e2, e3, e4, e5⟩ := nf_frac (t := t) hb hs
    have hy : 0 < y := sg_pos (g := gN [t + rtI u, b]) (by have := gN_nn [t + rtI u, b]; omega) hb e2
    have k1 : gN [x, y] = 1 := gN1 (l := [t + rtI u, b]) (g := gF2 t b u) (by simp only [List.map]; rw [← e1, ← e2]) (by unfold gF2; rw [abs_sg (gN_nn _)]; rfl) e3
    rw [e4] at hne ⊢
    refine ⟨hne, .inl rfl, fun h => ?_, fun h _ => ?_⟩
    · have : y < 0 := h
      omega
    · have hx : x = 0 := h
      subst hx
      have : gN [0, y] = y.natAbs := by unfold gN gF; simp
      rw [show y = 1 by omega]
  · obtain ⟨f, s', l, e1, e2, e3, e4, e5, e6⟩ := nf_irr (t := t) hb hs
    have hun := nf_un (t := t) hb hu
    rw [e5] at hne hun ⊢
    have hU : ¬ Sq (s' * s' - 4 * f * l) := fun h => by
      obtain ⟨k, hk⟩ := sq_iff.mp h
      have hd := disc e1 e2 e3
      rw [hk] at hd
      exact hs (sq_div (m := 2 * b) (x := gI3 t b u * k) (by omega) (by rw [← hd]; grind))
    have hU0 : s' * s' - 4 * f * l ≠ 0 := fun h => hU (by rw [h]; exact sq_0)
    have hun : 0 ≤ s' * s' - 4 * f * l := hun
    refine ⟨hne, .inr ⟨?_, hU⟩, fun _ => ?_, fun _ h => absurd h hU0⟩
    · show 0 < s' * s' - 4 * f * l; omega
    · show 0 < s' * s' - 4 * f * l; omega
theorem s3_s3 {x : Int} (h : x ≠ 0) : s3 x * s3 x = 1 := by
  rcases s3_one h with e | e <;> rw [e] <;> rfl
theorem nf_int (n : Int) : nf n 1 0 = (n, 1, 0) := by
  obtain ⟨x, y, e1, e2, e3, e4, _⟩ := nf_frac (t := n) (b := 1) (u := 0) (by decide) sq_0
  have hg : gF2 n 1 0 = 1 := by
    unfold gF2 gN gF
    rw [rtI_0]
    simp
    rfl
  rw [hg, rtI_0] at e1
  rw [hg] at e2
  rw [e4]
  have hx : x = n := by omega
  have hy : y = 1 := by omega
  rw [hx, hy]
theorem eqvT3 {M : Sto} {s t : T3} {φ : D → Prop} (h : φ (.bl (decide (s = t)))) : eqD M (.tup (tL3 s)) (.tup (tL3 t)) φ := by
  unfold eqD
  show eqvD M _ _ fun b => φ (.bl b)
  refine ⟨.tuple [.int s.1, .int s.2.1, .int s.2.2], .tuple [.int t.1, .int t.2.1, .int t.2.2], rfl, rfl, rfl, rfl, ?_⟩
  have : PyData.eqv (.tuple [.int s.1, .int s.2.1, .int s.2.2]) (.tuple [.int t.1, .int t.2.1, .int t.2.2]) = decide (s = t) := by
    obtain ⟨a, b, c⟩ := s
    obtain ⟨e, f, g⟩ := t
    simp only [PyData.eqv, PyData.eqvAll, Prod.mk.injEq]
    rw [Bool.eq_iff_iff]
    simp
  rw [this]
  exact h
end Z
namespace Z
open PySem PySem.Spec PyProof.Rows L2
def upL (m : T4) (p : T3) : Int := m.1 * p.1 + m.2.1 * p.2.1
def loL (m : T4) (p : T3) : Int := m.2.2.1 * p.1 + m.2.2.2 * p.2.1
def faL (m : T4) (p : T3) : Int := m.1 * loL m p - upL m p * m.2.2.1
def reL (m : T4) (p : T3) : Int := loL m p * loL m p - m.2.2.1 * m.2.2.1 * p.2.2
def ledR (m : T4) (p : T3) : T3 := (s3 (faL m p) * (upL m p * loL m p - m.1 * m.2.2.1 * p.2.2), s3 (faL m p) * reL m p, faL m p * faL m p * p.2.2)
def scP (x : Int) (p : T3) : T3 := (x * p.1, x * p.2.1, x * x * p.2.2)
theorem faL_det (m : T4) (p : T3) : faL m p = det4 m * p.2.1 := by
  unfold faL upL loL det4
  grind
theorem ledR_sc {x : Int} (hx : 0 < x) (m : T4) (p : T3) : ledR m (scP x p) = scP (x * x) (ledR m p) := by
  have e1 : upL m (scP x p) = x * upL m p := by unfold upL scP; grind
  have e2 : loL m (scP x p) = x * loL m p := by unfold loL scP; grind
  have e3 : faL m (scP x p) = x * faL m p := by unfold faL; rw [e1, e2]; grind
  have e4 : reL m (scP x p) = x * x * reL m p := by unfold reL; rw [e2]; unfold scP; grind
  unfold ledR
  rw [e1, e2, e3, e4, s3_mul, s3_pos hx, Int.one_mul]
  unfold scP
  simp only [Prod.mk.injEq]
  refine ⟨by grind, by grind, by grind⟩
theorem reL_ne {m : T4} {p : T3} (hd : det4 m ≠ 0) (hb : p.2.1 ≠ 0) (hu : 0 < p.2.2) (hs : ¬ Sq p.2.2) : reL m p ≠ 0 := by
  intro h
  unfold reL at h
  rcases (show m.2.2.1 = 0 ∨ m.2.2.1 ≠ 0 by omega) with z | z
  · rw [z] at h
    simp only [Int.zero_mul, Int.sub_zero] at h
    have hl : loL m p = 0 := by rcases Int.mul_eq_zero.mp h with v | v <;> exact v
    have hf := faL_det m p
    unfold faL at hf
    rw [hl, z, Int.mul_zero, Int.mul_zero] at hf
    exact Int.mul_ne_zero hd hb (by omega)
  · exact hs (sq_div (m := m.2.2.1) (x := loL m p) z (by omega))
def Eqv (p q : T3) : Prop := ∃ x y : Int, 0 < x ∧ 0 < y ∧ scP x p = scP y q
theorem nf_sc {p : T3} {x : Int} (hx : 0 < x) (hb : p.2.1 ≠ 0) (hu : 0 ≤ p.2.2) : nf (scP x p).1 (scP x p).2.1 (scP x p).2.2 = nf p.1 p.2.1 p.2.2 := nf_scale hb hx hu
abbrev nfP (p : T3) : T3 := nf p.1 p.2.1 p.2.2
theorem nf_eqv {p q : T3} (h : Eqv p q) (hb : p.2.1 ≠ 0) (hu : 0 ≤ p.2.2) (hb' : q.2.1 ≠ 0) (hu' : 0 ≤ q.2.2) : nfP p = nfP q := by
  obtain ⟨x, y, hx, hy, e⟩ := h
  unfold nfP
  rw [← nf_sc hx hb hu, e, nf_sc hy hb' hu']
theorem Eqv.led {p q : T3} (h : Eqv p q) (m : T4) : Eqv (ledR m p) (ledR m q) := by
  obtain ⟨x, y, hx, hy, e⟩ := h
  exact ⟨x * x, y * y, Int.mul_pos hx hx, Int.mul_pos hy hy, by rw [← ledR_sc hx, ← ledR_sc hy, e]⟩
theorem Eqv.sc {p : T3} {x : Int} (hx : 0 < x) : Eqv (scP x p) p := ⟨1, x, by decide, hx, by unfold scP; simp⟩
theorem Eqv.symm {p q : T3} (h : Eqv p q) : Eqv q p := by
  obtain ⟨x, y, hx, hy, e⟩ := h
  exact ⟨y, x, hy, hx, e.symm⟩
theorem scP_scP (x y : Int) (p : T3) : scP x (scP y p) = scP (x * y) p := by
  unfold scP
  simp only [Prod.mk.injEq]
  refine ⟨by grind, by grind, by grind⟩
theorem Eqv.trans {p q r : T3} (h : Eqv p q) (k : Eqv q r) : Eqv p r := by
  obtain ⟨x, y, hx, hy, e⟩ := h
  obtain ⟨x', y', hx', hy', e'⟩ := k
  refine ⟨x' * x, y * y', Int.mul_pos hx' hx, Int.mul_pos hy hy', ?_⟩
  rw [← scP_scP, e, scP_scP, Int.mul_comm, ← scP_scP, e', scP_scP]
theorem nf_Eqv {p : T3} (hb : p.2.1 ≠ 0) (hs : ¬ Sq p.2.2) : Eqv (nfP p) p := by
  obtain ⟨t, b, u⟩ := p
  obtain ⟨f, s', l, e1, e2, e3, e4, e5, e6⟩ := nf_irr (t := t) hb hs
  unfold nfP
  simp only at *
  rw [e5]
  have hd := disc e1 e2 e3
  have hg := gN_nn [b * b, 2 * t * b, t * t - u]
  have eg : gI3 t b u = (gN [b * b, 2 * t * b, t * t - u] : Int) * sgI b := rfl
  have hsg := sg_sq b
  generalize gI3 t b u = g at *
  generalize (gN [b * b, 2 * t * b, t * t - u] : Int) = n at *
  have hpos := sg_mul_pos hb
  generalize sgI b = o at *
  have en : n = g * o := by rw [eg, Int.mul_assoc, hsg, Int.mul_one]
  refine ⟨n, 2 * (b * o), by omega, by omega, ?_⟩
  unfold scP
  simp only [Prod.mk.injEq]
  refine ⟨?_, ?_, ?_⟩
  · rw [en, show g * o * -s' = -(o * (g * s')) by grind, ← e2]; grind
  · rw [en, show g * o * (2 * f) = 2 * o * (g * f) by grind, ← e1]; grind
  · rw [en, show g * o * (g * o) * (s' * s' - 4 * f * l) = (o * o) * (g * g * (s' * s' - 4 * f * l)) by grind, hd, hsg, show 2 * (b * o) * (2 * (b * o)) * u = (o * o) * (2 * b * (2 * b) * u) by grind, hsg]
structure Irr (p : T3) : Prop where
  ne : p.2.1 ≠ 0
  pos : 0 < p.2.2
  ns : ¬ Sq p.2.2
theorem Irr.led {p : T3} (h : Irr p) {m : T4} (hd : det4 m ≠ 0) : Irr (ledR m p) := by
  have hf : faL m p ≠ 0 := by rw [faL_det]; exact Int.mul_ne_zero hd h.ne
  have hr := reL_ne hd h.ne h.pos h.ns
  have ho := s3_s3 hf
  refine ⟨fun z => ?_, ?_, fun z => h.ns ((sq_mul hf).mp z)⟩
  · have z : s3 (faL m p) * reL m p = 0 := z
    rcases Int.mul_eq_zero.mp z with v | v
    · rw [v] at ho; omega
    · exact hr v
  · exact Int.mul_pos (sq_pos hf) h.pos
theorem Irr.nf {p : T3} (h : Irr p) : Irr (nfP p) := by
  have hn := nf_Nf (t := p.1) h.ne (Int.le_of_lt h.pos)
  obtain ⟨x, y, hx, hy, e⟩ := nf_Eqv h.ne h.ns
  have e3 : x * x * (nfP p).2.2 = y * y * p.2.2 := congrArg (fun z : T3 => z.2.2) e
  have hp := Int.mul_pos (Int.mul_pos hy hy) h.pos
  have h0 : 0 < (nfP p).2.2 := by
    have := hn.ns.nn
    rcases (show (nfP p).2.2 = 0 ∨ 0 < (nfP p).2.2 by unfold nfP; omega) with v | v
    · rw [v] at e3; omega
    · exact v
  refine ⟨hn.ne, h0, ?_⟩
  rcases hn.ns with v | ⟨_, v⟩
  · have h0 : 0 < (Z.nf p.1 p.2.1 p.2.2).2.2 := h0
    omega
  · exact v
def ledV (m : T4) (p : T3) : T3 := nfP (ledR m p)
theorem nf_sg {t b g : Int} (hb : b ≠ 0) (hg : g ≠ 0) : nf (g * t) (g * b) 0 = nf t b 0 := by
  have key : ∀ t b : Int, b ≠ 0 → nf (-t) (-b) 0 = nf t b 0 := fun t b hb => by
    obtain ⟨x, y, e1, e2, e3, e4, _⟩ := nf_frac (t := t) hb sq_0
    obtain ⟨x', y', f1, f2, f3, f4, _⟩ := nf_frac (t := -t) (b := -b) (by omega) sq_0
    have eg : gF2 (-t) (-b) 0 = -gF2 t b 0 := by
      unfold gF2
      rw [rtI_0, Int.add_zero, Int.add_zero]
      have e : gN [-t, -b] = gN [t, b] := by unfold gN gF; simp only [List.foldl, Int.natAbs_neg]
      have e' : sgI (-b) = -sgI b := by unfold sgI; split <;> split <;> omega
      rw [e, e', Int.mul_neg]
    rw [rtI_0, Int.add_zero] at e1 f1
    rw [eg] at f1 f2 f3
    have g1 : x' = x := Int.eq_of_mul_eq_mul_left f3 (by rw [← f1, e1]; grind)
    have g2 : y' = y := Int.eq_of_mul_eq_mul_left f3 (by rw [← f2]; conv => lhs; rw [e2]
                                                         grind)
    rw [e4, f4, g1, g2]
  rcases (show 0 < g ∨ g < 0 by omega) with h | h
  · have := nf_scale (t := t) (u := 0) hb h (Int.le_refl 0)
    rwa [Int.mul_zero] at this
  · have := nf_scale (t := -t) (b := -b) (u := 0) (m := -g) (by omega) (by omega) (Int.le_refl 0)
    rw [Int.mul_zero, Int.neg_mul_neg, Int.neg_mul_neg, key t b hb] at this
    exact this
def frV (m : T4) (p : T3) : T3 := nf (upL m p) (loL m p) 0
theorem fr_of {t b : Int} (hb : b ≠ 0) : ∃ g : Int, g ≠ 0 ∧ t = g * (nf t b 0).1 ∧ b = g * (nf t b 0).2.1 ∧ (nf t b 0).2.2 = 0 := by
  obtain ⟨x, y, e1, e2, e3, e4, _⟩ := nf_frac (t := t) hb sq_0
  rw [rtI_0, Int.add_zero] at e1
  rw [e4]
  exact ⟨_, e3, e1, e2, rfl⟩
end Z
namespace Z
open PySem PySem.Spec PyProof.Rows L2
theorem Ib.up {n : Nat} {x : Int} (h : Ib n x) : x < 2 ^ n ∧ -(2 ^ n) < x := by
  unfold Ib at h
  have : ((2 ^ n : Nat) : Int) = 2 ^ n := by simp
  rw [← this]
  generalize 2 ^ n = z at *
  omega
end Z
namespace Z
open PySem PySem.Spec PyProof.Rows L2

section
variable {X : Cx} {Wout : WX} {D : Ends} {pins : List (Addr × Obj)} {σ : L2.St} {H : Hp} {sI : Shared} {a : Addr} {cls : Value} {d : Option Addr} {B : Heap}
end
end Z
namespace Z
open PySem PySem.Spec PyProof.Rows L2

section
variable {X : Cx} {B : Bs} {pos : Pos} {a b e : Expr} {fa fb : DTE}
end

section
variable {X : Cx} {B : Bs} {pos : Pos} {e : Expr} {fa : DTE} {a : Addr} {oe : Obj} {x : XD} {cls : Value} {d : Option Addr} {n : Str}
end
section
variable {P : Program} {w : World} {K : PySem.W.Frag} {mg : Str → Option Value} {base : Heap} {k : Nat} {f : Addr} {fd : FuncData} {N ps : List Str} {x qual : Str} {st : Stmt} {dvs : List V} {kws : List (Str × V)}
end
section
variable {X : Cx} {B : Bs} {pos p : Pos} {e : Expr} {ga : DTA} {a : Addr} {oe : Obj} {y : XD} {cls : Value} {d : Option Addr} {x : Str} {c : Addr → XD → Ct} {pn : List (Addr × Obj)}
end
end Z
namespace Z
open PySem PySem.Spec PyProof.Rows L2

def Bs.at (H G : Hp) (M : Sto) : Bs := ⟨H, G, M⟩
theorem Rel.here {K : PySem.W.Frag} {B : Bs} {r : En} {M : Sto} {σ : L2.St} {H G : Hp} (R : Rel K B r M σ H G) : Rel K (Bs.at H G M) r M σ H G := ⟨R.wd, R.len, R.slots, Since.refl⟩
theorem Rel.back {K : PySem.W.Frag} {B : Bs} {r r' : En} {M M' : Sto} {σ σ' : L2.St} {H G H' G' : Hp} (R : Rel K B r M σ H G) (R' : Rel K (Bs.at H G M) r' M' σ' H' G') : Rel K B r' M' σ' H' G' := ⟨R'.wd, R'.len, R'.slots, Since.trans R.wd R.sin R'.sin⟩
theorem EkOk.here {K : PySem.W.Frag} {B : Bs} {r : En} {M : Sto} {σ : L2.St} {H G : Hp} {E : Ek} {D : Ends} (k : EkOk K B G E D) (R : Rel K B r M σ H G) : EkOk K (Bs.at H G M) G E D :=
  ⟨fun r' M' σ' H' G' q R' s => k.nx _ _ _ _ _ q (R.back R') s, fun d r' M' v σ' H' G' q R' p => k.rt _ _ _ _ _ _ _ q (R.back R') p, fun r' M' σ' H' G' q R' s => k.bk _ _ _ _ _ q (R.back R') s, fun r' M' σ' H' G' q R' s => k.ct _ _ _ _ _ q (R.back R') s⟩
section
variable {X : Cx} {B : Bs} {Ξ : XD → En → Sto → Prop} {E : Ek} {D : Ends} {G0 : Hp} {r0 : En} {M0 : Sto} {σ0 : L2.St} {H0 : Hp}
end
structure Lam where
  q : Str
  params : Arguments
  body : Expr
  scope : Scope
  cl : List (Str × Addr)
section
variable {X : Cx} {pins : List (Addr × Obj)} {σ : L2.St} {H : Hp} {s : Shared}
end
section
variable {X : Cx} {B : Bs} {pos : Pos} {l : Lam} {P c : Addr}
end
end Z
namespace Z
open PySem PySem.Spec PyProof.Rows L2

section
variable {X : Cx} {B : Bs} {pos p1 : Pos} {l : Lam} {P c : Addr}
end
section
variable {X : Cx} {pins : List (Addr × Obj)} {σ : L2.St} {H HZ : Hp} {s s1 : Shared} {l : Lam} {ps : List Str}
end
section
variable {X : Cx} {pins : List (Addr × Obj)} {σ : L2.St} {H G : Hp} {s : Shared} {l : Lam} {ps : List Str} {ns : List Int} {B : Bs} {r : En} {M : Sto} {k : Nat} {t : (XD → En → Sto → Prop) → DTE} {Ng : List Str} {qg : Str} {sg : Scope} {g : Addr} {cdg : Value} {Eg : XK} {CXg : CXT}
end
end Z
namespace Z
open PySem PySem.Spec PyProof.Rows L2

section
variable {X : Cx} {B : Bs} {k j : Nat} {x : Str} {pos p : Pos} {e : Expr} {ga : DTA}
end
end Z
namespace Z
open PySem PySem.Spec PyProof.Rows L2

end Z
namespace Z
open PySem PySem.Spec PyProof.Rows L2

section
variable {K : PySem.W.Frag} {C : Str} {n t : Str} {fs : List (Str × D)} {φ : Str → D → Prop} {v : D}
end
end Z
namespace Z
open PySem PySem.Spec PyProof.Rows L2

end Z
namespace Z
open PySem PySem.Spec PyProof.Rows L2
def oc (c : Nat) : Nat := if c = 76 then 82 else 76
theorem ch_eq {c d : Nat} : ((⟨#[c]⟩ : Str) = ⟨#[d]⟩) ↔ c = d := ⟨fun h => by
  have := congrArg (fun z : Str => z.cps.toList) h
  simpa using this, fun h => by rw [h]⟩
theorem any_mem {t : Str} : ∀ l : List Str, (l.map PyData.str).any (fun z => PyData.eqv z (.str t)) = decide (t ∈ l)
  | [] => rfl
  | a :: l => by
    rw [List.map_cons, List.any_cons, any_mem l]
    simp only [PyData.eqv, List.mem_cons, Bool.decide_or]
    congr 1
    exact decide_eq_decide.mpr ⟨Eq.symm, Eq.symm⟩
theorem pdL_strs : ∀ l : List Str, pdL (l.map D.str) = some (l.map PyData.str)
  | [] => rfl
  | a :: l => by
    rw [List.map_cons, List.map_cons]
    unfold pdL
    rw [pdL_strs l]
    rfl
theorem inS {M : Sto} {t : Str} {φ : D → Prop} (l : List Str) (h : φ (.bl (decide (t ∈ l)))) : inD M (.str t) (.tup (l.map D.str)) φ := by
  unfold inD
  refine ⟨.str t, l.map PyData.str, rfl, pdL_strs l, ?_, rfl, ?_⟩
  · rw [List.all_map]
    exact List.all_eq_true.mpr fun _ _ => rfl
  · rw [any_mem]; exact h
end Z
namespace Z
open PySem PySem.Spec PyProof.Rows L2

section
variable {X : Cx} {σ : L2.St} {H HZ : Hp} {s s1 : Shared} {l : Lam} {ps : List Str} {St : List Env}
end
section
variable {X : Cx} {σ : L2.St} {H G : Hp} {s : Shared} {l : Lam} {ps : List Str} {ns : List Int} {B : Bs} {r : En} {M : Sto} {k : Nat} {t : (XD → En → Sto → Prop) → DTE} {Ng : List Str} {qg : Str} {sg : Scope} {g : Addr} {cdg : Value} {Eg : XK} {CXg : CXT} {St : List Env}
end
end Z
namespace Z
open PySem PySem.Spec PyProof.Rows L2

section
variable {X : Cx} {B : Bs} {j k : Nat} {x : Str} {e : Expr} {ga : DTA} {p cpos pos : Pos}
end
end Z
namespace Z
open PySem PySem.Spec PyProof.Rows L2

section
variable {vs : List Nat} {wi : DTI} {as : D → En → (En → Prop) → Prop} {fe : DTE} {r : En} {M : Sto} {Φ : List D → Sto → Prop}
end
theorem RepL.rep {K : PySem.W.Frag} {G : Hp} {a : List D} {us : List V} (r : RepL K G a us) : ∀ n : Nat, RepL K G (List.replicate n a).flatten (List.replicate n us).flatten
  | 0 => .nil
  | n + 1 => by
    rw [List.replicate_succ, List.replicate_succ, List.flatten_cons, List.flatten_cons]
    exact r.app (r.rep n)
end Z
namespace Z
open PySem PySem.Spec PyProof.Rows L2

section
variable {X : Cx} {B : Bs} {o e a b c : Expr} {es : List Expr} {fo : DTE} {ga : DTA} {apos pos p : Pos}
theorem de_smN {id : String} {name : Str} {r : V → List V → Hp → VK → Prop} {g : Sto → D → List D → PD → Prop} (slot : Slot "str" name id) (ty : typeOf (.builtin id) = pure (.type "method_descriptor")) (rule : MtR X id r) (ok : OkM X.K r g) (ho : DE X B o fo) (ha : DA X B (e :: es) ga)
    (hbase : attributeBase o name X.env (eval o X.env) = eval o X.env := by rfl)
    (hfew : ((backTo pos (starEach (e :: es) X.env)).all (fun x => !x.1) && (backToKw pos (keywordEach [] X.env)).all (fun x => x.1.isSome)
      && decide ((e :: es).length + ([] : List Keyword).length + (if ([] : List Keyword).isEmpty then 0 else 1) < 30)) = true := by rfl)
    (hline : (apos.endLine == pos.line) = true := by rfl) (hs : starEach (e :: es) X.env = (false, eval e X.env) :: starEach es X.env := by rfl) (hplain : (backTo pos (starEach es X.env)).any (·.1) = false := by rfl) :
    DE X B (.Call (.Attribute o name apos) (e :: es) [] pos) (fun r M Ψ => fo r M fun x M1 => isS x ∧ ga r M1 fun ds M2 => g M2 x ds Ψ) :=
  PE_imp (pe_bm PySem.F.plainAttrs_str slot ty rule ho ha hbase hfew hline hs hplain) fun σ H Q ⟨r, M, G, Ψ, R, h, k⟩ => by
    refine ⟨r, M, G, _, R, h, fun x M1 v H1 G1 ⟨q1, q⟩ R1 s1 p1 => ⟨?_, r, M1, G1, _, R1, q, fun ds M2 us H2 G2 q2 R2 s2 p2 => ?_⟩⟩
    · cases p1 <;> first | exact rfl | exact q1.elim
    · exact ok M2 H2 G2 _ _ _ _ _ _ R2.wd (p1.mono s2) p2 q2 fun d M' w H' G' f w' s' p => k _ _ _ _ _ f (R2.go w' s') ((s1.tr s2).tr s'.gsub) p
def findD (M : Sto) (x : D) (ds : List D) (φ : PD) : Prop := match x, ds with
  | .str a, [.str b, .int i] => φ (.int (Txt.find3 a b i)) M
  | _, _ => False
theorem ok_find {K : PySem.W.Frag} : OkM K (fun x xs H Q => ∃ (a b : Str) (i : Int), x = .str a ∧ xs = [.str b, .int i] ∧ Q (.int (Txt.find3 a b i)) H) findD := fun M H G x v ds vs φ Q w r rs h k => by
  unfold findD at h
  split at h
  · cases r
    cases rs with
    | cons r1 rs =>
      cases rs with
      | cons r2 rs =>
        cases rs
        cases r1
        cases r2
        exact ⟨_, _, _, rfl, rfl, Post.id k w h .int⟩
  · exact h.elim
theorem de_find3 (ho : DE X B o fo) (ha : DA X B (e :: es) ga) (hbase : attributeBase o "find" X.env (eval o X.env) = eval o X.env := by rfl)
    (hfew : ((backTo pos (starEach (e :: es) X.env)).all (fun x => !x.1) && (backToKw pos (keywordEach [] X.env)).all (fun x => x.1.isSome)
      && decide ((e :: es).length + ([] : List Keyword).length + (if ([] : List Keyword).isEmpty then 0 else 1) < 30)) = true := by rfl)
    (hline : (apos.endLine == pos.line) = true := by rfl) (hs : starEach (e :: es) X.env = (false, eval e X.env) :: starEach es X.env := by rfl) (hplain : (backTo pos (starEach es X.env)).any (·.1) = false := by rfl) :
    DE X B (.Call (.Attribute o "find" apos) (e :: es) [] pos) (fun r M Ψ => fo r M fun x M1 => isS x ∧ ga r M1 fun ds M2 => findD M2 x ds Ψ) := de_smN PySem.F.slot_str_find PySem.F.type_str_find mt_find3 ok_find ho ha hbase hfew hline hs hplain
def rngC (lo c : Int) (n : Nat) : List D := (List.range n).map fun i => .int (lo + (i : Nat) * c)
theorem rngC_get {lo c : Int} {n i : Nat} (h : i < n) : (rngC lo c n)[i]? = some (.int (lo + i * c)) := by
  unfold rngC
  rw [List.getElem?_map, List.getElem?_range h]; rfl
theorem rngC_len {lo c : Int} {n : Nat} : (rngC lo c n).length = n := by unfold rngC; rw [List.length_map, List.length_range]
theorem yld_rngC {K : PySem.W.Frag} {G : Hp} {lo c : Int} {n : Nat} : Yld K B (Itc lo c n) G (rngC lo c n) (fun _ => True) := fun i r M σ H G R s _ => by
  rw [rngC_len]
  exact ⟨fun hi => ⟨hi, fun x H' ⟨e, ex⟩ => by subst e ex; exact ⟨G, _, Grow.refl R.wd.sub, rngC_get hi, .int⟩⟩, fun hi => hi⟩
theorem di_range3 {tg : Expr} (hm : X.mg "range" = none) (ha : DA X B [a, b, c] ga) (hg : Gl X "range" := by rfl)
    (hs : starEach [a, b, c] X.env = (false, eval a X.env) :: starEach [b, c] X.env := by rfl) (hpl : (backTo pos (starEach [b, c] X.env)).any (·.1) = false := by rfl) :
    DI X B tg (.Call (.Name "range" p) [a, b, c] [] pos) (fun r M Ψ => ga r M fun ds M1 => match ds with | [.int i, .int j, .int k] => ∃ n, RgC i j k n ∧ Ψ (rngC i k n) (fun _ => True) M1 | _ => False) := PI_imp (pi_range3 hg hm ha hs hpl) fun σ H Q ⟨r, M, G, Ψ, R, h, k⟩ => by
  refine ⟨r, M, G, _, R, h, fun ds M1 vs H1 G1 q R1 s1 p => ?_⟩
  split at q
  · obtain ⟨n, hn, q⟩ := q
    cases p with
    | cons p1 p2 => cases p2 with
      | cons p2 p3 => cases p3 with
        | cons p3 p4 =>
          cases p1; cases p2; cases p3; cases p4
          exact ⟨_, _, _, n, rfl, hn, k _ _ _ _ _ _ q R1 s1 yld_rngC⟩
  · exact q.elim
end
theorem find_spec (x y : Str) (lo : Nat) : (Txt.find3 x y lo = -1 ∧ ∀ i, lo ≤ i → ¬ StrLaws.At x y x.length i) ∨ ∃ i : Nat, lo ≤ i ∧ Txt.find3 x y lo = i ∧ StrLaws.At x y x.length i ∧ ∀ k, lo ≤ k → k < i → ¬ StrLaws.At x y x.length k := by
  have e0 : PySem.fromIndex x.length (lo : Int) = lo := by
    unfold PySem.fromIndex
    rw [if_neg (by omega)]
    omega
  unfold Txt.find3
  rw [e0, StrLaws.occ_eq]
  rcases StrLaws.occ_first x y x.length 1 (Nat.le_refl _) (List.range' lo (x.length + 1 - lo)) lo (fun i hi => (List.mem_range'_1.mp hi).1) with ⟨h0, hn⟩ | ⟨pre, a, post, e, h0, ha, hn⟩
  · refine .inl ⟨by rw [h0], fun i hi hA => hn i (List.mem_range'_1.mpr ⟨hi, ?_⟩) hA⟩
    have := hA.1
    omega
  · have hm : a ∈ List.range' lo (x.length + 1 - lo) := by rw [e]; simp
    refine .inr ⟨a, (List.mem_range'_1.mp hm).1, ?_, ha, fun k h1 h2 => hn k ?_⟩
    · generalize (forIn (List.range' lo (x.length + 1 - lo)) ((#[] : Array Nat), lo) (StrLaws.occBody x y x.length 1)).run.fst = arr at h0
      have h1 : arr.toList[0]? = some a := by simpa using h0
      cases hL : arr.toList with
      | nil => rw [hL] at h1; cases h1
      | cons z r => rw [hL] at h1; simp at h1; subst h1; rfl
    · have hk : k ∈ List.range' lo (x.length + 1 - lo) := List.mem_range'_1.mpr ⟨h1, by have := (List.mem_range'_1.mp hm).2; omega⟩
      rw [e] at hk
      rcases List.mem_append.mp hk with z | z
      · exact z
      · exfalso
        have srt : (List.range' lo (x.length + 1 - lo)).Pairwise (· < ·) := List.pairwise_lt_range'
        rw [e] at srt
        have := (List.pairwise_append.mp srt).2.1
        rcases List.mem_cons.mp z with q | q
        · omega
        · have := (List.pairwise_cons.mp this).1 k q
          omega
end Z
namespace Z
open PySem PySem.Spec PyProof.Rows L2

def cyc (l : List Nat) (i : Nat) : Nat := l.getD (i % l.length) 0
def PerF (f : Nat → Nat) (k : Nat) : Prop := ∀ i, f (i + k) = f i
theorem PerF.mul {f : Nat → Nat} {k : Nat} (h : PerF f k) (q i : Nat) : f (i + k * q) = f i := by
  induction q with
  | zero => rfl
  | succ q ih => rw [Nat.mul_succ, ← Nat.add_assoc, h, ih]
theorem PerF.sub {f : Nat → Nat} {a b : Nat} (ha : PerF f a) (hb : PerF f b) : PerF f (b % a) := fun i => by
  have := ha.mul (b / a) (i + b % a)
  rw [Nat.add_assoc, Nat.mod_add_div, hb] at this
  exact this.symm
theorem PerF.gcd {f : Nat → Nat} (a b : Nat) : PerF f a → PerF f b → PerF f (Nat.gcd a b) := by
  induction a, b using Nat.gcd.induction with
  | H0 n => intro _ hb; rw [Nat.gcd_zero_left]; exact hb
  | H1 m n hm ih =>
    intro ha hb
    rw [Nat.gcd_rec]
    exact ih (ha.sub hb) ha
theorem cyc_len {l : List Nat} : PerF (cyc l) l.length := fun i => by unfold cyc; rw [Nat.add_mod_right]
theorem cyc_lt {l : List Nat} {i : Nat} (h : i < l.length) : cyc l i = l.getD i 0 := by unfold cyc; rw [Nat.mod_eq_of_lt h]
def rotL (k : Nat) (l : List Nat) : List Nat := l.drop k ++ l.take k
theorem rotL_len {k : Nat} {l : List Nat} (h : k ≤ l.length) : (rotL k l).length = l.length := by unfold rotL; rw [List.length_append, List.length_drop, List.length_take]; omega
theorem getD_append {a b : List Nat} {i : Nat} : (a ++ b).getD i 0 = if i < a.length then a.getD i 0 else b.getD (i - a.length) 0 := by
  simp only [List.getD_eq_getElem?_getD]
  split
  · rename_i h
    rw [List.getElem?_append_left h]
  · rename_i h
    rw [List.getElem?_append_right (by omega)]
theorem getD_drop {a : List Nat} {k i : Nat} : (a.drop k).getD i 0 = a.getD (k + i) 0 := by simp only [List.getD_eq_getElem?_getD, List.getElem?_drop]
theorem getD_take {a : List Nat} {k i : Nat} (h : i < k) : (a.take k).getD i 0 = a.getD i 0 := by simp only [List.getD_eq_getElem?_getD, List.getElem?_take, if_pos h]
theorem cyc_rot {l : List Nat} {k : Nat} (h0 : 0 < l.length) (h : k ≤ l.length) (i : Nat) : cyc (rotL k l) i = cyc l (i + k) := by
  have hi : i % l.length < l.length := Nat.mod_lt _ h0
  have e : cyc (rotL k l) i = (rotL k l).getD (i % l.length) 0 := by unfold cyc; rw [rotL_len h]
  have e2 : cyc l (i + k) = cyc l (i % l.length + k) := by
    unfold cyc
    rw [Nat.mod_add_mod]
  rw [e, e2]
  generalize i % l.length = j at hi
  unfold rotL
  rw [getD_append, List.length_drop]
  split
  · rename_i h1
    rw [getD_drop, Nat.add_comm k j, cyc_lt (by omega)]
  · rename_i h1
    have e3 : j + k = (j - (l.length - k)) + l.length := by omega
    rw [e3, cyc_len, cyc_lt (by omega), getD_take (by omega)]
theorem list_ext {a b : List Nat} (hl : a.length = b.length) (h : ∀ i, i < a.length → a.getD i 0 = b.getD i 0) : a = b := by
  apply List.ext_getElem hl
  intro i h1 h2
  have := h i h1
  simp only [List.getD_eq_getElem?_getD, List.getElem?_eq_getElem h1, List.getElem?_eq_getElem h2, Option.getD_some] at this
  exact this
theorem rot_per {l : List Nat} {k : Nat} (h0 : 0 < l.length) (h : k ≤ l.length) : rotL k l = l ↔ PerF (cyc l) k := by
  constructor
  · intro e i
    rw [← cyc_rot h0 h, e]
  · intro p
    refine list_ext (rotL_len h) fun i hi => ?_
    rw [rotL_len h] at hi
    rw [← cyc_lt (l := rotL k l) (by rw [rotL_len h]; exact hi), cyc_rot h0 h, p, cyc_lt hi]
theorem per_shift {l : List Nat} {c k : Nat} (h0 : 0 < l.length) (h : PerF (fun i => cyc l (i + c)) k) : PerF (cyc l) k := fun i => by
  have h1 := h (i + (l.length * c - c))
  have hc : c ≤ l.length * c := Nat.le_mul_of_pos_left c h0
  have e : i + (l.length * c - c) + c = i + l.length * c := by omega
  have e2 : i + (l.length * c - c) + k + c = i + k + l.length * c := by omega
  simp only [e, e2] at h1
  rw [cyc_len.mul, cyc_len.mul] at h1
  exact h1
theorem ex_least {p : Nat → Prop} : ∀ n, p n → ∃ k, p k ∧ ∀ j, j < k → ¬ p j := fun n => by
  induction n using Nat.strongRecOn with
  | ind n ih =>
    intro h
    by_cases c : ∃ j, j < n ∧ p j
    · obtain ⟨j, hj, hp⟩ := c
      exact ih j hj hp
    · exact ⟨n, h, fun j hj hp => c ⟨j, hj, hp⟩⟩
def PrimR (r : List Nat) : Prop := r ≠ [] ∧ ∀ k, 0 < k → k < r.length → ¬ PerF (cyc r) k
theorem PrimR.pos {r : List Nat} (h : PrimR r) : 0 < r.length := List.length_pos_iff.mpr h.1
theorem PrimR.dvd {r : List Nat} {k : Nat} (h : PrimR r) (p : PerF (cyc r) k) : r.length ∣ k := by
  have g := PerF.gcd r.length k cyc_len p
  have hg : Nat.gcd r.length k ∣ r.length := Nat.gcd_dvd_left _ _
  have h1 : 0 < Nat.gcd r.length k := Nat.gcd_pos_of_pos_left _ h.pos
  have h2 : Nat.gcd r.length k = r.length := by
    have := Nat.le_of_dvd h.pos hg
    rcases Nat.lt_or_ge (Nat.gcd r.length k) r.length with z | z
    · exact absurd g (h.2 _ h1 z)
    · omega
  rw [← h2]
  exact Nat.gcd_dvd_right _ _
theorem PrimR.rot {r : List Nat} {c : Nat} (h : PrimR r) (hc : c ≤ r.length) : PrimR (rotL c r) := by
  refine ⟨fun e => ?_, fun k h1 h2 p => ?_⟩
  · have := rotL_len hc
    rw [e] at this
    have := h.pos
    simp at *
    omega
  · rw [rotL_len hc] at h2
    refine h.2 k h1 h2 (per_shift (c := c) h.pos fun i => ?_)
    have := p i
    rw [cyc_rot h.pos hc, cyc_rot h.pos hc] at this
    exact this
def sq (a r : List Nat) (i : Nat) : Nat := if i < a.length then a.getD i 0 else cyc r (i - a.length)
structure NR (a r : List Nat) : Prop where
  prim : PrimR r
  last : a = [] ∨ a.getD (a.length - 1) 0 ≠ cyc r (r.length - 1)
structure NfR (a r a' r' : List Nat) : Prop where
  nr : NR a' r'
  sq : ∀ i, sq a' r' i = sq a r i
theorem sq_ge {a r : List Nat} {i : Nat} : sq a r (a.length + i) = cyc r i := by unfold sq; rw [if_neg (by omega), Nat.add_sub_cancel_left]
theorem nr_dvd {a r b s : List Nat} (h : NR a r) (h' : NR b s) (e : ∀ i, sq a r i = sq b s i) : r.length ∣ s.length := by
  refine h.prim.dvd (per_shift (c := b.length) h.prim.pos fun i => ?_)
  have f : ∀ i, cyc r (i + b.length) = cyc s (i + a.length) := fun i => by
    have h1 := e (a.length + (i + b.length))
    rw [sq_ge, show a.length + (i + b.length) = b.length + (i + a.length) by omega, sq_ge] at h1
    exact h1
  show cyc r (i + s.length + b.length) = cyc r (i + b.length)
  rw [f, f, show i + s.length + a.length = i + a.length + s.length by omega, cyc_len]
theorem nr_le {a r b s : List Nat} (h : NR a r) (h' : NR b s) (e : ∀ i, sq a r i = sq b s i) (hl : r.length = s.length) : b.length ≤ a.length := by
  refine Nat.le_of_not_lt fun lt => ?_
  rcases h'.last with z | z
  · rw [z] at lt; simp at lt
  · apply z
    have h1 := e (b.length - 1)
    have h2 := e (b.length + (s.length - 1))
    rw [sq_ge] at h2
    have hp := h'.prim.pos
    have e1 : sq b s (b.length - 1) = b.getD (b.length - 1) 0 := by unfold sq; rw [if_pos (by omega)]
    rw [← e1, ← h1, ← h2]
    have e2 : b.length - 1 = a.length + (b.length - 1 - a.length) := by omega
    have e3 : b.length + (s.length - 1) = a.length + (b.length - 1 - a.length + r.length) := by omega
    rw [e2, e3, sq_ge, sq_ge, cyc_len]
theorem nr_uniq {a r b s : List Nat} (h : NR a r) (h' : NR b s) (e : ∀ i, sq a r i = sq b s i) : a = b ∧ r = s := by
  have hl : r.length = s.length := Nat.dvd_antisymm (nr_dvd h h' e) (nr_dvd h' h fun i => (e i).symm)
  have ha : a.length = b.length := Nat.le_antisymm (nr_le h' h (fun i => (e i).symm) hl.symm) (nr_le h h' e hl)
  refine ⟨list_ext ha fun i hi => ?_, list_ext hl fun i hi => ?_⟩
  · have := e i
    unfold sq at this
    rw [if_pos hi, if_pos (by omega)] at this
    exact this
  · have := e (a.length + i)
    rw [sq_ge, ha, sq_ge, cyc_lt hi, cyc_lt (by omega)] at this
    exact this
theorem NfR.self {a r : List Nat} (h : NR a r) : NfR a r a r := ⟨h, fun _ => rfl⟩
end Z
namespace Z
open PySem PySem.Spec PyProof.Rows L2

theorem wlen {w : List Nat} : (⟨w.toArray⟩ : Str).length = w.length := List.size_toArray
theorem wapp {a b : List Nat} : (⟨a.toArray⟩ : Str) ++ ⟨b.toArray⟩ = ⟨(a ++ b).toArray⟩ := by
  show (⟨_ ++ _⟩ : Str) = _
  simp
theorem weq {a b : List Nat} : (⟨a.toArray⟩ : Str) = ⟨b.toArray⟩ ↔ a = b := ⟨fun h => by
  have : a.toArray = b.toArray := congrArg Str.cps h
  simpa using this, fun h => by rw [h]⟩
theorem cut_take {w : List Nat} {k : Nat} : cutS ⟨w.toArray⟩ none (some (k : Int)) = ⟨(w.take k).toArray⟩ := by
  unfold cutS
  rw [HT.sIx_nat, HT.sIx_none, wlen]
  simp only [List.drop_zero, Nat.sub_zero, List.take_eq_take_iff.mpr]
  congr 2
  rcases Nat.le_total k w.length with h | h
  · rw [Nat.min_eq_left h]
  · rw [Nat.min_eq_right h, List.take_of_length_le (Nat.le_refl _), List.take_of_length_le h]
theorem cut_drop {w : List Nat} {k : Nat} : cutS ⟨w.toArray⟩ (some (k : Int)) none = ⟨(w.drop k).toArray⟩ := by
  unfold cutS
  rw [HT.sIx_nat, HT.sIx_none, wlen]
  congr 2
  rcases Nat.le_total k w.length with h | h
  · rw [Nat.min_eq_left h]
    exact List.take_of_length_le (by simp)
  · rw [Nat.min_eq_right h, List.drop_of_length_le (Nat.le_refl _), List.drop_of_length_le h, List.take_nil]
theorem cut_last {w : List Nat} : cutS ⟨w.toArray⟩ none (some (-1)) = ⟨(w.take (w.length - 1)).toArray⟩ := by
  unfold cutS
  rw [HT.sIx_none, wlen]
  have : HT.sIx w.length w.length (some (-1)) = w.length - 1 := by
    show (if (-1 : Int) < 0 then ((-1 : Int) + (w.length : Int)).toNat else min (-1 : Int).toNat w.length) = _
    rw [if_pos (by decide)]
    omega
  rw [this]
  simp [HT.sIx_none]
theorem at_neg {w : List Nat} {i : Nat} (h : i < w.length) : L2.atI w (-1 - (i : Int)) = some (w.getD (w.length - 1 - i) 0) := by
  unfold L2.atI L2.ixN
  rw [if_neg (by omega), if_pos (by omega)]
  have : (-1 - (i : Int) + (w.length : Int)).toNat = w.length - 1 - i := by omega
  show w[_]? = _
  have h2 : w.length - 1 - i < w.length := by omega
  rw [this, List.getD_eq_getElem?_getD, List.getElem?_eq_getElem h2, Option.getD_some]
theorem mul_word {w : List Nat} {k : Nat} : Txt.mul ⟨w.toArray⟩ (k : Int) = ⟨(List.replicate k w).flatten.toArray⟩ := by
  unfold Txt.mul
  by_cases h : (k : Int) < 1
  · rw [if_pos h]
    have : k = 0 := by omega
    subst this; rfl
  · rw [if_neg h]
    by_cases h1 : k = 1 ∨ w = []
    · rw [if_pos (by rcases h1 with e | e <;> subst e <;> simp [Str.length])]
      rcases h1 with e | e
      · subst e
        simp
      · subst e
        simp
    · have h2 : ¬ k = 1 ∧ ¬ w = [] := ⟨fun z => h1 (.inl z), fun z => h1 (.inr z)⟩
      rw [if_neg (by simp [Str.length]; exact ⟨by omega, h2.2⟩)]
      have e := fold_rep w.toArray k #[]
      simp only [Int.toNat_natCast]
      generalize hz : (List.replicate k w.toArray).foldl (· ++ ·) #[] = z at e ⊢
      have e2 : z.toList = (List.replicate k w).flatten := by rw [e]; simp
      rw [← e2]
theorem cyc_take {r : List Nat} {k : Nat} (h0 : 0 < k) (hk : k ≤ r.length) (p : PerF (cyc r) k) (i : Nat) : cyc (r.take k) i = cyc r i := by
  have hl : (r.take k).length = k := by rw [List.length_take]; omega
  have hm : i % k < k := Nat.mod_lt _ h0
  have e1 : cyc (r.take k) i = r.getD (i % k) 0 := by
    unfold cyc
    rw [hl, getD_take hm]
  have e2 := p.mul (i / k) (i % k)
  rw [Nat.mod_add_div] at e2
  rw [e1, e2, cyc_lt (by omega)]
theorem flat_len {l : List Nat} : ∀ q, (List.replicate q l).flatten.length = q * l.length := fun q => by
  rw [List.length_flatten, List.map_replicate, List.sum_replicate_nat]
theorem flat_get {l : List Nat} : ∀ (q i : Nat), i < q * l.length → (List.replicate q l).flatten.getD i 0 = l.getD (i % l.length) 0
  | 0, i, h => by omega
  | q + 1, i, h => by
    rw [List.replicate_succ, List.flatten_cons, getD_append]
    split
    · rename_i h1
      rw [Nat.mod_eq_of_lt h1]
    · rename_i h1
      rw [Nat.succ_mul] at h
      rw [flat_get q _ (by omega), Nat.mod_eq_sub_mod (a := i) (by omega)]
theorem flat_cyc {l : List Nat} {q : Nat} (hq : 0 < q) (hl : l ≠ []) (i : Nat) : cyc (List.replicate q l).flatten i = cyc l i := by
  have h0 : 0 < l.length := List.length_pos_iff.mpr hl
  have h1 : 0 < q * l.length := Nat.mul_pos hq h0
  unfold cyc
  rw [flat_len, flat_get _ _ (Nat.mod_lt _ h1), Nat.mod_mod_of_dvd _ (Nat.dvd_mul_left _ _)]
theorem flat_iff {r : List Nat} {k : Nat} (h0 : 0 < k) (hd : k ∣ r.length) (hr : r ≠ []) : (List.replicate (r.length / k) (r.take k)).flatten = r ↔ PerF (cyc r) k := by
  have hn : 0 < r.length := List.length_pos_iff.mpr hr
  have hk : k ≤ r.length := Nat.le_of_dvd hn hd
  have hl : (r.take k).length = k := by rw [List.length_take]; omega
  have hq : 0 < r.length / k := Nat.div_pos hk h0
  have ne : r.take k ≠ [] := fun z => by rw [z] at hl; simp at hl; omega
  constructor
  · intro e i
    have f := flat_cyc (l := r.take k) hq ne
    rw [e] at f
    rw [f, f]
    have := cyc_len (l := r.take k) i
    rw [hl] at this
    exact this
  · intro p
    refine list_ext (by rw [flat_len, hl, Nat.div_mul_cancel hd]) fun i hi => ?_
    rw [flat_len] at hi
    rw [flat_get _ _ hi]
    have := cyc_take h0 hk p i
    unfold cyc at this
    rw [this, Nat.mod_eq_of_lt (by rw [hl, Nat.div_mul_cancel hd] at hi; exact hi)]
theorem prim_take {r : List Nat} {k : Nat} (h0 : 0 < k) (hk : k ≤ r.length) (p : PerF (cyc r) k) (hm : ∀ j, 0 < j → j < k → ¬ PerF (cyc r) j) : PrimR (r.take k) := by
  have hl : (r.take k).length = k := by rw [List.length_take]; omega
  refine ⟨fun z => by rw [z] at hl; simp at hl; omega, fun j j0 j1 q => ?_⟩
  rw [hl] at j1
  refine hm j j0 j1 fun i => ?_
  have := q i
  rw [cyc_take h0 hk p, cyc_take h0 hk p] at this
  exact this
theorem at_rot {r : List Nat} {k : Nat} : StrLaws.At (⟨(r ++ r).toArray⟩ : Str) ⟨r.toArray⟩ (⟨(r ++ r).toArray⟩ : Str).length k ↔ k ≤ r.length ∧ rotL k r = r := by
  unfold StrLaws.At
  rw [StrLaws.subAt_eq, wlen, wlen, List.length_append]
  have h1 : k + r.length ≤ r.length + r.length ↔ k ≤ r.length := by omega
  rw [h1]
  refine and_congr_right fun hk => ?_
  have e : ((r ++ r).drop k).take r.length = rotL k r := by
    unfold rotL
    rw [List.drop_append_of_le_length hk, List.take_append, List.length_drop, List.take_of_length_le (by rw [List.length_drop]; omega)]
    congr 1
    congr 1
    omega
  simp only [e, beq_iff_eq]
theorem least_find {r : List Nat} (hr : r ≠ []) : ∃ k : Nat, 0 < k ∧ k ≤ r.length ∧ Txt.find3 ⟨(r ++ r).toArray⟩ ⟨r.toArray⟩ 1 = k ∧ PrimR (r.take k) ∧ ∀ i, cyc (r.take k) i = cyc r i := by
  have hn : 0 < r.length := List.length_pos_iff.mpr hr
  rcases find_spec ⟨(r ++ r).toArray⟩ ⟨r.toArray⟩ 1 with ⟨_, hno⟩ | ⟨k, k1, e, hA, hm⟩
  · exfalso
    exact hno r.length hn (at_rot.mpr ⟨Nat.le_refl _, (rot_per hn (Nat.le_refl _)).mpr cyc_len⟩)
  · obtain ⟨hk, hrot⟩ := at_rot.mp hA
    have p := (rot_per hn hk).mp hrot
    exact ⟨k, k1, hk, e, prim_take k1 hk p fun j j0 j1 q => hm j j0 j1 (at_rot.mpr ⟨by omega, (rot_per hn (by omega)).mpr q⟩), cyc_take k1 hk p⟩
end Z
namespace Z
open PySem PySem.Spec PyProof.Rows L2

theorem sq_rot {a l : List Nat} {j : Nat} (h0 : 0 < l.length) (hj : j ≤ a.length) (hm : ∀ u, u < j → a.getD (a.length - 1 - u) 0 = l.getD (l.length - 1 - u % l.length) 0) (i : Nat) : sq (a.take (a.length - j)) (rotL (l.length - j % l.length) l) i = sq a l i := by
  have hl : (a.take (a.length - j)).length = a.length - j := by rw [List.length_take]; omega
  unfold sq
  rw [hl]
  by_cases h1 : i < a.length - j
  · rw [if_pos h1, if_pos (by omega), getD_take h1]
  · rw [if_neg h1, cyc_rot h0 (Nat.sub_le _ _)]
    have hjm : j % l.length < l.length := Nat.mod_lt _ h0
    have ej := Nat.mod_add_div j l.length
    by_cases h2 : i < a.length
    · rw [if_pos h2]
      have hu := hm (a.length - 1 - i) (by omega)
      rw [show a.length - 1 - (a.length - 1 - i) = i by omega] at hu
      rw [hu]
      have hum : (a.length - 1 - i) % l.length < l.length := Nat.mod_lt _ h0
      have eu := Nat.mod_add_div (a.length - 1 - i) l.length
      have e1 := PerF.mul (cyc_len (l := l)) ((a.length - 1 - i) / l.length) (i - (a.length - j) + (l.length - j % l.length))
      have e2 := PerF.mul (cyc_len (l := l)) (j / l.length) (l.length - 1 - (a.length - 1 - i) % l.length)
      have e3 : i - (a.length - j) + (l.length - j % l.length) + l.length * ((a.length - 1 - i) / l.length) = (l.length - 1 - (a.length - 1 - i) % l.length) + l.length * (j / l.length) := by
        generalize l.length * (j / l.length) = A at *
        generalize l.length * ((a.length - 1 - i) / l.length) = Bq at *
        omega
      rw [← e1, e3, e2, cyc_lt (by omega)]
    · rw [if_neg h2]
      have e1 := PerF.mul (cyc_len (l := l)) (j / l.length) (i - a.length)
      have e3 : i - (a.length - j) + (l.length - j % l.length) = i - a.length + l.length * (j / l.length) + l.length := by
        generalize l.length * (j / l.length) = A at *
        omega
      rw [e3, cyc_len, e1]
theorem row_nf {a l : List Nat} {j : Nat} (hp : PrimR l) (hj : j ≤ a.length) (hm : ∀ u, u < j → a.getD (a.length - 1 - u) 0 = l.getD (l.length - 1 - u % l.length) 0) (he : j = a.length ∨ a.getD (a.length - 1 - j) 0 ≠ l.getD (l.length - 1 - j % l.length) 0) :
    NfR a l (a.take (a.length - j)) (rotL (l.length - j % l.length) l) := by
  have h0 := hp.pos
  have hc : l.length - j % l.length ≤ l.length := Nat.sub_le _ _
  refine ⟨⟨hp.rot hc, ?_⟩, sq_rot h0 hj hm⟩
  rcases he with e | e
  · refine .inl ?_
    rw [e, Nat.sub_self, List.take_zero]
  · by_cases hl : j = a.length
    · refine .inl ?_
      rw [hl, Nat.sub_self, List.take_zero]
    · refine .inr ?_
      have hjm : j % l.length < l.length := Nat.mod_lt _ h0
      have e1 : (a.take (a.length - j)).length = a.length - j := by rw [List.length_take]; omega
      rw [e1, getD_take (by omega), show a.length - j - 1 = a.length - 1 - j by omega, rotL_len hc, cyc_rot h0 hc, show l.length - 1 + (l.length - j % l.length) = l.length - 1 - j % l.length + l.length by omega, cyc_len, cyc_lt (by omega)]
      exact e
theorem NfR.ring {a r l x y : List Nat} (h : NfR a l x y) (e : ∀ i, cyc l i = cyc r i) : NfR a r x y := ⟨h.nr, fun i => by
  rw [h.sq]
  unfold Z.sq
  split
  · rfl
  · exact e _⟩
theorem sq_step {a r : List Nat} (h0 : 0 < r.length) (ha : 0 < a.length) (e : a.getD (a.length - 1) 0 = r.getD (r.length - 1) 0) (i : Nat) : sq (a.take (a.length - 1)) (rotL (r.length - 1) r) i = sq a r i := by
  have h1 := sq_rot (a := a) (l := r) (j := 1) h0 ha (fun u hu => by
    have : u = 0 := by omega
    subst this
    rw [Nat.zero_mod]
    exact e) i
  by_cases c : r.length = 1
  · rw [c] at h1 ⊢
    have : rotL (1 - 1 % 1) r = rotL (1 - 1) r := by
      unfold rotL
      show r.drop 1 ++ r.take 1 = r.drop 0 ++ r.take 0
      rw [List.drop_of_length_le (by omega), List.take_of_length_le (by omega)]
      simp
    rw [this] at h1
    exact h1
  · rw [Nat.mod_eq_of_lt (by omega : 1 < r.length)] at h1
    exact h1
theorem drop_last {r : List Nat} (h0 : 0 < r.length) : r.drop (r.length - 1) = [r.getD (r.length - 1) 0] := by
  rw [List.drop_eq_getElem_cons (by omega), List.drop_of_length_le (by omega), List.getD_eq_getElem?_getD, List.getElem?_eq_getElem (by omega)]
  rfl
theorem rot_last {r : List Nat} (h0 : 0 < r.length) : [r.getD (r.length - 1) 0] ++ r.take (r.length - 1) = rotL (r.length - 1) r := by
  unfold rotL
  rw [drop_last h0]
end Z
namespace Z
open PySem PySem.Spec PyProof.Rows L2

section
variable {M : Sto} {w u : List Nat} {φ : D → Prop} {Φ : PD}
theorem w_sz (h : w.length ≤ 400000) : (⟨w.toArray⟩ : Str).length ≤ sizeLine := sz_le (n := 400000) (by rw [wlen]; exact h) (by decide)
theorem len_w (h : w.length ≤ 400000) (q : Φ (.int w.length) M) : lenD M [.str ⟨w.toArray⟩] Φ := by
  refine ⟨w_sz h, ?_⟩
  rw [wlen]
  exact q
theorem ix_neg {i : Nat} (h : w.length ≤ 400000) (hi : i < w.length) (q : φ (.str ⟨#[w.getD (w.length - 1 - i) 0]⟩)) : ixD M (.str ⟨w.toArray⟩) (.int (-1 - (i : Int))) φ := by
  refine ⟨w_sz h, ?_⟩
  show optK (L2.atI w.toArray.toList (-1 - (i : Int))) _
  rw [List.toList_toArray, at_neg hi]
  exact q
theorem ix_last (h : w.length ≤ 400000) (hi : 0 < w.length) (q : φ (.str ⟨#[w.getD (w.length - 1) 0]⟩)) : ixD M (.str ⟨w.toArray⟩) (.int (-1)) φ := ix_neg (i := 0) h hi q
theorem sl_take {k : Nat} (h : w.length ≤ 400000) (q : φ (.str ⟨(w.take k).toArray⟩)) : slD M (.str ⟨w.toArray⟩) none (some (k : Int)) φ := by
  refine ⟨w_sz h, ?_⟩
  rw [cut_take]
  exact q
theorem sl_drop {k : Nat} (h : w.length ≤ 400000) (q : φ (.str ⟨(w.drop k).toArray⟩)) : slD M (.str ⟨w.toArray⟩) (some (k : Int)) none φ := by
  refine ⟨w_sz h, ?_⟩
  rw [cut_drop]
  exact q
theorem sl_last (h : w.length ≤ 400000) (q : φ (.str ⟨(w.take (w.length - 1)).toArray⟩)) : slD M (.str ⟨w.toArray⟩) none (some (-1)) φ := by
  refine ⟨w_sz h, ?_⟩
  rw [cut_last]
  exact q
theorem add_w (h : w.length ≤ 400000) (h' : u.length ≤ 400000) (q : φ (.str ⟨(w ++ u).toArray⟩)) : addD M (.str ⟨w.toArray⟩) (.str ⟨u.toArray⟩) φ := by
  refine ⟨sz2 (n := 400000) (m := 400000) (by rw [wlen]; exact h) (by rw [wlen]; exact h') (by decide), ?_⟩
  rw [wapp]
  exact q
theorem one_w {c : Nat} : (⟨#[c]⟩ : Str) = ⟨[c].toArray⟩ := rfl
theorem mul_w {k : Nat} (hk : k ≤ 400000) (h : w.length * k ≤ 400000) (h' : w.length ≤ 400000) (q : φ (.str ⟨(List.replicate k w).flatten.toArray⟩)) : mulSD M (.str ⟨w.toArray⟩) (.int (k : Int)) φ := by
  refine ⟨⟨?_, fun h1 h2 => ?_, fun h1 h2 => ?_⟩, ?_⟩
  · rw [Bool.or_eq_false_iff]
    exact ⟨decide_eq_false (by omega), decide_eq_false (by omega)⟩
  · rw [wlen]
    have : (w.length : Int) ≤ (2 ^ 63 - 1) / (k : Int) := (Int.le_ediv_iff_mul_le (by omega)).mpr (by
      have : ((w.length * k : Nat) : Int) ≤ 400000 := by omega
      rw [Int.natCast_mul] at this
      omega)
    omega
  · rw [wlen, Int.toNat_natCast]
    show decide (w.length * k > sizeLine) = false
    refine decide_eq_false ?_
    have := big_ok
    omega
  · rw [mul_word]
    exact q
theorem fdiv_n {a n : Nat} (h : 0 < n) (hn : n ≤ 400000) (q : φ (.int ((a / n : Nat) : Int))) : fdivD M (.int (a : Int)) (.int (n : Int)) φ := by
  refine ⟨dok_s (by omega) (by omega), ?_⟩
  rw [show (a : Int).fdiv (n : Int) = ((a / n : Nat) : Int) from by rw [Int.fdiv_eq_ediv_of_nonneg _ (by omega)]; rfl]
  exact q
theorem mul_n {a b : Nat} (ha : a ≤ 400000) (hb : b ≤ 400000) (q : φ (.int ((a * b : Nat) : Int))) : mulD M (.int (a : Int)) (.int (b : Int)) φ := by
  refine ⟨mok_of (a := 40) (b := 40) (by omega) (by omega) (by decide) (by decide) (by decide), ?_⟩
  rw [← Int.natCast_mul]
  exact q
theorem eq_n {a b : Nat} (q : φ (.bl (decide (a = b)))) : eqD M (.int (a : Int)) (.int (b : Int)) φ := eqI (by rw [show decide ((a : Int) = (b : Int)) = decide (a = b) from decide_eq_decide.mpr (by omega)]; exact q)
theorem ne_emp {s : List Nat} (q : φ (.bl (!decide (s = [])))) : neD M (.str ⟨s.toArray⟩) (.str "") φ := by
  refine neS ?_
  rw [show decide ((⟨s.toArray⟩ : Str) = "") = decide (s = []) from decide_eq_decide.mpr (weq (b := []))]
  exact q
def lenN (r : En) (i : Nat) : Nat := match r[i]? with
  | some (some (.str z)) => z.length
  | _ => 0
theorem inKI {i : Int} {ψ : Int → Prop} (q : ψ i) : inK (.int i) ψ := q
theorem subI {i j : Int} (q : φ (.int (i - j))) : subD M (.int i) (.int j) φ := q
theorem sub_n {a b : Nat} (h : b ≤ a) (q : φ (.int ((a - b : Nat) : Int))) : subD M (.int (a : Int)) (.int (b : Int)) φ := by
  show φ (.int ((a : Int) - (b : Int)))
  rw [show (a : Int) - (b : Int) = ((a - b : Nat) : Int) by omega]
  exact q
theorem fmod_n {a n : Nat} (h : 0 < n) (q : φ (.int ((a % n : Nat) : Int))) : fmodD M (.int (a : Int)) (.int (n : Int)) φ := by
  refine ⟨by omega, ?_⟩
  rw [show (a : Int).fmod (n : Int) = ((a % n : Nat) : Int) from by rw [Int.fmod_eq_emod_of_nonneg _ (by omega)]; rfl]
  exact q
theorem eq_w {s : List Nat} {t : List Nat} (q : φ (.bl (decide (s = t)))) : eqD M (.str ⟨s.toArray⟩) (.str ⟨t.toArray⟩) φ := eqS (by rw [show decide ((⟨s.toArray⟩ : Str) = ⟨t.toArray⟩) = decide (s = t) from decide_eq_decide.mpr weq]; exact q)
theorem eq_c {s t : Nat} (q : φ (.bl (decide (s = t)))) : eqD M (.str ⟨#[s]⟩) (.str ⟨#[t]⟩) φ := eqS (by rw [show decide ((⟨#[s]⟩ : Str) = ⟨#[t]⟩) = decide (s = t) from decide_eq_decide.mpr ch_eq]; exact q)
end
theorem PerF.least {f : Nat → Nat} {m k : Nat} (m0 : 0 < m) (pm : PerF f m) (hm : ∀ j, j < m → ¬ (0 < j ∧ PerF f j)) (p : PerF f k) : m ∣ k := by
  have g := PerF.gcd m k pm p
  have h1 : 0 < Nat.gcd m k := Nat.gcd_pos_of_pos_left _ m0
  have h2 : Nat.gcd m k = m := by
    have := Nat.le_of_dvd m0 (Nat.gcd_dvd_left m k)
    rcases Nat.lt_or_ge (Nat.gcd m k) m with z | z
    · exact absurd ⟨h1, g⟩ (hm _ z)
    · omega
  rw [← h2]
  exact Nat.gcd_dvd_right _ _
theorem per_congr {f g : Nat → Nat} {k : Nat} (e : ∀ i, f i = g i) (p : PerF f k) : PerF g k := fun i => by rw [← e, ← e]; exact p i
theorem LR.take {w : List Nat} (h : LR w) (k : Nat) : LR (w.take k) := fun c hc => h c (List.mem_of_mem_take hc)
theorem LR.drop {w : List Nat} (h : LR w) (k : Nat) : LR (w.drop k) := fun c hc => h c (List.mem_of_mem_drop hc)
theorem LR.app {w u : List Nat} (h : LR w) (h' : LR u) : LR (w ++ u) := fun c hc => (List.mem_append.mp hc).elim (h c) (h' c)
theorem LR.rot {w : List Nat} (h : LR w) (k : Nat) : LR (rotL k w) := (h.drop k).app (h.take k)
theorem lr_get {w : List Nat} (h : LR w) {i : Nat} (hi : i < w.length) : w.getD i 0 = 76 ∨ w.getD i 0 = 82 := by
  rw [List.getD_eq_getElem?_getD, List.getElem?_eq_getElem hi]
  exact h _ (List.getElem_mem hi)
theorem sq_lr {a r : List Nat} (ha : LR a) (hr : LR r) (h0 : 0 < r.length) (i : Nat) : sq a r i = 76 ∨ sq a r i = 82 := by
  unfold sq
  split
  · rename_i h
    exact lr_get ha h
  · unfold cyc
    exact lr_get hr (Nat.mod_lt _ h0)
theorem NfR.lr {a r x y : List Nat} (h : NfR a r x y) (ha : LR a) (hr : LR r) (h0 : 0 < r.length) : LR x ∧ LR y := by
  refine ⟨fun c hc => ?_, fun c hc => ?_⟩
  · obtain ⟨i, hi, e⟩ := List.getElem_of_mem hc
    have := sq_lr ha hr h0 i
    rw [← h.sq] at this
    unfold Z.sq at this
    rw [if_pos hi, List.getD_eq_getElem?_getD, List.getElem?_eq_getElem hi, Option.getD_some, e] at this
    exact this
  · obtain ⟨i, hi, e⟩ := List.getElem_of_mem hc
    have := sq_lr ha hr h0 (x.length + i)
    rw [← h.sq, sq_ge, cyc_lt hi, List.getD_eq_getElem?_getD, List.getElem?_eq_getElem hi, Option.getD_some, e] at this
    exact this
end Z
namespace Z
open PySem PySem.Spec PyProof.Rows L2

end Z
namespace Z
open PySem PySem.Spec PyProof.Rows L2

section
variable {X : Cx} {B : Bs} {a b : Expr} {fa fb : DTE} {pos : Pos}
end
theorem PerF.mod {f : Nat → Nat} {k : Nat} (h : PerF f k) (i : Nat) : f (i % k) = f i := by
  have := h.mul (i / k) (i % k)
  rw [Nat.mod_add_div] at this
  exact this.symm
theorem alike {f g : Nat → Nat} {p q : Nat} (hp : PerF f p) (hq : PerF g q) (p0 : 0 < p) (q0 : 0 < q) (h : ∀ i, i < p + q → f i = g i) (i : Nat) : f i = g i := by
  have fq : PerF f q := fun i => by
    have hm := Nat.mod_lt i p0
    have e1 : f (i + q) = f (i % p + q) := by
      have := hp.mul (i / p) (i % p + q)
      rw [← this]
      congr 1
      have := Nat.mod_add_div i p
      omega
    rw [e1, h _ (by omega), hq, ← h _ (by omega), hp.mod]
  have hm := Nat.mod_lt i q0
  rw [← fq.mod i, h _ (by omega), hq.mod]
theorem oc_inj {a b : Nat} (ha : a = 76 ∨ a = 82) (hb : b = 76 ∨ b = 82) (h : oc a = oc b) : a = b := by
  rcases ha with rfl | rfl <;> rcases hb with rfl | rfl <;> first | rfl | (exact absurd h (by decide))
theorem map_get0 {l : List Nat} {i : Nat} (h : i < l.length) : (l.map oc).getD i 0 = oc (l.getD i 0) := by
  simp [List.getD_eq_getElem?_getD, h]
theorem cyc_map {l : List Nat} (h : 0 < l.length) (i : Nat) : cyc (l.map oc) i = oc (cyc l i) := by
  unfold cyc
  rw [List.length_map, map_get0 (Nat.mod_lt _ h)]
theorem lr_cyc {r : List Nat} (hr : LR r) (h : 0 < r.length) (i : Nat) : cyc r i = 76 ∨ cyc r i = 82 := by
  unfold cyc
  exact lr_get hr (Nat.mod_lt _ h)
theorem LR.oc {w : List Nat} (h : LR w) : LR (w.map Z.oc) := fun c hc => by
  obtain ⟨d, hd, rfl⟩ := List.mem_map.mp hc
  rcases h d hd with rfl | rfl
  · exact .inr rfl
  · exact .inl rfl
theorem NR.oc {a r : List Nat} (h : NR a r) (la : LR a) (lr : LR r) : NR (a.map Z.oc) (r.map Z.oc) := by
  have h0 := h.prim.pos
  refine ⟨⟨fun z => h.prim.1 (List.map_eq_nil_iff.mp z), fun k k0 k1 p => h.prim.2 k k0 (by rw [List.length_map] at k1; exact k1) fun i => ?_⟩, ?_⟩
  · have := p i
    rw [cyc_map h0, cyc_map h0] at this
    exact oc_inj (lr_cyc lr h0 _) (lr_cyc lr h0 _) this
  · rcases h.last with z | z
    · exact .inl (by rw [z]; rfl)
    · by_cases e : a = []
      · exact .inl (by rw [e]; rfl)
      · have a0 : 0 < a.length := List.length_pos_iff.mpr e
        refine .inr fun y => z ?_
        rw [List.length_map, List.length_map, map_get0 (by omega), cyc_map h0] at y
        exact oc_inj (lr_get la (by omega)) (lr_cyc lr h0 _) y
end Z
noncomputable section
namespace Z
open PySem PySem.W PySem.Calls PyProof.Rows HandSHeadRun

section
variable (st : SharedT → Thread → Option (SharedT × Thread)) (n0 : Nat) (ann : Option Value)
def segF (b : Nat) : Nat → SharedT → Thread → Option (Flow × SharedT × Code × Pos)
  | 0, _, _ => none
  | m + 1, s, t => match endAt b t with
    | some f => some (f, s, t.code, t.pos)
    | none => match stepOk n0 ann t with
      | false => none
      | true => match st s t with
        | some (s', t') => frS s' fun s' => segF b m s' t'
        | none => none
def preF : Nat → SharedT → Thread → Option (SharedT × Thread)
  | 0, s, t => some (s, t)
  | m + 1, s, t => match through t with
    | true => none
    | false => match stepOk n0 ann t with
      | false => none
      | true => match st s t with
        | some (s', t') => frS s' fun s' => preF m s' t'
        | none => none
end
theorem segF_eq {st : SharedT → Thread → Option (SharedT × Thread)} {n0 : Nat} {ann : Option Value} {b m : Nat} {s : SharedT} {t : Thread} : segF st n0 ann b (m + 1) s t = (match endAt b t with
    | some f => some (f, s, t.code, t.pos)
    | none => match stepOk n0 ann t with
      | false => none
      | true => match st s t with
        | some (s', t') => frS s' fun s' => segF st n0 ann b m s' t'
        | none => none) := rfl
theorem preF_eq {st : SharedT → Thread → Option (SharedT × Thread)} {n0 : Nat} {ann : Option Value} {m : Nat} {s : SharedT} {t : Thread} : preF st n0 ann (m + 1) s t = (match through t with
    | true => none
    | false => match stepOk n0 ann t with
      | false => none
      | true => match st s t with
        | some (s', t') => frS s' fun s' => preF st n0 ann m s' t'
        | none => none) := rfl
section
variable {tb : String → Option Builtin} {p : Program} {w : World} {n0 : Nat} {ann : Option Value}
theorem segF_ok {b : Nat} : ∀ {m : Nat} {s s' : SharedT} {t : Thread} {f : Flow} {c : Code} {q : Pos}, segF (stepT (denote tb) p w) n0 ann b m s t = some (f, s', c, q) → segRun tb p w n0 ann b m s.abs t = some (f, s'.abs, c, q)
  | 0, _, _, _, _, _, _, h => by cases h
  | m + 1, s, s', t, f, c, q, h => by
    rw [segF_eq] at h
    unfold segRun
    cases he : endAt b t with
    | some x =>
      rw [he] at h
      cases h
      rfl
    | none =>
      rw [he] at h
      cases hk : stepOk n0 ann t with
      | false =>
        rw [hk] at h
        cases h
      | true =>
        rw [hk] at h
        cases hs : stepT (denote tb) p w s t with
        | none =>
          rw [hs] at h
          cases h
        | some r =>
          obtain ⟨s2, t2⟩ := r
          rw [hs] at h
          have h3 : (frS s2 fun s' => segF (stepT (denote tb) p w) n0 ann b m s' t2) = some (f, s', c, q) := h
          rw [frS_eq] at h3
          have z := segF_ok h3
          show (match step (denote tb) p w s.abs t with
            | .go s' t' => segRun tb p w n0 ann b m s' t'
            | .halt _ _ => none) = _
          rw [stepT_spec hs]
          exact z
theorem preF_ok : ∀ {m : Nat} {s s' : SharedT} {t t' : Thread}, preF (stepT (denote tb) p w) n0 ann m s t = some (s', t') → topGo tb p w n0 ann m s.abs t = some (s'.abs, t')
  | 0, _, _, _, _, h => by cases h; rfl
  | m + 1, s, s', t, t', h => by
    rw [preF_eq] at h
    unfold topGo
    cases he : through t with
    | true =>
      rw [he] at h
      cases h
    | false =>
      rw [he] at h
      cases hk : stepOk n0 ann t with
      | false =>
        rw [hk] at h
        cases h
      | true =>
        rw [hk] at h
        cases hs : stepT (denote tb) p w s t with
        | none =>
          rw [hs] at h
          cases h
        | some r =>
          obtain ⟨s2, t2⟩ := r
          rw [hs] at h
          have h3 : (frS s2 fun s' => preF (stepT (denote tb) p w) n0 ann m s' t2) = some (s', t') := h
          rw [frS_eq] at h3
          have z := preF_ok h3
          show (match step (denote tb) p w s.abs t with
            | .go s' t' => topGo tb p w n0 ann m s' t'
            | .halt _ _ => none) = _
          rw [stepT_spec hs]
          exact z
end
def envT (p : Program) (cv : Value) (fr : Addr) : Env := { scope := p.main.scope, locals := mainNs, globals := mainNs, cells := [], code := cv, frame := some fr }
def codT (p : Program) (cv : Value) (fr : Addr) : Code := .body (behindTheImports p) (envT p cv fr)
def firstF (st : SharedT → Thread → Option (SharedT × Thread)) (p : Program) (w : World) (cv : Value) (fr : Addr) (q : Pos) (m0 mB m : Nat) (l : List Stmt) (os : OsState) : Option (Nat × Thread × Flow × Code × Flow × SharedT × Code × Pos) :=
  match putAll (boot_heap w.params).objs.toList .nil 0 with
  | some (t, n) => frNat n fun n0 => match preF st n0 (bootAnn w) m0 (bootT w os (t, n0)) (topStub p) with
    | some (sa, ta) => (match segF st n0 (bootAnn w) 1 mB sa (blockOf (behindTheImports p) (envT p cv fr) ta.code ta.pos [topFrame q]) with
      | some (f1, sb, c1, p1) => (match segF st n0 (bootAnn w) 1 m sb (piecesOf l (envT p cv fr) c1 p1 [topFrame q]) with
        | some (f2, s1, c2, p2) => some (n0, ta, f1, c1, f2, s1, c2, p2)
        | none => none)
      | none => none)
    | none => none
  | none => none
def lastF (st : SharedT → Thread → Option (SharedT × Thread)) (p : Program) (w : World) (cv : Value) (fr : Addr) (q : Pos) (n0 m mf : Nat) (l : List Stmt) (s : SharedT) (pos : Pos) : Option (Flow × Code × SharedT) :=
  match segF st n0 (bootAnn w) 1 m s (piecesOf l (envT p cv fr) (codT p cv fr) pos [topFrame q]) with
  | some (f, s1, c1, p1) => (match goF st n0 (bootAnn w) mf s1 ⟨doneF .next, c1, p1, [topFrame q]⟩ with
    | some sf => some (f, c1, sf)
    | none => none)
  | none => none
def RestOk (p q : Program) (loose : List PySem.Str) (Xt : Shared → Bool) {α : Type} (ob : SharedT → α) (val : World → α) (cv : Value) (fr : Addr) (qp : Pos) (n0 : Nat) (M : Nat) (S : World → OsState → SharedT) (l : List Stmt) (pos : Pos) : Prop :=
  ∀ (w : World) (os : OsState), ∃ sf : SharedT, topRun treeTable p w n0 (bootAnn w) M (S w os).abs (restOf l (envT p cv fr) (codT p cv fr) pos [topFrame qp]) = some sf.abs ∧
    (looksF p (boot_heap w.params) sf.abs, openSeen q loose (importedModules p.main.body) Xt true sf.abs, ob sf) = (true, openGood q loose, val w)
section
variable {p q : Program} {loose : List PySem.Str} {Xt : Shared → Bool} {α : Type} {ob : SharedT → α} {val : World → α} {cv : Value} {fr : Addr} {qp : Pos} {n0 M m mf : Nat} {S S' : World → OsState → SharedT} {l l' : List Stmt} {pos pos' : Pos}
abbrev stQ (p : Program) (w : World) : SharedT → Thread → Option (SharedT × Thread) := stepQ (denQ tabQ) p w
theorem stQ_eq {p : Program} {w : World} : stQ p w = stepT (denote treeTable) p w := by
  unfold stQ
  rw [← stepQ_eq, ← denQ_eq, ← tabQ_eq]
theorem rest_seg (h : ∀ (w : World) (os : OsState), segF (stQ p w) n0 (bootAnn w) 1 m (S w os) (piecesOf l (envT p cv fr) (codT p cv fr) pos [topFrame qp]) = some (.next, S' w os, codT p cv fr, pos'))
    (k : RestOk p q loose Xt ob val cv fr qp n0 M S' l' pos') : RestOk p q loose Xt ob val cv fr qp n0 (m + M) S (l ++ l') pos := fun w os => by
  obtain ⟨sf, h1, h2⟩ := k w os
  have z := h w os
  rw [stQ_eq] at z
  exact ⟨sf, piece_app (segF_ok z) h1, h2⟩
theorem rest_last (h : ∀ (w : World) (os : OsState), (lastF (stQ p w) p w cv fr qp n0 m mf l (S w os) pos).map (fun x => (x.1, x.2.1, looksF p (boot_heap w.params) x.2.2.abs, seenQ q loose (importedModules p.main.body) Xt x.2.2.abs, ob x.2.2)) = some (.next, codT p cv fr, true, openGood q loose, val w)) :
    RestOk p q loose Xt ob val cv fr qp n0 (m + mf) S l pos := fun w os => by
  obtain ⟨⟨f, c, sf⟩, e1, e2⟩ := Option.map_eq_some_iff.mp (h w os)
  have e2' : (f, c, looksF p (boot_heap w.params) sf.abs, seenQ q loose (importedModules p.main.body) Xt sf.abs, ob sf) = (.next, codT p cv fr, true, openGood q loose, val w) := e2
  simp only [Prod.mk.injEq] at e2'
  obtain ⟨rfl, rfl, a1, a2, a3⟩ := e2'
  rw [stQ_eq] at e1
  unfold lastF at e1
  cases z : segF (stepT (denote treeTable) p w) n0 (bootAnn w) 1 m (S w os) (piecesOf l (envT p cv fr) (codT p cv fr) pos [topFrame qp]) with
  | none => rw [z] at e1; cases e1
  | some r =>
    obtain ⟨f1, s1, c1, p1⟩ := r
    rw [z] at e1
    dsimp only at e1
    cases y : goF (stepT (denote treeTable) p w) n0 (bootAnn w) mf s1 ⟨doneF .next, c1, p1, [topFrame qp]⟩ with
    | none => rw [y] at e1; cases e1
    | some sf' =>
      rw [y] at e1
      cases e1
      refine ⟨sf, ?_, ?_⟩
      · have := piece_app (rest := []) (q := qp) (segF_ok z) (piece_nil (goF_ok y))
        rw [List.append_nil] at this
        exact this
      · rw [← seenQ_eq] at a2
        rw [a1, a2, a3]
theorem rest_last3 (h1 : ∀ (w : World) (os : OsState), (lastF (stQ p w) p w cv fr qp n0 m mf l (S w os) pos).map (fun x => (x.1, x.2.1, looksF p (boot_heap w.params) x.2.2.abs)) = some (.next, codT p cv fr, true))
    (h2 : ∀ (w : World) (os : OsState), (lastF (stQ p w) p w cv fr qp n0 m mf l (S w os) pos).map (fun x => seenQ q loose (importedModules p.main.body) Xt x.2.2.abs) = some (openGood q loose))
    (h3 : ∀ (w : World) (os : OsState), (lastF (stQ p w) p w cv fr qp n0 m mf l (S w os) pos).map (fun x => ob x.2.2) = some (val w)) :
    RestOk p q loose Xt ob val cv fr qp n0 (m + mf) S l pos := rest_last fun w os => by
  obtain ⟨⟨f, c, sf⟩, e1, e2⟩ := Option.map_eq_some_iff.mp (h1 w os)
  have a2 := h2 w os
  have a3 := h3 w os
  rw [e1] at a2 a3 ⊢
  have a2' : seenQ q loose (importedModules p.main.body) Xt sf.abs = openGood q loose := Option.some.inj a2
  have a3' : ob sf = val w := Option.some.inj a3
  have e2' : (f, c, looksF p (boot_heap w.params) sf.abs) = (.next, codT p cv fr, true) := e2
  simp only [Prod.mk.injEq] at e2'
  obtain ⟨z1, z2, z3⟩ := e2'
  show some (f, c, looksF p (boot_heap w.params) sf.abs, seenQ q loose (importedModules p.main.body) Xt sf.abs, ob sf) = _
  rw [z1, z2, z3, a2', a3']
theorem left_cut {N : Nat} {m0 mB : Nat} {pos0 : Pos} (e : opening p = plainProg p.main.scope.names) (hN : Nat.ble 600 N = true) (f : ∀ s, fenceModules? p s = some s) (hb : behindTheImports p = l ++ l')
    (first : ∀ (w : World) (os : OsState), firstF (stQ p w) p w cv fr qp m0 mB m l os = some (n0, ⟨denQ tabQ (codT p cv fr), codT p cv fr, pos0, [topFrame qp]⟩, .next, codT p cv fr, .next, S w os, codT p cv fr, pos))
    (k : RestOk p q loose Xt ob val cv fr qp n0 M S l' pos) (le : Nat.ble (m0 + (mB + (m + M))) N = true) {obs : Shared → α} (ho : ∀ s : SharedT, ob s = obs s.abs) :
    LeftO p q loose Xt obs val N true := fun w => by
  obtain ⟨⟨h, gs, d, kk, os⟩, a, a'⟩ := Option.map_eq_some_iff.mp (boot_open e hN f w)
  obtain ⟨rfl, rfl, rfl, rfl⟩ : h = boot_heap w.params ∧ gs = Array.mk [] ∧ d = boot_drawn ∧ kk = boot_toks := by simpa using a'
  obtain ⟨sf, hr, hv⟩ := k w os
  have hv' : (looksF p (boot_heap w.params) sf.abs, openSeen q loose (importedModules p.main.body) Xt true sf.abs, ob sf) = (true, openGood q loose, val w) := hv
  simp only [Prod.mk.injEq] at hv'
  obtain ⟨l1, l2, l3⟩ := hv'
  have F := first w os
  rw [stQ_eq, show denQ tabQ = denote treeTable by rw [denQ_eq, tabQ_eq]] at F
  unfold firstF at F
  cases e0 : putAll (boot_heap w.params).objs.toList .nil 0 with
  | none => rw [e0] at F; cases F
  | some r0 =>
    obtain ⟨t, n⟩ := r0
    rw [e0] at F
    dsimp only at F
    rw [frNat_eq] at F
    have eh := putAll_heap e0
    have en : (boot_heap w.params).objs.size = n := by
      rw [← eh]
      exact absHeap_size t n _
    have eb : (bootT w os (t, n)).abs = ⟨boot_heap w.params, #[], boot_drawn, boot_toks, os⟩ := by
      show (⟨absHeap t n (boot_heap w.params).life, #[], boot_drawn, boot_toks, os⟩ : Shared) = _
      rw [eh]
    cases e1 : preF (stepT (denote treeTable) p w) n (bootAnn w) m0 (bootT w os (t, n)) (topStub p) with
    | none => rw [e1] at F; cases F
    | some r1 =>
      obtain ⟨sa, ta⟩ := r1
      rw [e1] at F
      dsimp only at F
      cases e2 : segF (stepT (denote treeTable) p w) n (bootAnn w) 1 mB sa (blockOf (behindTheImports p) (envT p cv fr) ta.code ta.pos [topFrame qp]) with
      | none => rw [e2] at F; cases F
      | some r2 =>
        obtain ⟨f1, sb, c1, p1⟩ := r2
        rw [e2] at F
        dsimp only at F
        cases e3 : segF (stepT (denote treeTable) p w) n (bootAnn w) 1 m sb (piecesOf l (envT p cv fr) c1 p1 [topFrame qp]) with
        | none => rw [e3] at F; cases F
        | some r3 =>
          obtain ⟨f2, s1, c2, p2⟩ := r3
          rw [e3] at F
          dsimp only at F
          have F2 := Option.some.inj F
          simp only [Prod.mk.injEq] at F2
          obtain ⟨rfl, rfl, rfl, rfl, rfl, rfl, rfl, rfl⟩ := F2
          have r2 := piece_app (segF_ok e3) hr
          rw [← hb] at r2
          have r1 := piece_block (segF_ok e2) r2
          have r0 := go_top (preF_ok e1) r1
          rw [eb] at r0
          have r := topRun_mono (N - (m0 + (mB + (m + M)))) _ _ _ _ r0
          rw [show m0 + (mB + (m + M)) + (N - (m0 + (mB + (m + M)))) = N by have := Nat.le_of_ble_eq_true le; omega] at r
          have l1' : (staticsOk (importedModules p.main.body) (boot_heap w.params) sf.abs.heap && namesBound p sf.abs.heap && gensDone sf.abs && laidKept (boot_heap w.params) sf.abs.heap) = true := l1
          have tt : topFrom treeTable p w N ⟨boot_heap w.params, Array.mk [], boot_drawn, boot_toks, os⟩ = some sf.abs := by
            unfold topFrom
            dsimp only
            rw [boot_ns]
            show (topRun treeTable p w (boot_heap w.params).objs.size (bootAnn w) N ⟨boot_heap w.params, #[], boot_drawn, boot_toks, os⟩ (topStub p)).bind _ = _
            rw [en, r]
            show (match staticsOk (importedModules p.main.body) (boot_heap w.params) sf.abs.heap && namesBound p sf.abs.heap && gensDone sf.abs && laidKept (boot_heap w.params) sf.abs.heap with | true => some sf.abs | false => none) = _
            rw [l1']
          unfold openEnds
          rw [a]
          show (topFrom treeTable p w N _).map _ = _
          rw [tt, ← l3, ho sf]
          exact congrArg some (Prod.ext l2 rfl)
end
theorem head_cut {r : OpenRow} {q : Program} {H : Hook} {ob : SharedT → H.α} {loose : List PySem.Str} {d : DefRec} {kwd : List (PySem.Str × PySem.Expr)} {cv : Value} {fr : Addr} {qp : Pos} {n0 M m m0 mB : Nat} {S : World → OsState → SharedT} {l l' : List Stmt} {pos pos0 : Pos}
    (ho : ∀ s : SharedT, ob s = H.obs s.abs) (e : opening r.prog = plainProg r.prog.main.scope.names) (f : ∀ s, fenceModules? r.prog s = some s) (hbd : behindTheImports r.prog = l ++ l')
    (first : ∀ (w : World) (os : OsState), firstF (stQ r.prog w) r.prog w cv fr qp m0 mB m l os = some (n0, ⟨denQ tabQ (codT r.prog cv fr), codT r.prog cv fr, pos0, [topFrame qp]⟩, .next, codT r.prog cv fr, .next, S w os, codT r.prog cv fr, pos))
    (k : RestOk r.prog q loose (fun s => xlAt q [] s && recOk r.toRowW.records s) ob H.val cv fr qp n0 M S l' pos)
    (hdef : defOf q r.name = some (d, kwd)) (hp : r.prog.theDef r.name = some (d.params, d.body, d.scope)) (hk : kwWritten? d.params.kwonlyargs d.params.kw_defaults = some kwd)
    (hwr : (!r.writes || r.records.isEmpty) = true) (k1 : r.wellSaid = true) (ok : (chainsOk q && opensWell r.prog && (frees r.toRowW && r.within.isEmpty)) = true) (hb : r.prog.bare) (hw : r.toRowW.promised)
    (call : WalkO q loose (XL q []) H.says r.toRowW d kwd fun f vs => PySem.call f vs) : r.Holds :=
  holds_open (r := r) (q := q) (loose := loose) (XP := XL q []) (YP := H.says) (d := d) (kwd := kwd) (left_cut (N := m0 + (mB + (m + M)) + 600) e (Nat.ble_eq_true_of_le (by omega)) f hbd first k (Nat.ble_eq_true_of_le (by omega)) ho) H.of H.keeps (fun s z => xl_of s (Bool.and_eq_true_iff.mp z).1) XL.keeps hdef hp hk (fun s z => recFacts_of (Bool.and_eq_true_iff.mp z).2) hwr k1 ok hb hw call
end Z
namespace Z
open PySem PySem.Spec PyProof.Rows L2

mutual
inductive Pl : Nat → D → Prop
  | non {n : Nat} : Pl n .non
  | int {n : Nat} (i : Int) : Pl n (.int i)
  | str {n : Nat} {x : Str} (h : PyData.strOk x = true) : Pl n (.str x)
  | tup {n : Nat} {l : List D} (h : PlL n l) : Pl (n + 1) (.tup l)
  | lst {n : Nat} {l : List D} (h : PlL n l) : Pl (n + 1) (.lst l)
inductive PlL : Nat → List D → Prop
  | nil {n : Nat} : PlL n []
  | cons {n : Nat} {d : D} {l : List D} (h : Pl n d) (r : PlL n l) : PlL n (d :: l)
end
theorem PlL.of {n : Nat} : ∀ {l : List D}, (∀ d ∈ l, Pl n d) → PlL n l
  | [], _ => .nil
  | d :: l, h => .cons (h d List.mem_cons_self) (PlL.of fun e he => h e (List.mem_cons_of_mem _ he))
mutual
theorem Pl.data : ∀ {n : Nat} {d : D}, Pl n d → ∃ p, pd d = some p ∧ PyData.canLay0 p = true ∧ PyData.depth p ≤ n ∧ ∀ (e : D) (m : Nat) (q : PyData), Pl m e → pd e = some q → (PyData.eqv p q = true ↔ d = e)
  | _, _, .non => ⟨.none, rfl, rfl, Nat.zero_le _, fun e m q h eq => by
      cases h with
      | non => cases eq; exact ⟨fun _ => rfl, fun _ => rfl⟩
      | int => cases eq; exact ⟨(fun h => by cases h), (fun h => by cases h)⟩
      | str => cases eq; exact ⟨(fun h => by cases h), (fun h => by cases h)⟩
      | tup => obtain ⟨_, _, rfl⟩ := Option.map_eq_some_iff.mp (show (pdL _).map PyData.tuple = some _ from eq); exact ⟨(fun h => by cases h), (fun h => by cases h)⟩
      | lst => obtain ⟨_, _, rfl⟩ := Option.map_eq_some_iff.mp (show (pdL _).map PyData.list = some _ from eq); exact ⟨(fun h => by cases h), (fun h => by cases h)⟩⟩
  | _, _, .int i => ⟨.int i, rfl, rfl, Nat.zero_le _, fun e m q h eq => by
      cases h with
      | non => cases eq; exact ⟨(fun h => by cases h), (fun h => by cases h)⟩
      | int => cases eq; exact ⟨fun h => by rw [show i = _ from by simpa [PyData.eqv] using h], fun h => by cases h; simp [PyData.eqv]⟩
      | str => cases eq; exact ⟨(fun h => by cases h), (fun h => by cases h)⟩
      | tup => obtain ⟨_, _, rfl⟩ := Option.map_eq_some_iff.mp (show (pdL _).map PyData.tuple = some _ from eq); exact ⟨(fun h => by cases h), (fun h => by cases h)⟩
      | lst => obtain ⟨_, _, rfl⟩ := Option.map_eq_some_iff.mp (show (pdL _).map PyData.list = some _ from eq); exact ⟨(fun h => by cases h), (fun h => by cases h)⟩⟩
  | _, _, .str (x := x) hx => ⟨.str x, rfl, hx, Nat.zero_le _, fun e m q h eq => by
      cases h with
      | non => cases eq; exact ⟨(fun h => by cases h), (fun h => by cases h)⟩
      | int => cases eq; exact ⟨(fun h => by cases h), (fun h => by cases h)⟩
      | str => cases eq; exact ⟨fun h => by rw [show x = _ from by simpa [PyData.eqv] using h], fun h => by cases h; simp [PyData.eqv]⟩
      | tup => obtain ⟨_, _, rfl⟩ := Option.map_eq_some_iff.mp (show (pdL _).map PyData.tuple = some _ from eq); exact ⟨(fun h => by cases h), (fun h => by cases h)⟩
      | lst => obtain ⟨_, _, rfl⟩ := Option.map_eq_some_iff.mp (show (pdL _).map PyData.list = some _ from eq); exact ⟨(fun h => by cases h), (fun h => by cases h)⟩⟩
  | _, _, .tup (l := l) hl => by
    obtain ⟨ps, e1, c1, d1, k⟩ := hl.pds
    refine ⟨.tuple ps, by show (pdL l).map PyData.tuple = _; rw [e1]; rfl, c1, Nat.succ_le_succ d1, fun e m q h eq => ?_⟩
    cases h with
    | non => cases eq; exact ⟨(fun h => by cases h), (fun h => by cases h)⟩
    | int => cases eq; exact ⟨(fun h => by cases h), (fun h => by cases h)⟩
    | str => cases eq; exact ⟨(fun h => by cases h), (fun h => by cases h)⟩
    | tup h' =>
      obtain ⟨qs, e2, rfl⟩ := Option.map_eq_some_iff.mp (show (pdL _).map PyData.tuple = some _ from eq)
      exact (k _ _ _ h' e2).trans ⟨fun h => by rw [h], fun h => by injection h⟩
    | lst => obtain ⟨_, _, rfl⟩ := Option.map_eq_some_iff.mp (show (pdL _).map PyData.list = some _ from eq); exact ⟨(fun h => by cases h), (fun h => by cases h)⟩
  | _, _, .lst (l := l) hl => by
    obtain ⟨ps, e1, c1, d1, k⟩ := hl.pds
    refine ⟨.list ps, by show (pdL l).map PyData.list = _; rw [e1]; rfl, c1, Nat.succ_le_succ d1, fun e m q h eq => ?_⟩
    cases h with
    | non => cases eq; exact ⟨(fun h => by cases h), (fun h => by cases h)⟩
    | int => cases eq; exact ⟨(fun h => by cases h), (fun h => by cases h)⟩
    | str => cases eq; exact ⟨(fun h => by cases h), (fun h => by cases h)⟩
    | tup => obtain ⟨_, _, rfl⟩ := Option.map_eq_some_iff.mp (show (pdL _).map PyData.tuple = some _ from eq); exact ⟨(fun h => by cases h), (fun h => by cases h)⟩
    | lst h' =>
      obtain ⟨qs, e2, rfl⟩ := Option.map_eq_some_iff.mp (show (pdL _).map PyData.list = some _ from eq)
      exact (k _ _ _ h' e2).trans ⟨fun h => by rw [h], fun h => by injection h⟩
theorem PlL.pds : ∀ {n : Nat} {l : List D}, PlL n l → ∃ ps, pdL l = some ps ∧ PyData.canLayAll0 ps = true ∧ PyData.depthAll ps ≤ n ∧ ∀ (l' : List D) (m : Nat) (qs : List PyData), PlL m l' → pdL l' = some qs → (PyData.eqvAll ps qs = true ↔ l = l')
  | _, _, .nil => ⟨[], rfl, rfl, Nat.zero_le _, fun l' m qs h eq => by
      cases h with
      | nil => cases eq; exact ⟨fun _ => rfl, fun _ => rfl⟩
      | cons h r =>
        unfold pdL at eq
        split at eq
        · cases eq
          exact ⟨(fun h => by cases h), (fun h => by cases h)⟩
        · cases eq⟩
  | _, _, .cons h r => by
    obtain ⟨p, e1, c1, d1, k1⟩ := h.data
    obtain ⟨ps, e2, c2, d2, k2⟩ := r.pds
    refine ⟨p :: ps, by unfold pdL; rw [e1, e2], by show (_ && _) = true; rw [c1, c2]; rfl, Nat.max_le.mpr ⟨d1, d2⟩, fun l' m qs h' eq => ?_⟩
    cases h' with
    | nil => cases eq; exact ⟨(fun h => by cases h), (fun h => by cases h)⟩
    | cons h' r' =>
      unfold pdL at eq
      split at eq
      case h_2 => cases eq
      rename_i p' ps' e1' e2'
      cases eq
      show (PyData.eqv p p' && PyData.eqvAll ps ps') = true ↔ _
      rw [Bool.and_eq_true, k1 _ _ _ h' e1', k2 _ _ _ r' e2', List.cons.injEq]
end
theorem Pl.shaped {n : Nat} {d : D} {p : PyData} (h : Pl n d) (e : pd d = some p) (hn : n ≤ 64) : SeqAt.shaped p = true := by
  obtain ⟨q, e1, c1, d1, _⟩ := h.data
  rw [e] at e1
  cases e1
  unfold SeqAt.shaped
  rw [c1, decide_eq_true (Nat.le_trans d1 hn)]
  rfl
theorem eqv_pl {M : Sto} {n m : Nat} {x y dx dy : D} {φ : Bool → Prop} (hx : Pl n dx) (hy : Pl m dy) (hn : n ≤ 64) (hm : m ≤ 64) (ex : toPd M x = pd dx) (ey : toPd M y = pd dy) (nt : ∀ i j, x = .int i → y = .int j → dx = x ∧ dy = y) (ns : ∀ i j, x = .str i → y = .str j → dx = x ∧ dy = y) (nb : ∀ i, x ≠ .bl i)
    (q : ∀ b : Bool, (b = true ↔ dx = dy) → φ b) : eqvD M x y φ := by
  have gen : ∃ p q, toPd M x = some p ∧ toPd M y = some q ∧ SeqAt.shaped p = true ∧ SeqAt.shaped q = true ∧ φ (PyData.eqv p q) := by
    obtain ⟨p, e1, _, _, k⟩ := hx.data
    obtain ⟨p', e2, _⟩ := hy.data
    exact ⟨p, p', ex.trans e1, ey.trans e2, hx.shaped e1 hn, hy.shaped e2 hm, q _ (k _ _ _ hy e2)⟩
  unfold eqvD
  split
  · obtain ⟨rfl, rfl⟩ := nt _ _ rfl rfl
    refine q _ ⟨fun h => by rw [of_decide_eq_true h], fun h => by cases h; exact decide_eq_true rfl⟩
  · obtain ⟨rfl, rfl⟩ := ns _ _ rfl rfl
    refine q _ ⟨fun h => by rw [of_decide_eq_true h], fun h => by cases h; exact decide_eq_true rfl⟩
  · exact absurd rfl (nb _)
  · exact gen
theorem toPd_pl {M : Sto} {n : Nat} {d : D} (h : Pl n d) : toPd M d = pd d := by
  unfold toPd
  cases h with
  | lst h => rfl
  | _ => rfl
theorem nePl {M : Sto} {n m : Nat} {x y : D} {φ : D → Prop} (hx : Pl n x) (hy : Pl m y) (q : ∀ b : Bool, (b = true ↔ x = y) → φ (.bl (!b))) (hn : n ≤ 64 := by decide) (hm : m ≤ 64 := by decide) : neD M x y φ := by
  unfold neD
  exact eqv_pl (φ := fun b => φ (.bl (!b))) hx hy hn hm (toPd_pl hx) (toPd_pl hy) (fun _ _ _ _ => ⟨rfl, rfl⟩) (fun _ _ _ _ => ⟨rfl, rfl⟩) (fun i e => by subst e; cases hx) q
section
variable {X : Cx} {B : Bs} {o e : Expr} {es : List Expr} {fo : DTE} {ga : DTA} {apos pos : Pos}
end
end Z
namespace Z
open PySem PySem.Spec PyProof.Rows L2

theorem const_ring {y : List Nat} {c : Nat} (hp : PrimR y) (h : ∀ i, cyc y i = c) : y = [c] := by
  have p1 : PerF (cyc y) 1 := fun i => by rw [h, h]
  have l1 : y.length = 1 := Nat.dvd_one.mp (hp.dvd p1)
  obtain ⟨a, rfl⟩ := List.length_eq_one_iff.mp l1
  have := h 0
  rw [show cyc [a] 0 = a from rfl] at this
  rw [this]
section
variable {M : Sto} {p : Addr} {l : List D}
end
end Z
namespace Z
open PySem PySem.Spec PyProof.Rows L2

section
variable {M : Sto} {φ : Bool → Prop}
end
section
variable {X : Cx} {B : Bs} {pos : Pos} {a b : Expr} {es : List Expr} {fa fb : DTE}
end
theorem Same.L {M : Sto} {n : Nat} {a b : D} {xs ys : List D} (ea : lstOf M a = some xs) (eb : lstOf M b = some ys) (h : SameL M n xs ys) (hl : xs.length ≤ 1000000) : Same M (n + 1) a b :=
  .inr (.inr (.inr (.inr ⟨xs, ys, .inl ⟨ea, eb⟩, h.len, hl, h.get⟩)))
theorem HandAt.upd {M : Sto} {p u : Addr} {c : Cell} (h : HandAt M p) (hu : M u = none) : HandAt (updM M u c) p := by
  obtain ⟨k, e, a, b⟩ := h
  exact ⟨k, by rw [updM_ne fun z => by rw [z, hu] at e; cases e]; exact e, a, b⟩
theorem HandAt.put {M : Sto} {p u : Addr} {c : Cell} {l : List D} (h : HandAt M p) (hu : p ≠ u) : HandAt (updM M u c) p := by
  obtain ⟨k, e, a, b⟩ := h
  exact ⟨k, by rw [updM_ne hu]; exact e, a, b⟩
theorem HandAt.ne {M : Sto} {p u : Addr} (h : HandAt M p) (hu : M u = none) : p ≠ u := fun z => by
  obtain ⟨k, e, _⟩ := h
  rw [z, hu] at e
  cases e
end Z
namespace Z
open PySem PySem.Spec PyProof.Rows L2

section
variable {X : Cx} {B : Bs} {Ξ : XD → En → Sto → Prop} {k j n : Nat} {c : Ct} {pos apos p : Pos} {e : Expr} {es : List Expr} {kws : List Keyword} {ga gk : DTA} {C : Addr} {m x : Str} {ks : List Str} {g : List D → List D → List D} {bs : List (Nat × List Str × (List D → List D → List D))}
theorem run_cA {f : Addr} {fd : FuncData} {ps : List Str} {pins : List (Addr × Obj)} {r : En} {M : Sto} {σ : L2.St} {H G : Hp} {s : Shared} {Q : VK} {vs zs : List V} {us ws : List Value} {ds dz : List D} {b : Nat × List Str × (List D → List D → List D)} {Ψ : D → Sto → Prop}
    (F : FnOk X.prog X.w X.K X.mg X.base (L2.CX X.prog X.w) k f fd ps (spC X.K ps.length c)) (hr : Room k X.A) (hb : BindD X.K fd ps b) (tk : Takes X (wOf X.K B Ξ)) (I : L2.Inv X pins σ H s) (R : Rel X.K B r M σ H G)
    (hv : Vals vs us) (hz : Vals zs ws) (rv : RepL X.K G ds vs) (rz : RepL X.K G dz zs) (l1 : ds.length = b.1) (l2 : dz.length = b.2.1.length) (hc : c (b.2.2 ds dz) M Ψ (fun x M' => Ξ x r M'))
    (hQ : ∀ d M' v H' G', Ψ d M' → Rel X.K B r M' σ H' G' → Sub G G' → Rep X.K G' d v → Q v H') :
    codeAny (model X.prog X.w) X.A (.call (.ref f) ⟨us, b.2.1.zip ws⟩) (fun r s' => match r with | .ok (.ret v) => EP X pins σ Q v s' | .ok _ => False | .error e => X.xe e s') s := by
  obtain ⟨hl, gl, gV, kb, rel⟩ := hb
  have l3 := hl ds dz l1 l2
  have u1 : us.length = b.1 := by rw [← hv.length, ← rv.length]; exact l1
  have u2 : ws.length = b.2.1.length := by rw [← hz.length, ← rz.length]; exact l2
  have rr := rel G ds vs dz zs rv rz
  have hsp : spC X.K ps.length c (gV vs zs) H Q (fun cls d H' => wOf X.K B Ξ cls d σ H') := by
    refine ⟨by rw [← rr.length]; exact l3, _, G, M, Ψ, _, R.wd, rr, hc, fun d M' v H' G' q w s p => hQ d M' v H' G' q (R.go w s) s.gsub p, fun x M' H' G' cls dd q w s rx => ?_⟩
    exact ⟨x, r, M', G', q, R.go w s, rx⟩
  refine codeAny_mono (F.run X.A X.stack s H ⟨us, b.2.1.zip ws⟩ (gl us ws) (gV vs zs) Q _ hr I.env0 (kb.to s us ws I.kIn u1 u2) (kb.rel hv hz) hsp) fun fr s' hq => ?_
  cases fr with
  | error e => exact tk e s' (XE.of_call I (fun cls d H' h => h) hq)
  | ok fl =>
    cases fl with
    | ret u => exact I.after hq
    | next => exact False.elim hq
    | brk => exact False.elim hq
    | cont => exact False.elim hq
end
end Z
namespace Z
open PySem PySem.Spec PyProof.Rows L2

section
variable {X : Cx} {B : Bs} {pos : Pos} {es : List Expr}
end
section
variable {ts : List DTE} {a w : List Nat} {r : En} {M : Sto} {φ : Str → Sto → Prop}
end
end Z
namespace Z
open PySem PySem.Spec PyProof.Rows L2

open Classical in
noncomputable def dlook (l : List (D × D)) (c : D) : Option D := (l.find? fun kv => decide (kv.1 = c)).map (·.2)
open Classical in
noncomputable def dput (l : List (D × D)) (c d : D) : List (D × D) := if (dlook l c).isSome = true then l.map (fun kv => if kv.1 = c then (kv.1, d) else kv) else l ++ [(c, d)]
section
variable {K : PySem.W.Frag} {G : Hp} {c d : D} {l : List (D × D)}
end
section
variable {K : PySem.W.Frag} {M : Sto} {H G : Hp} {x y d : D} {v u t : V}
end
section
variable {X : Cx} {B : Bs} {pos p3 : Pos} {a b : Expr} {es : List Expr} {fa fb fc : DTE} {ga : DTA} {k : Nat}
end
end Z
namespace L2
open PySem PySem.Spec PyProof.Rows
end L2
namespace Z
open PySem PySem.Spec PyProof.Rows L2
section
variable {X : Cx} {B : Bs} {pos : Pos} {a b : Expr} {fk fv : DTE} {k : Nat}
end
end Z
namespace Z
open PySem PySem.Spec PyProof.Rows L2

noncomputable def wd (t : T4) : List Nat := Classical.epsilon fun w => ∃ u, Tk t w u
noncomputable def lf (t : T4) : T4 := Classical.epsilon fun u => ∃ w, Tk t w u
def tother (c : Nat) : Nat := if c = 76 then 82 else 76
def trn (tu : Bool) (c : Nat) : Nat := if tu = true then tother c else c
noncomputable def gol (tu : Bool) (u : T4) (c : Nat) : T4 := lf (mul4 u (turnT (trn tu c)))
noncomputable def tld (tu : Bool) (u : T4) (c : Nat) : List Nat := wd (mul4 u (turnT (trn tu c)))
open Classical in
noncomputable def insR (l : List T4) (g : T4) : List T4 := if g ∈ l then l else l ++ [g]
noncomputable def stD (tu : Bool) (u : T4) (l : List T4) (c : Nat) : D := .tup [.str ⟨(tld tu u c).toArray⟩, .int (l.idxOf (gol tu u c) : Nat)]
def pr4 (t : T4) : T4 := (t.1.fdiv (gN (iL t)), t.2.1.fdiv (gN (iL t)), t.2.2.1.fdiv (gN (iL t)), t.2.2.2.fdiv (gN (iL t)))
end Z
namespace Z
open PySem PySem.Spec PyProof.Rows L2

variable {M0 M : Sto} {tu : Bool} {p1 p2 p3 p4 : Addr} {l : List T4} {ps : List Addr} {u g : T4}
def cI (i : Nat) : Nat := if i = 0 then 76 else 82
noncomputable def lI (tu : Bool) (l : List T4) (v : T4) : Nat → List T4
  | 0 => l
  | i + 1 => insR (lI tu l v i) (gol tu v (cI i))
noncomputable def rI (tu : Bool) (l : List T4) (v : T4) : Nat → List (D × D)
  | 0 => []
  | i + 1 => dput (rI tu l v i) (.str ⟨#[cI i]⟩) (stD tu v (lI tu l v (i + 1)) (cI i))
end Z
namespace Z
open PySem PySem.Spec PyProof.Rows L2

theorem Tk.sc {t u : T4} {w : List Nat} {m : Int} (hm : 0 < m) (h : Tk t w u) : Tk (Z.sc m t) w (Z.sc m u) := by
  refine ⟨h.lr, by rw [mul_sc4, h.eq], nn_sc' (by omega) h.nn, ?_⟩
  obtain ⟨a, b, c, d⟩ := u
  have e : ∀ x y : Int, (decide (m * x ≤ m * y)) = decide (x ≤ y) := fun x y => by
    by_cases z : x ≤ y
    · rw [decide_eq_true z, decide_eq_true (Int.mul_le_mul_of_nonneg_left z (by omega))]
    · rw [decide_eq_false z, decide_eq_false fun q => z (Int.le_of_mul_le_mul_left q hm)]
  obtain ⟨r, l⟩ := h.bal
  refine ⟨?_, ?_⟩
  · unfold bR Z.sc at *
    dsimp only at *
    rw [e, e]; exact r
  · unfold bL Z.sc at *
    dsimp only at *
    rw [e, e]; exact l
end Z
namespace Z
open PySem PySem.Spec PyProof.Rows L2

end Z
namespace Z
open PySem PySem.Spec PyProof.Rows L2

mutual
def nb : D → D
  | .bl b => .int (if b = true then 1 else 0)
  | .tup l => .tup (nbL l)
  | .tpl l => .tup (nbL l)
  | .lst l => .lst (nbL l)
  | d => d
def nbL : List D → List D
  | [] => []
  | d :: r => nb d :: nbL r
end
section
variable {X : Cx} {B : Bs} {pos p : Pos} {a b : Expr} {ga : DTA} {C C2 : Addr}
end

section
variable {X : Cx} {B : Bs} {k j n : Nat} {c : Ct} {pos : Pos} {a b : Expr} {fa fb : DTE} {C C2 : Addr} {bs : List (Nat × List Str × (List D → List D → List D))}
end
end Z
namespace Z
open PySem PySem.Spec PyProof.Rows L2

section
variable {X : Cx} {B : Bs} {k : Nat} {o e : Expr} {es : List Expr} {fo : DTE} {ga : DTA} {apos pos p : Pos}
end
end Z
namespace Z
open PySem PySem.Spec PyProof.Rows L2

variable {M0 M : Sto} {tu : Bool} {p1 p3 p4 : Addr} {l : List T4} {ps : List Addr} {u g : T4}
end Z
namespace Z
open PySem PySem.Spec PyProof.Rows L2

def tab (C : Addr) (t : T4) : D := .obj C [("whole", tD t)]
end Z
namespace Z
open PySem PySem.Spec PyProof.Rows L2

noncomputable def goS (tu : Bool) (u : T4) (w : List Nat) : T4 := w.foldl (gol tu) u
noncomputable def pwS (tu : Bool) : T4 → List Nat → List (List Nat)
  | _, [] => []
  | u, c :: w => tld tu u c :: pwS tu (gol tu u c) w
noncomputable def tlS (tu : Bool) (u : T4) (w : List Nat) : List Nat := (pwS tu u w).flatten
section
variable {n : Int} {tu : Bool}
end
noncomputable def vr (tu : Bool) (u : T4) (a r : List Nat) : Nat → T4
  | 0 => goS tu u a
  | i + 1 => goS tu (vr tu u a r i) r
noncomputable def trS (tu : Bool) (u : T4) (a r : List Nat) (i : Nat) : List Nat := tlS tu (vr tu u a r i) r
structure Pcy (tu : Bool) (u : T4) (a r : List Nat) (k p : Nat) : Prop where
  lt : k < p
  eq : vr tu u a r k = vr tu u a r p
  ne : ∀ i j, i < j → j < p → vr tu u a r i ≠ vr tu u a r j
end Z
namespace Z
open PySem PySem.Spec PyProof.Rows L2

end Z
namespace Z
open PySem PySem.Spec PyProof.Rows L2

def row (C : Addr) (x y : List Nat) : D := .obj C [("whole", .tup [.str ⟨x.toArray⟩, .str ⟨y.toArray⟩])]
end Z
namespace Z
open PySem PySem.Spec PyProof.Rows L2

end Z
namespace Z
open PySem PySem.Spec PyProof.Rows L2

end Z
namespace Z
open PySem PySem.Spec PyProof.Rows L2

end Z
namespace Z
open PySem PySem.Spec PyProof.Rows L2
def obsE (as : List Addr) (fa : List FF) (fn : List DefZ) (g : Addr → Option Obj) : He.AlD := obsZ fa fn (He.frG g as)
def hookE (as : List Addr) (fa : List FF) (fn : List DefZ) : PySem.W.Hook where
  α := He.AlD
  obs := fun s => obsE as fa fn s.heap.get?
  val := fun _ => valZ fn
  says := fun _ h => ∃ K : PySem.W.Frag, K.In h ∧ SaysZ fa fn K
  of := fun _ _ e => ⟨_, He.frG_in, e⟩
  keeps := fun _ _ _ ⟨K, hK, c⟩ k => ⟨K, PySem.W.Frag.In.keeps hK k, c⟩
theorem obsE_eq {as : List Addr} {fa : List FF} {fn : List DefZ} {g : Addr → Option Obj} {s : Shared} (h : ∀ a, g a = s.heap.get? a) : obsE as fa fn g = (hookE as fa fn).obs s := by
  have e : g = s.heap.get? := funext h
  rw [e] <;> rfl
end Z
namespace Z
open PySem PySem.Spec PyProof.Rows L2

section
variable {X : Cx} {B : Bs} {Ξ : XD → En → Sto → Prop}
end

section
variable {X : Cx} {B : Bs} {o : Expr} {fn : Str} {pos : Pos} {C : Addr} {fo : DTE} {to : TE}
end

section
variable {X : Cx} {B : Bs} {Ξ : XD → En → Sto → Prop} {k j : Nat} {c : Ct} {pos apos : Pos} {e o : Expr} {es : List Expr} {ga : DTA} {fo : DTE} {C : Addr} {m : Str}
end

section
variable {X : Cx} {tg : Expr}
end
end Z
namespace Z
open PySem PySem.Spec PyProof.Rows L2

abbrev Pc := List Nat × Nat
def fltP (L : List Pc) : List Pc := L.filter fun q => decide (q.1 ≠ []) && decide (0 < q.2)
noncomputable def cyc2 (tu : Bool) (v : T4) (x : List Nat) : Nat × Nat := by
  classical
  exact if h : ∃ q : Nat × Nat, Pcy tu v [] x q.1 q.2 then h.choose else (0, 1)
def lnP (T : Nat → List Nat) (i : Nat) : List Pc := (List.range i).map fun j => (T j, 1)
def oftP (T : Nat → List Nat) (N k p : Nat) : List Pc :=
  if N ≤ p then lnP T N else lnP T p ++ [(((List.range (p - k)).map fun i => T (k + i)).flatten, (N - p) / (p - k))] ++ lnP (fun i => T (k + i)) ((N - p) % (p - k))
noncomputable def fdP (tu : Bool) (v : T4) (x : List Nat) (N : Nat) : List Pc := fltP (oftP (trS tu v [] x) N (cyc2 tu v x).1 (cyc2 tu v x).2)
noncomputable def fdR (tu : Bool) (v : T4) (x : List Nat) (N : Nat) : T4 := if N ≤ (cyc2 tu v x).2 then vr tu v [] x N else vr tu v [] x ((cyc2 tu v x).1 + (N - (cyc2 tu v x).2) % ((cyc2 tu v x).2 - (cyc2 tu v x).1))
structure Fst where
  v : T4
  came : Nat
  L : List Pc
noncomputable def Fst.item (tu : Bool) (s : Fst) (x : List Nat) (N : Nat) : Fst := ⟨fdR tu s.v x N, s.came + x.length * N, s.L ++ fdP tu s.v x N⟩
end Z
namespace Z
open PySem PySem.Spec PyProof.Rows L2

end Z
namespace Z
open PySem PySem.Spec PyProof.Rows L2

end Z
namespace Z
open PySem PySem.Spec PyProof.Rows L2

end Z
namespace Z
open PySem PySem.Spec PyProof.Rows L2

theorem neSelf {M : Sto} {n : Nat} {d : D} {φ : D → Prop} (h : Pl n d) (q : φ (.bl false)) (hn : n ≤ 64 := by decide) : neD M d d φ := nePl h h (fun b hb => by
  obtain rfl : b = true := hb.mpr rfl
  exact q) hn hn
end Z
namespace Z
open PySem PySem.Spec PyProof.Rows L2

section
variable {prog : Program} {w : World} {A : Around} {E : Value → Shared → Prop} {s : Shared}
end
abbrev DPat := D → Sto → (Option (List D) → Prop) → Prop
abbrev DPats := List D → Sto → (Option (List D) → Prop) → Prop
section
variable {f : DPat} {g' : DPats} {is : List Nat} {g : DTS} {h : D → DTS} {E : Ek} {r : En} {M : Sto} {l : List D} {n k : Nat} {i j : Str}
end
section
variable {X : Cx} {B : Bs} {pos : Pos}
end
section
variable {prog : Program} {w : World} {A : Around} {E : Value → Shared → Prop} {s : Shared}
end
section
variable {X : Cx} {B : Bs} {pos : Pos}
end
end Z
namespace Z
open PySem PySem.Spec PyProof.Rows L2

section
variable {X : Cx} {B : Bs} {pos p p1 p2 p3 : Pos} {e o : Expr} {es : List Expr} {fa fo : DTE} {ga : DTA} {k : Nat}
theorem RepL.reverse {K : PySem.W.Frag} {G : Hp} : ∀ {ds : List D} {vs : List V}, RepL K G ds vs → RepL K G ds.reverse vs.reverse
  | _, _, .nil => .nil
  | d :: ds, v :: vs, .cons h r => by
    rw [List.reverse_cons, List.reverse_cons]
    exact r.reverse.app (.cons h .nil)
end
end Z
namespace Z
open PySem PySem.Spec PyProof.Rows L2

section
variable {X : Cx} {B : Bs} {pos p : Pos} {e : Expr} {ga : DTA}
end
section
variable {X : Cx} {B : Bs} {pos : Pos} {a b : Expr} {fa fb : DTE}
end
section
variable {X : Cx} {B : Bs} {pos p : Pos} {e : Expr} {ga : DTA} {fa : DTE}
end
section
variable {vs : List Nat} {wi : DTI} {as : D → En → (En → Prop) → Prop} {fe : DTE} {r : En} {M : Sto} {Φ : List D → Sto → Prop}
end
end Z
namespace Z
open PySem PySem.Spec PyProof.Rows L2

inductive Pg where
  | tab (t : T4) | trn (w : Str) | swp | thn (l : List Pg) | tms (n : Int) (p : Pg) | use (x : Str)
mutual
/-- how deep it is nested -/
def pgK : Pg → Nat
  | .thn l => pgKs l + 1
  | .tms _ p => pgK p + 1
  | _ => 1
def pgKs : List Pg → Nat
  | [] => 0
  | p :: l => max (pgK p) (pgKs l)
end
mutual
/-- how many parts there are -/
def pgN : Pg → Nat
  | .thn l => pgNs l + 1
  | .tms _ p => pgN p + 1
  | _ => 1
def pgNs : List Pg → Nat
  | [] => 0
  | p :: l => pgN p + pgNs l
end
def PgS : Pg → Prop
  | .thn l => l.length + 1 ≤ 16384
  | _ => True
mutual
/-- the names in the order of writing -/
def pgU : Pg → List Str
  | .use x => [x]
  | .thn l => pgUs l
  | .tms _ p => pgU p
  | _ => []
def pgUs : List Pg → List Str
  | [] => []
  | p :: l => pgU p ++ pgUs l
end
def NameOk (x : Str) : Prop := 1 ≤ x.cps.size ∧ x.cps.size ≤ 8 ∧ x ≠ "swap" ∧ x ≠ "then" ∧ ∀ c ∈ x.cps.toList, 97 ≤ c ∧ c ≤ 122
def TabOk (t : T4) : Prop := Nn t ∧ t.1 ≤ 60 ∧ t.2.1 ≤ 60 ∧ t.2.2.1 ≤ 60 ∧ t.2.2.2 ≤ 60 ∧ det4 t ≠ 0
def PtOk : Pg → Prop
  | .tab t => TabOk t
  | .trn w => LR w.cps.toList ∧ 1 ≤ w.cps.size ∧ w.cps.size ≤ 60
  | .swp => True
  | .thn l => 2 ≤ l.length ∧ l.length ≤ 6
  | .tms n _ => 0 ≤ n ∧ n ≤ 12
  | .use x => NameOk x
mutual
def PgOk : Pg → Prop
  | .thn l => PtOk (.thn l) ∧ PgOks l
  | .tms n p => PtOk (.tms n p) ∧ PgOk p
  | p => PtOk p
def PgOks : List Pg → Prop
  | [] => True
  | p :: l => PgOk p ∧ PgOks l
end
theorem strOk_of {x : Str} (h : ∀ c ∈ x.cps.toList, c < 0x110000) : PyData.strOk x = true := by
  unfold PyData.strOk
  rw [Array.all_eq_true]
  intro i hi
  exact decide_eq_true (h _ (by rw [← Array.getElem_toList (h := hi)]; exact List.getElem_mem _))
theorem LR.lt {l : List Nat} (h : LR l) : ∀ c ∈ l, c < 0x110000 := fun c hc => by have := h c hc; omega
theorem PgOk.s {p : Pg} (h : PgOk p) : PgS p := by
  cases p with
  | thn l => have := h.1.2; show l.length + 1 ≤ 16384; omega
  | _ => trivial
theorem least {p : Nat → Prop} (h : ∃ n, p n) : ∃ n, p n ∧ ∀ m, p m → n ≤ m := by
  obtain ⟨n, hn⟩ := h
  induction n using Nat.strongRecOn with
  | ind n ih =>
    by_cases e : ∃ m, m < n ∧ p m
    · obtain ⟨m, hm, pm⟩ := e
      exact ih m hm pm
    · exact ⟨n, hn, fun m pm => Nat.le_of_not_lt fun hm => e ⟨m, hm, pm⟩⟩
def capT (t : T4) : Option T4 := if (pr4 t).1 ≤ 1000000 ∧ (pr4 t).2.1 ≤ 1000000 ∧ (pr4 t).2.2.1 ≤ 1000000 ∧ (pr4 t).2.2.2 ≤ 1000000 then some (pr4 t) else none
def stepT (f : Option T4) (d : Option T4) : Option T4 := match d, f with
  | some d, some f => capT (mul4 d f)
  | _, _ => none
def powT (d : Option T4) (n : Nat) : Option T4 := (List.range n).foldl (fun f _ => stepT f d) (some O4)
mutual
def tbl (g : Str → Option T4) : Pg → Option T4
  | .tab t => capT t
  | .trn w => capT (wL w.cps.toList)
  | .swp => some (0, 1, 1, 0)
  | .thn l => match tbls g l with
    | [] => none
    | d :: r => r.foldl stepT d
  | .tms n p => match tbl g p with
    | none => none
    | some t => powT (some t) n.toNat
  | .use x => g x
def tbls (g : Str → Option T4) : List Pg → List (Option T4)
  | [] => []
  | p :: l => tbl g p :: tbls g l
end
theorem Dr.rs {p : Addr} {M M' M8 : Sto} (d : Dr p M M') (h0 : HandAt M p) (h : ∀ a, M' a ≠ none → M8 a = M' a) : Dr p M (rs M M8) := by
  obtain ⟨hh, e0, _⟩ := h0
  obtain ⟨h1, e1, h2⟩ := d.1
  have e8 : Z.rs M M8 p = some (hd h1) := by
    unfold Z.rs
    rw [e0]
    show M8 p = _
    rw [h p (by rw [e1]; simp), e1]
  refine ⟨⟨h1, e8, h2⟩, fun q hq => ?_⟩
  unfold Z.rs
  cases e : M q with
  | none => rfl
  | some c =>
    show M8 q = some c
    have := d.2 q hq
    rw [h q (by rw [this, e]; simp), this, e]
def rl5 : Str := Txt.mul "RL" 5
def addS (acc : List Str) (x : Str) : List Str := if x ∈ acc then acc else acc ++ [x]
def dd (xs : List Str) : List Str := xs.foldl addS []
end Z
namespace Z
open PySem PySem.Spec PyProof.Rows L2 PySem.NumText

def strC (x : Str) : List Nat := x.cps.toList
def decC (i : Int) : List Nat := strC (Str.ofString (toString i))
end Z
namespace Z
open PySem PySem.Spec PyProof.Rows L2

section
variable {P : Program} {w : World} {K : PySem.W.Frag} {mg : Str → Option Value} {base : Heap}
end
section
variable {X : Cx} {B : Bs} {Ξ : XD → En → Sto → Prop} {pos p : Pos} {e : Expr} {es : List Expr} {ga : DTA} {k n : Nat} {x : Str} {C : Addr} {g : List V → List (Str × V)}
end
section
variable {X : Cx} {B : Bs} {Ξ : XD → En → Sto → Prop} {pos p cpos : Pos} {e : Expr} {es : List Expr} {ga : DTA} {k : Nat} {x : Str} {C : Addr}
end
section
variable {P : Program} {w : World} {K : PySem.W.Frag} {mg : Str → Option Value} {base : Heap} {x qual : Str} {st : Stmt} {f : Addr} {fd : FuncData} {N ps : List Str} {k : Nat} {dvs : List V} {kws : List (Str × V)}
end
section
variable {X : Cx} {B : Bs} {Ξ : XD → En → Sto → Prop} {pos p np pos' : Pos} {e : Expr} {es : List Expr} {ga : DTA} {j k n : Nat} {x : Str} {c : Ct} {bs : List (Nat × List Str × (List D → List D → List D))} {g : List D → List D → List D}
end
end Z
namespace Z
open PySem PySem.Spec PyProof.Rows L2

section
variable {ts : List DTE} {t : DTE} {a w : List Nat} {r : En} {M : Sto} {φ : Str → Sto → Prop}
end
def wB (d : D) : Bool := match d with
  | .str x => x.cps.toList.all fun c => decide (c ∈ ("LR" : Str).cps.toList)
  | _ => false
end Z
namespace Z
open PySem PySem.Calls PySem.Spec PyProof.Rows PySem.Builtin PySem.Builtin.ObjectAttr PySem.Builtin.Getset_descriptor

section
variable {prog : Program} {w : World} {A : Around} {s : Shared} {K : PySem.W.Frag} {p x C fs : Addr} {R : Result → Shared → Prop} {v : Value}
end
section
open L2
variable {X : Cx} {B : Bs} {Ξ : XD → En → Sto → Prop} {k j n : Nat} {c : Ct} {pos p' : Pos} {o value : Expr} {fa fo : DTE} {C : Addr} {fn : Str}
end
section
open L2
variable {P : Program} {w : World} {K : PySem.W.Frag} {mg : Str → Option Value} {base : Heap} {x m : Str} {fd : FuncData} {ps : List Str} {k : Nat} {c : Ct}
end
end Z
namespace Z
open PySem PySem.Spec PyProof.Rows

section
variable {prog : Program} {w : World} {K : Type} [DecidableEq K] {knd : KeyKind prog w K} {A : Around} {E : Value → Shared → Prop} {s : Shared}
end
section
open L2
end
end Z
namespace Z
open PySem PySem.Spec PyProof.Rows L2

section
variable {K : PySem.W.Frag} {B : Bs} {r : En} {M : Sto} {σ : L2.St} {H G : Hp} {p : Addr} {l : List (D × D)} {kvs : List (Key × V)} {o : Obj}
end
section
variable {X : Cx} {B : Bs} {pos : Pos} {e de ke ve : Expr} {fa fd fk fv : DTE} {k : Nat}
end
section
variable {X : Cx} {B : Bs} {pos : Pos} {fk fe : DTE} {tt : DTT} {k : Nat}
end
end Z
namespace Z
open PySem PySem.Spec PyProof.Rows L2

section
variable {X : Cx} {B : Bs} {apos cpos p1 : Pos} {e f : Expr} {fe ff : DTE} {x : Str} {kvs : List (Str × Int)} {ty tx : TE}
end
section
variable {X : Cx} {B : Bs} {apos cpos p1 : Pos} {e f : Expr} {fe ff : DTE} {x : Str} {kvs : List (Str × Int)}
end
end Z
namespace Z
open PySem PySem.Spec PyProof.Rows L2

section
variable {X : Cx} {e : Expr} {te : TE} {p apos cpos pos : Pos}
end
section
variable {X : Cx} {B : Bs} {p apos cpos pos : Pos} {e : Expr} {fa : DTE}
end
section
variable {X : Cx} {B : Bs} {pos p : Pos} {e : Expr} {ga : DTA}
end
end Z
namespace Z
open PySem PySem.Spec PyProof.Rows L2

abbrev Ps := List (Str × Pg)
abbrev Ts := List (Str × T4)
def nms {α : Type} (ps : List (Str × α)) : List Str := ps.map (·.1)
def tbsA : Ts → Ps → Option Ts
  | acc, [] => some acc
  | acc, q :: r => match tbl (fun y => acc.lookup y) q.2 with
    | some t => tbsA (acc ++ [(q.1, t)]) r
    | none => none
def tbs (ps : Ps) : Option Ts := tbsA [] ps
structure PsOk (ps : Ps) : Prop where
  few : ps.length ≤ 30
  nd : (nms ps).Nodup
  ok : ∀ q ∈ ps, NameOk q.1 ∧ PgOk q.2 ∧ pgK q.2 ≤ 8 ∧ pgN q.2 ≤ 5000
  use : ∀ i q, ps[i]? = some q → ∀ x ∈ pgU q.2, x ∈ nms (ps.take i)
def put {α : Type} : List (Str × α) → Str → α → List (Str × α)
  | [], x, a => [(x, a)]
  | q :: r, x, a => if q.1 = x then (x, a) :: r else q :: put r x a
def ahead (ps : Ps) (x : Str) : List Str := (nms ps).take ((nms ps).idxOf x)
section
variable {X : Cx} {B : Bs} {pos p : Pos} {e : Expr} {ga : DTA}
end
end Z
namespace Z
open PySem PySem.Spec PyProof.Rows L2

section
variable {X : Cx} {B : Bs} {a b : Expr} {fa fb : DTE} {k : Nat} {pos : Pos}
end
section
variable {X : Cx} {B : Bs} {a b : Expr} {fa fb : DTE} {k : Nat} {pos : Pos}
end
section
variable {X : Cx} {B : Bs} {e l tg : Expr} {fa : DTE}
end
end Z
namespace Z
open PySem PySem.Spec PyProof.Rows L2

section
variable {α β : Type}
theorem mem_nms {ps : List (Str × α)} {q : Str × α} (h : q ∈ ps) : q.1 ∈ nms ps := List.mem_map.mpr ⟨q, h, rfl⟩
theorem nms_app (a b : List (Str × α)) : nms (a ++ b) = nms a ++ nms b := List.map_append
theorem put_not {ps : List (Str × α)} {x : Str} {a : α} (hx : x ∉ nms ps) : put ps x a = ps ++ [(x, a)] := by
  induction ps with
  | nil => rfl
  | cons q r ih =>
    have e : q.1 ≠ x := fun z => hx (by rw [← z]; exact List.mem_cons_self)
    rw [put, if_neg e, ih fun z => hx (List.mem_cons_of_mem _ z)]
    rfl
theorem put_nms {ps : List (Str × α)} {x : Str} {a : α} (hx : x ∈ nms ps) : nms (put ps x a) = nms ps := by
  induction ps with
  | nil => cases hx
  | cons q r ih =>
    by_cases e : q.1 = x
    · rw [put, if_pos e]
      show x :: nms r = q.1 :: nms r
      rw [e]
    · rw [put, if_neg e]
      show q.1 :: nms (put r x a) = q.1 :: nms r
      rw [ih ((List.mem_cons.mp hx).resolve_left fun z => e z.symm)]
theorem put_get {ps : List (Str × α)} {x : Str} {a : α} {i : Nat} {q : Str × α} (h : (put ps x a)[i]? = some q) : q = (x, a) ∧ (i = (nms ps).idxOf x) ∨ ps[i]? = some q := by
  induction ps generalizing i with
  | nil =>
    cases i with
    | zero => cases h; exact .inl ⟨rfl, rfl⟩
    | succ i => simp [put] at h
  | cons p r ih =>
    by_cases e : p.1 = x
    · rw [put, if_pos e] at h
      cases i with
      | zero => cases h; exact .inl ⟨rfl, by show 0 = List.idxOf x (p.1 :: nms r); rw [e, List.idxOf_cons_self]⟩
      | succ i => exact .inr h
    · rw [put, if_neg e] at h
      cases i with
      | zero => exact .inr h
      | succ i =>
        rcases ih (i := i) h with ⟨h1, h2⟩ | h1
        · refine .inl ⟨h1, ?_⟩
          show i + 1 = List.idxOf x (p.1 :: nms r)
          rw [List.idxOf_cons, show (p.1 == x) = false from by simpa using e, h2]; rfl
        · exact .inr h1
end
def dl {α : Type} (x : Str) (a : List (Str × α)) : List (Str × α) := a.filter fun q => decide (q.1 ≠ x)
theorem nms_take {α : Type} (ps : List (Str × α)) (i : Nat) : nms (ps.take i) = (nms ps).take i := List.map_take
theorem PsOk.nil : PsOk [] := ⟨by simp, List.nodup_nil, (fun q h => nomatch h), (fun i q h => by simp at h)⟩
theorem PsOk.put {ps : Ps} (h : PsOk ps) {x : Str} {p : Pg} (hx : NameOk x) (hp : PgOk p ∧ pgK p ≤ 8 ∧ pgN p ≤ 5000) (hu : ∀ y ∈ pgU p, y ∈ ahead ps x) (hl : x ∉ nms ps → ps.length < 30) : PsOk (put ps x p) := by
  by_cases e : x ∈ nms ps
  · have en := put_nms (a := p) e
    refine ⟨?_, by rw [en]; exact h.nd, fun q hq => ?_, fun i q hq y hy => ?_⟩
    · have := congrArg List.length en
      rw [show (nms (Z.put ps x p)).length = (Z.put ps x p).length from List.length_map .., show (nms ps).length = ps.length from List.length_map ..] at this
      rw [this]; exact h.few
    · obtain ⟨i, hi⟩ := List.mem_iff_getElem?.mp hq
      rcases put_get hi with ⟨rfl, _⟩ | hi
      · exact ⟨hx, hp⟩
      · exact h.ok q (List.mem_of_getElem? hi)
    · rw [nms_take, en]
      rcases put_get hq with ⟨rfl, rfl⟩ | hi
      · exact hu y hy
      · rw [← nms_take]; exact h.use i q hi y hy
  · rw [put_not e]
    refine ⟨by rw [List.length_append]; have := hl e; simp; omega, by
      rw [nms_app]
      exact List.nodup_append.mpr ⟨h.nd, by simp [nms], fun a ha b hb => by
        obtain rfl := List.mem_singleton.mp hb
        exact fun z => e (by rw [← z]; exact ha)⟩, fun q hq => ?_, fun i q hq y hy => ?_⟩
    · rcases List.mem_append.mp hq with hq | hq
      · exact h.ok q hq
      · obtain rfl := List.mem_singleton.mp hq; exact ⟨hx, hp⟩
    · rw [List.getElem?_append] at hq
      split at hq
      · rename_i hi
        rw [List.take_append_of_le_length (Nat.le_of_lt hi)]
        exact h.use i q hq y hy
      · rename_i hi
        have hi2 : i = ps.length := by
          have := List.getElem?_eq_some_iff.mp hq
          obtain ⟨h1, _⟩ := this
          simp at h1
          omega
        subst hi2
        simp at hq
        subst hq
        rw [List.take_left]
        have := hu y hy
        unfold ahead at this
        exact List.mem_of_mem_take this
theorem PsOk.drop {ps : Ps} (h : PsOk ps) {x : Str} (hu : ∀ q ∈ ps, x ∉ pgU q.2) : PsOk (dl x ps) := by
  have key : ∀ (ps : Ps) (pre : List Str), (∀ q ∈ ps, x ∉ pgU q.2) → (∀ i q, ps[i]? = some q → ∀ y ∈ pgU q.2, y ∈ pre ++ nms (ps.take i)) → ∀ i q, (dl x ps)[i]? = some q → ∀ y ∈ pgU q.2, y ∈ pre ∨ y ∈ nms ((dl x ps).take i) := by
    intro ps
    induction ps with
    | nil => intro pre _ _ i q hq; simp [dl] at hq
    | cons p r ih =>
      intro pre hu hh i q hq y hy
      have r1 := fun q hq => hu q (List.mem_cons_of_mem _ hq)
      have r2 : ∀ i q, r[i]? = some q → ∀ y ∈ pgU q.2, y ∈ (pre ++ [p.1]) ++ nms (r.take i) := fun i q hi y hy => by
        have := hh (i + 1) q hi y hy
        rw [List.take_succ_cons] at this
        rw [List.append_assoc]
        exact this
      by_cases e : p.1 = x
      · have e1 : dl x (p :: r) = dl x r := List.filter_cons_of_neg (by simp [e])
        rw [e1] at hq ⊢
        rcases ih (pre ++ [p.1]) r1 r2 i q hq y hy with h | h
        · rcases List.mem_append.mp h with h | h
          · exact .inl h
          · obtain rfl := List.mem_singleton.mp h
            exfalso
            have hm : q ∈ dl x r := List.mem_of_getElem? hq
            exact r1 q (List.mem_filter.mp hm).1 (by rw [← e]; exact hy)
        · exact .inr h
      · have e1 : dl x (p :: r) = p :: dl x r := List.filter_cons_of_pos (by simp [e])
        rw [e1] at hq ⊢
        cases i with
        | zero =>
          cases hq
          have := hh 0 p rfl y hy
          simp [nms] at this
          exact .inl this
        | succ i =>
          rcases ih (pre ++ [p.1]) r1 r2 i q hq y hy with h | h
          · rcases List.mem_append.mp h with h | h
            · exact .inl h
            · obtain rfl := List.mem_singleton.mp h
              exact .inr (by rw [List.take_succ_cons]; exact List.mem_cons_self)
          · exact .inr (by rw [List.take_succ_cons]; exact List.mem_cons_of_mem _ h)
  refine ⟨Nat.le_trans (List.length_filter_le ..) h.few, ?_, fun q hq => h.ok q (List.mem_filter.mp hq).1, fun i q hq y hy => ?_⟩
  · exact List.Nodup.sublist (List.Sublist.map _ (List.filter_sublist)) h.nd
  · rcases key ps [] hu (fun i q hi y hy => by rw [List.nil_append]; exact h.use i q hi y hy) i q hq y hy with h | h
    · cases h
    · exact h
end Z
namespace Z
open PySem PySem.Spec PyProof.Rows L2

theorem NameOk.st {x : Str} (h : NameOk x) : PyData.strOk x = true := strOk_of fun c hc => by have := h.2.2.2.2 c hc; omega
structure Bk where
  ps : Ps
  ts : Ts
  er : List Ps
  la : List Ps
  ml : List (Str × D)
  many : Nat
  gr : Int
structure Bd where
  b : Addr
  e : Addr
  l : Addr
  m : Addr
def Bd.has (A : Bd) (a : Addr) : Prop := a = A.b ∨ a = A.e ∨ a = A.l ∨ a = A.m
def keepM (ts' ts : Ts) (ml : List (Str × D)) : List (Str × D) := ml.filter fun q => (ts'.lookup q.1).isSome && decide (ts'.lookup q.1 = ts.lookup q.1)
def Bk.turn (S : Bk) (qs : Ps) (ts : Ts) : Bk := { S with ps := qs, ts := ts, ml := keepM ts S.ts S.ml }
end Z
namespace Z
open PySem PySem.Spec PyProof.Rows L2

def Bk.step (S : Bk) (qs : Ps) (ts : Ts) : Bk := { S.turn qs ts with er := S.er ++ [S.ps], la := [] }
end Z
namespace PySem.SeqAt
open AutoSeq1 (wpAny_loadPart')
open MeetsSeq MeetsSeq2 MeetsSeq3 SeqRoads2
variable {prog : Program} {w : World}
end PySem.SeqAt
namespace Z
open PySem PySem.Spec PyProof.Rows L2
section
variable {X : Cx} {B : Bs} {a b : Expr} {fa fb : DTE} {k : Nat} {pos : Pos}
end
end Z
namespace Z
open PySem PySem.Spec PyProof.Rows L2
def coinP : Pg := .tab (2, 0, 0, 1)
def manyP : Pg := .thn [.use "coin", .trn "RL"]
def lastP : Pg := .thn [.use "many", .swp]
def ps1 : Ps := [("coin", coinP), ("many", manyP)]
def ps2 : Ps := [("coin", coinP), ("many", manyP), ("last", lastP)]
def ts1 : Ts := [("coin", (2, 0, 0, 1)), ("many", (4, 1, 2, 1))]
def ts2 : Ts := [("coin", (2, 0, 0, 1)), ("many", (4, 1, 2, 1)), ("last", (2, 1, 4, 1))]
def bk0 : Bk := ⟨[], [], [], [], [], 0, 10⟩
def bk1 : Bk := bk0.step ps1 ts1
def bk2 : Bk := bk1.step ps2 ts2
def bk3 : Bk := bk2.step ps2 ts2
def bk4 : Bk := { bk3.turn ps2 ts2 with er := [[], ps1], la := [ps2] }
end Z
namespace Z
open PySem PySem.Spec PyProof.Rows L2

section
variable {X : Cx} {B : Bs} {k j : Nat} {c : Ct} {pos : Pos} {a b : Expr} {fa fb : DTE} {C : Addr} {bs : List (Nat × List Str × (List D → List D → List D))}
end
section
variable {X : Cx} {B : Bs} {fa : DTE} {apos cpos : Pos}
end
end Z
namespace Z
open PySem PySem.Spec PyProof.Rows L2

def oD : Option T4 → D
  | none => .non
  | some t => tD t
section
variable {X : Cx}
end
section
variable {X : Cx} {B : Bs} {pos p : Pos} {e : Expr} {ga : DTA}
end
end Z
namespace Z
open PySem PySem.Spec PyProof.Rows L2

end Z
namespace Z
open PySem PySem.Spec PyProof.Rows L2
section
variable {X : Cx} {B : Bs} {a b : Expr} {fa fb : DTE} {k : Nat} {pos : Pos}
end
section
variable {X : Cx} {B : Bs} {a b : Expr} {fa fb : DTE} {k : Nat} {pos : Pos}
end
theorem HandAt.nn {M : Sto} {p : Addr} (h : HandAt M p) : M p ≠ none := by
  obtain ⟨x, e, _⟩ := h
  rw [e]
  exact fun z => by cases z
theorem HandAt.same {M M' : Sto} {p : Addr} (h : HandAt M p) (e : M' p = M p) : HandAt M' p := by
  obtain ⟨x, e1, b⟩ := h
  exact ⟨x, e.trans e1, b⟩
end Z
namespace Z
open PySem PySem.Spec PyProof.Rows L2

section
variable {X : Cx} {B : Bs} {pos p : Pos} {e : Expr} {ga : DTA}
end
end Z
namespace Z
open PySem PySem.Spec PyProof.Rows L2

section
variable {M M' : Sto} {p t : Addr} {q : Str} {A A' : Bd} {ap af : Addr} {la lf : List D} {sp : Addr} {sd : List (D × D)}
end
section
variable {M0 M : Sto} {C CT CM p t : Addr} {q : Str} {A : Bd} {S : Bk} {ap af sp : Addr} {tsO : Ts} {mlO : List (Str × D)}
end
end Z
namespace Z
open PySem PySem.Spec PyProof.Rows L2

end Z
namespace Z
open PySem PySem.Spec PyProof.Rows L2

theorem nms_put {α : Type} (x : Str) (a : α) : ∀ ps : List (Str × α), nms (Z.put ps x a) = if x ∈ nms ps then nms ps else nms ps ++ [x]
  | [] => by simp [Z.put, nms]
  | q :: r => by
    rw [Z.put]
    by_cases e : q.1 = x
    · rw [if_pos e, if_pos (by simp [nms, e])]
      simp [nms, e]
    · rw [if_neg e]
      show q.1 :: nms (Z.put r x a) = _
      rw [nms_put x a r]
      by_cases h : x ∈ nms r
      · rw [if_pos h, if_pos (by simp only [nms, List.map_cons, List.mem_cons]; exact .inr h)]
        rfl
      · rw [if_neg h, if_neg (by
          simp only [nms, List.map_cons, List.mem_cons, not_or]
          exact ⟨fun z => e z.symm, h⟩)]
        rfl
section
variable {M0 M M' : Sto} {p C CT : Addr} {A A' : Bd} {S : Bk}
end
end Z
namespace Z
open PySem PySem.Spec PyProof.Rows L2
section
variable {X : Cx} {B : Bs} {pos p : Pos} {a : Expr} {ga : DTA}
end
end Z
namespace Z
open PySem PySem.Spec PyProof.Rows L2
section
variable {M0 M M' : Sto} {C CT : Addr} {A0 G0 A G A' G' : Bd} {S T S' T' : Bk}
end
section
variable {M M' : Sto} {C CT p P : Addr} {q : Str} {l : List (Bd × Bk)} {pb : Addr} {n : Nat}
theorem map_set {α β : Type} (f : α → β) : ∀ {l : List α} {i : Nat} {a b : α}, l[i]? = some a → f b = f a → (l.set i b).map f = l.map f
  | [], _, _, _, h, _ => by simp at h
  | x :: l, 0, a, b, h, e => by cases h; simp [e]
  | x :: l, i + 1, a, b, h, e => by
    show f x :: (l.set i b).map f = _
    rw [map_set f (show l[i]? = some a from h) e]
    rfl
end
section
variable {M M' : Sto} {C CT pb : Addr} {L : List D} {Az : Bd} {Sz : Bk} {b0 : Addr} {A A' : Bd} {S S' : Bk} {i j : Nat}
end
end Z
namespace Z
open PySem PySem.Spec PyProof.Rows L2
section
variable {X : Cx} {B : Bs} {pos p p1 p2 p3 : Pos} {e e2 o : Expr} {es : List Expr} {fa fo : DTE} {ga : DTA} {k : Nat}
end
end Z
namespace Z
open PySem PySem.Spec PyProof.Rows L2
def Fp (t : T4) (p : Pg) : Prop := pgU p = [] ∧ ∀ g, tbl g p = some t
structure G3 (L : List Str) (f : Str → T4) (ps : Ps) : Prop where
  nm : (nms ps).Perm L
  pg : ∀ q ∈ ps, Fp (f q.1) q.2
theorem fp_tbA {f : Str → T4} : ∀ {ps : Ps}, (∀ q ∈ ps, Fp (f q.1) q.2) → ∀ acc : Ts, tbsA acc ps = some (acc ++ ps.map fun q => (q.1, f q.1))
  | [], _, acc => by rw [tbsA]; simp
  | q :: r, h, acc => by
    rw [tbsA, (h q List.mem_cons_self).2]
    dsimp only
    rw [fp_tbA (fun z hz => h z (List.mem_cons_of_mem _ hz)), List.append_assoc]
    rfl
theorem lk_mapf {f : Str → T4} {x : Str} : ∀ {ps : Ps}, x ∈ nms ps → List.lookup x (ps.map fun q => (q.1, f q.1)) = some (f x)
  | [], h => by cases h
  | q :: r, h => by
    rw [List.map_cons, List.lookup_cons]
    by_cases e : x = q.1
    · rw [e]; simp
    · rw [show (x == q.1) = false from by simpa using e]
      exact lk_mapf ((List.mem_cons.mp h).resolve_left e)
theorem mem_putN {α : Type} {x : Str} {p : α} : ∀ {ps : List (Str × α)} {q : Str × α}, (nms ps).Nodup → q ∈ put ps x p → q = (x, p) ∨ (q ∈ ps ∧ q.1 ≠ x)
  | [], q, _, h => by rw [put, List.mem_singleton] at h; exact .inl h
  | a :: r, q, nd, h => by
    have nd : (a.1 :: nms r).Nodup := nd
    obtain ⟨n1, n2⟩ := List.nodup_cons.mp nd
    rw [put] at h
    by_cases e : a.1 = x
    · rw [if_pos e] at h
      rcases List.mem_cons.mp h with h | h
      · exact .inl h
      · exact .inr ⟨List.mem_cons_of_mem _ h, fun z => n1 (by rw [e, ← z]; exact mem_nms h)⟩
    · rw [if_neg e] at h
      rcases List.mem_cons.mp h with rfl | h
      · exact .inr ⟨List.mem_cons_self, e⟩
      · rcases mem_putN n2 h with h | ⟨h, h2⟩
        · exact .inl h
        · exact .inr ⟨List.mem_cons_of_mem _ h, h2⟩
section
variable {L : List Str} {f : Str → T4} {ps : Ps} {x y : Str} {p : Pg} {t : T4} {lim : Int}
theorem G3.tb (h : G3 L f ps) : tbs ps = some (ps.map fun q => (q.1, f q.1)) := fp_tbA h.pg []
theorem G3.nd (h : G3 L f ps) (n : L.Nodup) : (nms ps).Nodup := h.nm.nodup_iff.mpr n
theorem G3.mem (h : G3 L f ps) : x ∈ nms ps ↔ x ∈ L := h.nm.mem_iff
theorem G3.lk (h : G3 L f ps) (hx : x ∈ L) : List.lookup x (ps.map fun q => (q.1, f q.1)) = some (f x) := lk_mapf (h.mem.mpr hx)
def upN (f : Str → T4) (x : Str) (t : T4) : Str → T4 := fun n => if n = x then t else f n
theorem put_pg (n : (nms ps).Nodup) (h : ∀ q ∈ ps, Fp (f q.1) q.2) (hp : Fp t p) : ∀ q ∈ put ps x p, Fp (upN f x t q.1) q.2 := fun q hq => by
  unfold upN
  rcases mem_putN n hq with rfl | ⟨hq, e⟩
  · rw [if_pos rfl]; exact hp
  · rw [if_neg e]; exact h q hq
theorem G3.set (h : G3 L f ps) (n : L.Nodup) (hx : x ∈ L) (hp : Fp t p) : G3 L (upN f x t) (put ps x p) :=
  ⟨by rw [nms_put, if_pos (h.mem.mpr hx)]; exact h.nm, put_pg (h.nd n) h.pg hp⟩
theorem nms_dl : nms (dl x ps) = (nms ps).filter fun n => decide (n ≠ x) := by unfold nms dl; rw [List.filter_map]; rfl
theorem G3.drop (h : G3 L f ps) : G3 (L.filter fun n => decide (n ≠ x)) f (dl x ps) :=
  ⟨by rw [nms_dl]; exact h.nm.filter _, fun q hq => h.pg q (List.mem_filter.mp hq).1⟩
end
def TA (n : Int) : Pg := .tab (n, 0, 0, 1)
def tC (n : Int) : Str := ⟨([91, 49, 32, 48, 59, 32, 48, 32] ++ decC n ++ [93]).toArray⟩
section
variable {x y z : Str} {a b : Int} {ps : Ps}
theorem G3.len {L : List Str} {f : Str → T4} (h : G3 L f ps) : ps.length = L.length := by rw [← h.nm.length_eq]; exact (List.length_map ..).symm
end
end Z
namespace Z
open PySem PySem.Spec PyProof.Rows L2
section
variable {M M' : Sto} {p C CT : Addr} {A A' : Bd} {S S' : Bk} {i : Nat}
end
section
variable {M M' : Sto} {p P C CT : Addr} {q : Str} {A A' : Bd} {S S' : Bk}
end
section
variable {M M' : Sto} {p P C CT CM : Addr} {q x y z : Str} {a b : Int} {b0 : Addr} {A A' : Bd} {S S' : Bk} {L : List Str} {n : Nat}
end
end Z
namespace Z
open PySem PySem.Spec PyProof.Rows L2
section
variable {prog : Program} {w : World} {A : Around} {E : Value → Shared → Prop} {s : Shared}
end
section
variable {X : Cx} {B : Bs} {pos p : Pos} {e e2 : Expr} {es : List Expr}
end
section
variable {K : PySem.W.Frag}
end
theorem PsOk.take {ps : Ps} (ok : PsOk ps) (i : Nat) : PsOk (ps.take i) where
  few := by rw [List.length_take]; have := ok.few; omega
  nd := by rw [nms_take]; exact ok.nd.sublist (List.take_sublist _ _)
  ok := fun q h => ok.ok q (List.mem_of_mem_take h)
  use := fun j q h x hx => by
    have hj : j < i := by
      have := (List.getElem?_eq_some_iff.mp h).1
      rw [List.length_take] at this
      omega
    rw [List.getElem?_take_of_lt hj] at h
    rw [List.take_take, Nat.min_eq_left (by omega)]
    exact ok.use j q h x hx
theorem G3.ok {L : List Str} {f : Str → T4} {ps : Ps} (h : G3 L f ps) (n : L.Nodup) (few : ps.length ≤ 30) (ok : ∀ q ∈ ps, NameOk q.1 ∧ PgOk q.2 ∧ pgK q.2 ≤ 8 ∧ pgN q.2 ≤ 5000) : PsOk ps :=
  ⟨few, h.nd n, ok, fun i q hq x hx => by
    rw [(h.pg q (List.mem_of_getElem? hq)).1] at hx
    cases hx⟩
end Z
namespace Z
open PySem PySem.Spec PyProof.Rows L2
section
variable {M0 M M' : Sto} {p C CT CM b0 : Addr} {A A' : Bd} {S S' : Bk} {ps ps' : Ps}
end
end Z
namespace Z
open PySem PySem.Spec PyProof.Rows L2
structure FR where
  a : Addr
  q : Addr
  st : Fst
  past : List Fst
def FR.has (x : FR) (b : Addr) : Prop := b = x.a ∨ b = x.q
section
variable {M M' : Sto} {C : Addr} {mi : D} {l : List T4} {pf ph : Addr} {F : List FR} {i : Nat} {x y : FR}
end
section
variable {M M' : Sto} {p P P2 C : Addr} {mi : D} {l : List T4} {pf ph : Addr} {F : List FR} {i k : Nat} {x y : FR}
end
end Z
namespace Z
open PySem PySem.Spec PyProof.Rows L2
end Z
namespace Z
open PySem PySem.Spec PyProof.Rows L2
end Z
namespace Z
open PySem PySem.Spec PyProof.Rows L2
def rt (m : T4) : T3 := (m.1 - m.2.2.2, 2 * m.2.2.1, (m.1 - m.2.2.2) * (m.1 - m.2.2.2) + 4 * m.2.1 * m.2.2.1)
structure Hyp (m : T4) : Prop where
  a : 0 < m.1
  b : 0 < m.2.1
  c : 0 < m.2.2.1
  d : 0 < m.2.2.2
  det : det4 m = 1
theorem Hyp.nn {m : T4} (h : Hyp m) : Nn m := ⟨by have := h.a; omega, by have := h.b; omega, by have := h.c; omega, by have := h.d; omega⟩
theorem Hyp.irr {m : T4} (h : Hyp m) : Irr (rt m) := by
  obtain ⟨a, b, c, d⟩ := m
  obtain ⟨h1, h2, h3, h4, h5⟩ := h
  simp only at *
  have h5 : a * d - b * c = 1 := h5
  have bc := Int.mul_pos h2 h3
  have e : (a - d) * (a - d) + 4 * b * c = (a + d) * (a + d) - 4 := by grind
  have t3 : 3 ≤ a + d := by
    rcases Int.lt_or_le (a + d) 3 with z | z
    · have a1 : a = 1 := by omega
      have d1 : d = 1 := by omega
      subst a1 d1
      omega
    · exact z
  refine ⟨by show 2 * c ≠ 0; omega, ?_, fun z => ?_⟩
  · show 0 < (a - d) * (a - d) + 4 * b * c
    have := sq_nn (a - d)
    have : 4 * b * c = 4 * (b * c) := by grind
    omega
  · have z : Sq ((a - d) * (a - d) + 4 * b * c) := z
    rw [e] at z
    obtain ⟨t, ht⟩ : ∃ t, t = a + d := ⟨_, rfl⟩
    rw [← ht] at z t3
    have e1 := rtI_uniq (r := t - 1) (u := t * t - 4) (by omega) (by rw [show (t - 1) * (t - 1) = t * t - 2 * t + 1 by grind]; omega) (by rw [show t - 1 + 1 = t by omega]; omega)
    unfold Sq at z
    rw [← e1, show (t - 1) * (t - 1) = t * t - 2 * t + 1 by grind] at z
    omega
theorem wL_hyp {y : List Nat} (h : LR y) (hl : 76 ∈ y) (hr : 82 ∈ y) : Hyp (wL y) := by
  have key : ∀ y : List Nat, LR y → (82 ∈ y → 0 < (wL y).2.1) ∧ (76 ∈ y → 0 < (wL y).2.2.1) ∧ 0 < (wL y).1 ∧ 0 < (wL y).2.2.2 := by
    intro y
    induction y with
    | nil => exact fun _ => ⟨fun z => absurd z List.not_mem_nil, fun z => absurd z List.not_mem_nil, by decide, by decide⟩
    | cons c y ih =>
      intro h
      obtain ⟨i1, i2, i3, i4⟩ := ih fun d hd => h d (List.mem_cons_of_mem _ hd)
      have nn := nn_wL y
      obtain ⟨n1, n2, n3, n4⟩ := nn
      rw [wL_cons]
      rcases h c List.mem_cons_self with rfl | rfl
      · rw [show turnT 76 = (1, 0, 1, 1) from rfl]
        unfold mul4
        simp only [List.mem_cons]
        refine ⟨fun z => ?_, fun _ => by omega, by omega, by omega⟩
        rcases z with z | z
        · exact absurd z (by decide)
        · have := i1 z; omega
      · rw [show turnT 82 = (1, 1, 0, 1) from rfl]
        unfold mul4
        simp only [List.mem_cons]
        refine ⟨fun _ => by omega, fun z => ?_, by omega, by omega⟩
        rcases z with z | z
        · exact absurd z (by decide)
        · have := i2 z; omega
  obtain ⟨k1, k2, k3, k4⟩ := key y h
  exact ⟨k3, k1 hr, k2 hl, k4, det_wL y⟩
theorem wL_pos (y : List Nat) : 0 < (wL y).1 ∧ 0 < (wL y).2.2.2 := by
  have nn := nn_wL y
  have d := det_wL y
  generalize wL y = m at nn d ⊢
  obtain ⟨a, b, c, d'⟩ := m
  obtain ⟨n1, n2, n3, n4⟩ := nn
  simp only at *
  have d : a * d' - b * c = 1 := d
  have bc := Int.mul_nonneg n2 n3
  refine ⟨?_, ?_⟩
  · rcases Int.lt_or_le 0 a with z | z
    · exact z
    · have : a = 0 := by omega
      subst this
      omega
  · rcases Int.lt_or_le 0 d' with z | z
    · exact z
    · have : d' = 0 := by omega
      subst this
      omega
theorem ring_both {y : List Nat} (h : LR y) (p : PrimR y) (hl : y ≠ [76]) (hr : y ≠ [82]) : 76 ∈ y ∧ 82 ∈ y := by
  have one : ∀ c : Nat, (∀ d ∈ y, d = c) → y = [c] := fun c hc => const_ring p fun i => by
    have hy := p.pos
    unfold cyc
    have hi := Nat.mod_lt i hy
    rw [List.getD_eq_getElem?_getD, List.getElem?_eq_getElem hi]
    exact hc _ (List.getElem_mem hi)
  refine ⟨?_, ?_⟩
  · refine Classical.byContradiction fun z => hr (one 82 fun d hd => ?_)
    rcases h d hd with rfl | rfl
    · exact absurd hd z
    · rfl
  · refine Classical.byContradiction fun z => hl (one 76 fun d hd => ?_)
    rcases h d hd with rfl | rfl
    · rfl
    · exact absurd hd z
noncomputable def rtP (y : List Nat) : T3 := nfP (rt (wL y))
noncomputable def numR (x y : List Nat) : Option T3 :=
  if y = [82] then (if (wL x).2.2.1 = 0 then none else some (nf (wL x).1 (wL x).2.2.1 0)) else if y = [76] then some (nf (wL x).2.1 (wL x).2.2.2 0) else some (ledV (wL x) (rtP y))
end Z
namespace Z
open PySem PySem.Spec PyProof.Rows L2
theorem Hyp_of {x y : List Nat} (nr : NR x y) (ly : LR y) (h1 : y ≠ [82]) (h2 : y ≠ [76]) : Hyp (wL y) := by
  obtain ⟨a, b⟩ := ring_both ly nr.prim h2 h1
  exact wL_hyp ly a b
def fl4 (t : T4) : T4 := (t.2.2.2, t.2.2.1, t.2.1, t.1)
theorem Hyp.fl {m : T4} (h : Hyp m) : Hyp (fl4 m) := ⟨h.d, h.c, h.b, h.a, by have := h.det; unfold det4 at this ⊢; unfold fl4; simp only; rw [← this]; grind⟩
theorem nf_ib200 {t b u : Int} (hb : b ≠ 0) (hu : 0 ≤ u) (k1 : Ib 30 t) (k2 : Ib 30 b) (k3 : Ib 60 u) : Ib3 200 (nf t b u) := by
  by_cases hs : Sq u
  · obtain ⟨x, y, e1, e2, e3, e4, e5⟩ := nf_frac (t := t) hb hs
    rw [e4]
    exact ⟨((Ib.add (k1.mono (by decide)) (k3.rt hu)).of_mul e1 e3).mono (by decide), (k2.of_mul e2 e3).mono (by decide), Ib.c (i := 0) 200⟩
  · obtain ⟨f, s, l, e1, e2, e3, e4, e5, e6⟩ := nf_irr (t := t) hb hs
    rw [e5]
    refine ⟨(((((Ib.c (i := -2) 2).mul k1).mul k2).of_mul e2 e4).neg).mono (by decide), ((Ib.c (i := 2) 2).mul ((k2.mul k2).of_mul e1 e4)).mono (by decide), ?_⟩
    exact (((((Ib.c (i := 2) 2).mul k2).mul ((Ib.c (i := 2) 2).mul k2)).mul k3).of_mul (disc e1 e2 e3).symm (Int.mul_ne_zero e4 e4)).mono (by decide)
theorem rt_ib {m : T4} (h : Sm 23 m) : Ib 24 (rt m).1 ∧ Ib 25 (rt m).2.1 ∧ Ib 60 (rt m).2.2 := by
  obtain ⟨a, b, c, d⟩ := m
  obtain ⟨h1, h2, h3, h4⟩ := h
  have i1 : Ib 24 (a - d) := Ib.sub (n := 23) h1 h4
  refine ⟨i1, (Ib.c (i := 2) 2).mul h3, ?_⟩
  exact (Ib.add (n := 59) ((i1.mul i1).mono (by decide)) ((((Ib.c (i := 4) 3).mul h2).mul h3).mono (by decide)))
theorem sm_w {w : List Nat} (h : w.length ≤ 11) : Sm 23 (wL w) := (sm_wL w).mono (by omega)
theorem sum_wL : ∀ w : List Nat, (wL w).1 + (wL w).2.1 + (wL w).2.2.1 + (wL w).2.2.2 ≤ (2 ^ (w.length + 1) : Nat)
  | [] => by decide
  | c :: w => by
    have ih := sum_wL w
    obtain ⟨n1, n2, n3, n4⟩ := nn_wL w
    rw [wL_cons, List.length_cons, Nat.pow_succ 2 (w.length + 1)]
    generalize wL w = m at *
    obtain ⟨a, b, c', d⟩ := m
    generalize 2 ^ (w.length + 1) = k at *
    unfold turnT
    split <;> (unfold mul4; first | unfold R4 | unfold L4) <;> simp only at * <;> omega
theorem sm_w2 {w : List Nat} {n : Nat} (h : w.length + 2 ≤ n) : Sm n (wL w) := by
  have s := sum_wL w
  obtain ⟨n1, n2, n3, n4⟩ := nn_wL w
  have p : 2 ^ (w.length + 1) < 2 ^ n := Nat.pow_lt_pow_right (by decide) (by omega)
  generalize wL w = m at *
  obtain ⟨a, b, c', d⟩ := m
  simp only at *
  refine ⟨?_, ?_, ?_, ?_⟩
  · show a.natAbs < _; omega
  · show b.natAbs < _; omega
  · show c'.natAbs < _; omega
  · show d.natAbs < _; omega
theorem num_ib {x y : List Nat} (sx : x.length ≤ 6) (sy : y.length ≤ 8) (nr : NR x y) (ly : LR y) {p : T3} (hp : numR x y = some p) : Ib3 200 p := by
  obtain ⟨a1, a2, a3, a4⟩ : Ib 8 (wL x).1 ∧ Ib 8 (wL x).2.1 ∧ Ib 8 (wL x).2.2.1 ∧ Ib 8 (wL x).2.2.2 := sm_w2 (by omega)
  obtain ⟨b1, b2, b3, b4⟩ : Ib 10 (wL y).1 ∧ Ib 10 (wL y).2.1 ∧ Ib 10 (wL y).2.2.1 ∧ Ib 10 (wL y).2.2.2 := sm_w2 (by omega)
  unfold numR at hp
  by_cases h1 : y = [82]
  · rw [if_pos h1] at hp
    split at hp
    · cases hp
    · rename_i h0
      cases hp
      exact nf_ib200 h0 (by decide) (a1.mono (by decide)) (a3.mono (by decide)) (Ib.c (i := 0) _)
  · rw [if_neg h1] at hp
    by_cases h2 : y = [76]
    · rw [if_pos h2] at hp
      cases hp
      exact nf_ib200 (by have := (wL_pos x).2; omega) (by decide) (a2.mono (by decide)) (a4.mono (by decide)) (Ib.c (i := 0) _)
    · rw [if_neg h2] at hp
      cases hp
      have hy := Hyp_of nr ly h1 h2
      have i1 := hy.irr
      have dx : det4 (wL x) = 1 := det_wL x
      have i2 := i1.led (m := wL x) (by rw [dx]; decide)
      have e : ledV (wL x) (rtP y) = nfP (ledR (wL x) (rt (wL y))) := by
        unfold ledV rtP
        have i3 := i1.nf.led (m := wL x) (by rw [dx]; decide)
        exact nf_eqv ((nf_Eqv i1.ne i1.ns).led _) i3.ne (Int.le_of_lt i3.pos) i2.ne (Int.le_of_lt i2.pos)
      rw [e]
      have r1 : Ib 11 (rt (wL y)).1 := Ib.sub (n := 10) b1 b4
      have r2 : Ib 12 (rt (wL y)).2.1 := (Ib.c (i := 2) 2).mul b3
      have r3 : Ib 24 (rt (wL y)).2.2 := (Ib.add (n := 23) ((Ib.sub (n := 10) b1 b4).mul (Ib.sub (n := 10) b1 b4) |>.mono (by decide)) (((Ib.c (i := 4) 3).mul b2).mul b3))
      generalize rt (wL y) = q at *
      have u1 : Ib 21 (upL (wL x) q) := Ib.add (n := 20) ((a1.mul r1).mono (by decide)) (a2.mul r2)
      have l1 : Ib 21 (loL (wL x) q) := Ib.add (n := 20) ((a3.mul r1).mono (by decide)) (a4.mul r2)
      have f1 : Ib 12 (faL (wL x) q) := by rw [faL_det, dx, Int.one_mul]; exact r2
      have s1 : Ib 2 (s3 (faL (wL x) q)) := by rcases s3_cs (faL (wL x) q) with ⟨_, e⟩ | ⟨_, e⟩ | ⟨_, e⟩ <;> rw [e] <;> (unfold Ib; decide)
      have t1 : Ib 45 (ledR (wL x) q).1 := s1.mul (Ib.sub (n := 42) (u1.mul l1) (((a1.mul a3).mul r3).mono (by decide)))
      have t2 : Ib 45 (ledR (wL x) q).2.1 := s1.mul (Ib.sub (n := 42) (l1.mul l1) (((a3.mul a3).mul r3).mono (by decide)))
      have t3 : Ib 48 (ledR (wL x) q).2.2 := (f1.mul f1).mul r3
      unfold nfP
      generalize ledR (wL x) q = z at *
      -- as nf_ib200, with more room
      have hs := i2.ns
      obtain ⟨f, s, l, e1, e2, e3, e4, e5, e6⟩ := nf_irr (t := z.1) i2.ne hs
      rw [e5]
      refine ⟨(((((Ib.c (i := -2) 2).mul t1).mul t2).of_mul e2 e4).neg).mono (by decide), ((Ib.c (i := 2) 2).mul ((t2.mul t2).of_mul e1 e4)).mono (by decide), ?_⟩
      exact (((((Ib.c (i := 2) 2).mul t2).mul ((Ib.c (i := 2) 2).mul t2)).mul t3).of_mul (disc e1 e2 e3).symm (Int.mul_ne_zero e4 e4)).mono (by decide)
theorem mok_s3 {a b : Int} : IntMulOk (s3 a) b := by rcases s3_cs a with ⟨_, e⟩ | ⟨_, e⟩ | ⟨_, e⟩ <;> rw [e] <;> exact IntMulOk.of_left (by decide)
end Z
namespace Z
open PySem PySem.Spec PyProof.Rows L2
end Z
namespace Z
open PySem PySem.Spec PyProof.Rows L2
end Z
namespace Z
open PySem PySem.Spec PyProof.Rows L2
noncomputable def nv (v : Int × Int) : Option T3 := if v.2 = 0 then none else some (nf v.1 v.2 0)
theorem nv_sc {g : Int} (hg : g ≠ 0) (v : Int × Int) : nv (g * v.1, g * v.2) = nv v := by
  unfold nv
  by_cases h : v.2 = 0
  · rw [if_pos h, if_pos (by show g * v.2 = 0; rw [h, Int.mul_zero])]
  · rw [if_neg h, if_neg (fun z => h ((Int.mul_eq_zero.mp z).resolve_left hg))]
    show some (nf (g * v.1) (g * v.2) 0) = _
    rw [nf_sg h hg]
def mv (m : T4) (v : Int × Int) : Int × Int := (m.1 * v.1 + m.2.1 * v.2, m.2.2.1 * v.1 + m.2.2.2 * v.2)
theorem mv_mul (m s : T4) (v : Int × Int) : mv (mul4 m s) v = mv m (mv s v) := by
  unfold mv mul4
  refine Prod.ext ?_ ?_ <;> simp only <;> grind
def ec (c : Nat) : Int × Int := if c = 82 then (1, 0) else (0, 1)
theorem num_col {x : List Nat} {c : Nat} (hc : c = 76 ∨ c = 82) : numR x [c] = nv (mv (wL x) (ec c)) := by
  rcases hc with rfl | rfl
  · have dp := (wL_pos x).2
    unfold numR nv mv ec
    rw [if_neg (by decide), if_pos rfl, if_neg (show ¬ (76 : Nat) = 82 by decide)]
    simp only [Int.mul_zero, Int.zero_add, Int.mul_one]
    rw [if_neg (by omega)]
  · unfold numR nv mv ec
    rw [if_pos rfl, if_pos rfl]
    simp only [Int.mul_zero, Int.add_zero, Int.mul_one]
noncomputable def ledN (m : T4) : Option T3 → Option T3
  | none => if m.2.2.1 = 0 then none else some (nf m.1 m.2.2.1 0)
  | some p => if p.2.2 = 0 then (if loL m p = 0 then none else some (frV m p)) else some (ledV m p)
theorem ledN_nv {m : T4} {v : Int × Int} (hv : v.1 ≠ 0 ∨ v.2 ≠ 0) : ledN m (nv v) = nv (mv m v) := by
  obtain ⟨P, Q⟩ := v
  by_cases h : Q = 0
  · subst h
    have hP : P ≠ 0 := hv.resolve_right fun z => z rfl
    have e : mv m (P, 0) = (P * m.1, P * m.2.2.1) := by unfold mv; simp only [Int.mul_zero, Int.add_zero]; rw [Int.mul_comm m.1, Int.mul_comm m.2.2.1]
    rw [e, nv_sc hP (m.1, m.2.2.1)]
    rfl
  · obtain ⟨g, g0, e1, e2, e3⟩ := fr_of (t := P) h
    have e : nv (P, Q) = some (nf P Q 0) := by unfold nv; rw [if_neg h]
    rw [e]
    show (if (nf P Q 0).2.2 = 0 then (if loL m (nf P Q 0) = 0 then none else some (frV m (nf P Q 0))) else some (ledV m (nf P Q 0))) = _
    rw [if_pos e3]
    have up : upL m (nf P Q 0) = (mv m ((nf P Q 0).1, (nf P Q 0).2.1)).1 := rfl
    have lo : loL m (nf P Q 0) = (mv m ((nf P Q 0).1, (nf P Q 0).2.1)).2 := rfl
    have sc : mv m (P, Q) = (g * (mv m ((nf P Q 0).1, (nf P Q 0).2.1)).1, g * (mv m ((nf P Q 0).1, (nf P Q 0).2.1)).2) := by
      unfold mv
      simp only
      refine Prod.ext ?_ ?_
      · simp only; rw [show m.1 * P + m.2.1 * Q = m.1 * (g * (nf P Q 0).1) + m.2.1 * (g * (nf P Q 0).2.1) by rw [← e1, ← e2]]; grind
      · simp only; rw [show m.2.2.1 * P + m.2.2.2 * Q = m.2.2.1 * (g * (nf P Q 0).1) + m.2.2.2 * (g * (nf P Q 0).2.1) by rw [← e1, ← e2]]; grind
    rw [sc, nv_sc g0]
    unfold nv frV
    rw [up, lo]
theorem ec_ne (c : Nat) : (ec c).1 ≠ 0 ∨ (ec c).2 ≠ 0 := by
  unfold ec
  split
  · exact .inl (by decide)
  · exact .inr (by decide)
theorem mv_ne {m : T4} (hd : det4 m ≠ 0) {v : Int × Int} (hv : v.1 ≠ 0 ∨ v.2 ≠ 0) : (mv m v).1 ≠ 0 ∨ (mv m v).2 ≠ 0 := by
  refine Classical.byContradiction fun z => ?_
  obtain ⟨z1, z2⟩ := not_or.mp z
  have z1 := Classical.not_not.mp z1
  have z2 := Classical.not_not.mp z2
  obtain ⟨a, b, c, d⟩ := m
  obtain ⟨p, q⟩ := v
  unfold mv at z1 z2
  simp only at z1 z2 hv
  have hd : a * d - b * c ≠ 0 := hd
  have k1 : (a * d - b * c) * p = 0 := by
    have : (a * d - b * c) * p = d * (a * p + b * q) - b * (c * p + d * q) := by grind
    rw [this, z1, z2]; simp
  have k2 : (a * d - b * c) * q = 0 := by
    have : (a * d - b * c) * q = a * (c * p + d * q) - c * (a * p + b * q) := by grind
    rw [this, z1, z2]; simp
  rcases hv with hv | hv
  · exact hv ((Int.mul_eq_zero.mp k1).resolve_left hd)
  · exact hv ((Int.mul_eq_zero.mp k2).resolve_left hd)
end Z
namespace Z
open PySem PySem.Spec PyProof.Rows L2
section
variable {n : Nat} {t u : T4} {w a r x y a' r' x' y' : List Nat}
end
end Z
namespace Z
open PySem PySem.Spec PyProof.Rows L2
section
variable {X : Cx} {B : Bs} {Ξ : XD → En → Sto → Prop} {k : Nat} {f : Addr} {fd : FuncData} {ps : List Str} {c : Ct}
end
section
variable {X : Cx} {B : Bs} {Ξ : XD → En → Sto → Prop} {C : Addr} {j k n : Nat} {c : Ct} {bs : List (Nat × List Str × (List D → List D → List D))} {g : List D → List D → List D} {o e : Expr} {es : List Expr} {fo : DTE} {ga : DTA} {pos : Pos}
end
section
variable {X : Cx} {B : Bs} {pos : Pos}
end
section
variable {prog : Program} {w : World} {A : Around} {E : Value → Shared → Prop} {s : Shared}
end
section
variable {X : Cx} {B : Bs} {pos : Pos}
end
section
variable {f : DPat} {g' : DPats} {is : List Nat} {g : DTS} {h : D → DTS} {E : Ek} {r : En} {M : Sto} {l : List D} {d : D} {n k : Nat} {i j : Str}
end
end Z
namespace Z
open PySem PySem.Spec PyProof.Rows L2
end Z
namespace Z
open PySem PySem.Spec PyProof.Rows L2
structure Fr (M : Sto) (p : Addr) (A : Bd) (cs : List (Addr × Cell)) : Prop where
  h : HandAt M p
  np : ¬ A.has p
  at_ : ∀ x ∈ cs, M x.1 = some x.2
  na : ∀ x ∈ cs, ¬ A.has x.1
  nd : (p :: cs.map (·.1)).Nodup
section
variable {M M' : Sto} {p : Addr} {A A' : Bd} {cs cs' : List (Addr × Cell)}
theorem Fr.get (f : Fr M p A cs) {i : Nat} {a : Addr} {c : Cell} (h : cs[i]? = some (a, c)) : M a = some c := f.at_ _ (List.mem_of_getElem? h)
theorem Fr.ne_p (f : Fr M p A cs) {x : Addr × Cell} (h : x ∈ cs) : x.1 ≠ p := fun z => (List.nodup_cons.mp f.nd).1 (by rw [← z]; exact List.mem_map_of_mem h)
theorem Fr.draw (f : Fr M p A cs) (d : Dr p M M') : Fr M' p A cs := ⟨d.1, f.np, fun x hx => (d.2 _ (f.ne_p hx)).trans (f.at_ x hx), f.na, f.nd⟩
theorem Fr.sub (f : Fr M p A cs) (s : cs'.Sublist cs) : Fr M p A cs' := ⟨f.h, f.np, fun x hx => f.at_ x (s.subset hx), fun x hx => f.na x (s.subset hx), List.Nodup.sublist ((s.map _).cons₂ _) f.nd⟩
theorem Fr.set (f : Fr M p A cs) {i : Nat} {a : Addr} {c c' : Cell} (h : cs[i]? = some (a, c)) : Fr (updM M a c') p A (cs.set i (a, c')) := by
  have hi := (List.getElem?_eq_some_iff.mp h).1
  have hm := List.mem_of_getElem? h
  have em : (cs.set i (a, c')).map (·.1) = cs.map (·.1) := by
    rw [List.map_set]
    refine List.ext_getElem? fun j => ?_
    rw [List.getElem?_set]
    split
    · subst j
      rw [List.getElem?_map, h, List.length_map, if_pos hi]
      rfl
    · rfl
  refine ⟨f.h.same (updM_ne (f.ne_p hm).symm), f.np, fun x hx => ?_, fun x hx => ?_, by rw [em]; exact f.nd⟩
  · rcases List.getElem?_of_mem hx with ⟨j, hj⟩
    rw [List.getElem?_set] at hj
    split at hj
    · cases hj
      exact updM_same
    · rename_i nij
      have hx2 := List.mem_of_getElem? hj
      rw [updM_ne fun z => ?_]
      · exact f.at_ x hx2
      · have nd := (List.nodup_cons.mp f.nd).2
        have e1 : (cs.map (·.1))[i]? = some a := by rw [List.getElem?_map, h]; rfl
        have e2 : (cs.map (·.1))[j]? = some a := by rw [List.getElem?_map, hj, ← z]; rfl
        exact nij ((List.getElem?_inj (by rw [List.length_map]; exact hi) nd).mp (e1.trans e2.symm))
  · rcases List.getElem?_of_mem hx with ⟨j, hj⟩
    rw [List.getElem?_set] at hj
    split at hj
    · cases hj
      have := f.na (a, c) hm
      exact this
    · exact f.na x (List.mem_of_getElem? hj)
end
section
variable {C CT : Addr} {A : Bd} {S : Bk}
end
section
variable {M M' : Sto} {p C CT CD : Addr} {A : Bd} {S : Bk} {er la : List Ps} {x0 x1 : List (Str × Str)} {af ap g1 g0 q1 o1 q0 o0 : Addr} {i : Nat}
end
end Z
namespace Z
open PySem PySem.Spec PyProof.Rows L2
end Z
namespace PySem
namespace ZX
open Builtin Builtin.ObjectAttr PySem.HandSPX
section
variable {M : Model} {A : Around} {E : Value → Shared → Prop} {h : Heap} {g : Array GenState} {d : Drawn} {t : Nat} {os : OsState}
variable {nm q : Str} {C N : Addr} {bs bm bmB : List Value} {hdct : Bool} {sn : List Str} {sub : List Value} {ab : Bool} {col : Option Bool} {dd : Option Addr} {k0 k1 k2 k3 k5 : Option Value} {B newId initId : String}
end
section
variable {prog : Program} {w : World} {A : Around} {E : Value → Shared → Prop} {R : Result → Shared → Prop} {h : Heap} {g : Array GenState} {d : Drawn} {t : Nat} {os : OsState}
variable {nm q : Str} {C N : Addr} {bs bm bmB : List Value} {hdct : Bool} {sn : List Str} {sub : List Value} {ab : Bool} {col : Option Bool} {dd : Option Addr} {k0 k1 k2 k3 k5 : Option Value} {B newId initId : String}
end
end ZX
end PySem

namespace Z
open PySem PySem.Spec PyProof.Rows L2

section
variable {X : Cx} {B : Bs} {Ξ : XD → En → Sto → Prop} {pos p : Pos} {e : Expr} {es : List Expr} {ga : DTA} {fa : DTE} {k n : Nat} {x : Str} {C : Addr} {g : List V → List (Str × V)}
end
section
variable {K : PySem.W.Frag} {d : D} {p : Str × Option Str} {φ : D → Prop}
end
end Z
namespace Z
open PySem PySem.Spec PyProof.Rows L2

structure SScope (N ps : List Str) (sc : Scope) : Prop where
  kind : sc.kind = .function
  co : sc.isCoroutine = false
  gen : sc.isGenerator = false
  nd : N.Nodup
  pre : N.take ps.length = ps
  par : ∀ x ∈ ps, sc.names.lookup x = some .local
  nocell : ∀ y ∈ sc.names, y.2 ≠ .cell
  free : ∀ y ∈ sc.names, y.2 = .free → y.1 = ("__class__" : Str)
  cls : sc.names.lookup ("__class__" : Str) = some .free
  sup : sc.names.lookup ("super" : Str) = some .globalImplicit
abbrev envS (qual : Str) (scope : Scope) (L f cda cc : Addr) : Env := PySem.W.envX qual scope L f (.ref cda) [("__class__", cc)]
def cxS (CX : CXT) (P : Program) (w : World) (K : PySem.W.Frag) (mg : Str → Option Value) (base : Heap) (N : List Str) (qual : Str) (scope : Scope) (f cda cc : Addr) (A : Around) (outer : List Env) (s : Shared) (H : Hp) (E : XK) : Cx where
  prog := P
  w := w
  K := K
  mg := mg
  base := base
  A := A.deeper (envS qual scope s.heap.objs.size f cda cc)
  N := N
  s_0 := s
  H_0 := H
  env := envS qual scope s.heap.objs.size f cda cc
  outer := outer
  stack := envS qual scope s.heap.objs.size f cda cc :: outer
  ex := []
  calm := true
  fn := fun _ => false
  pn := []
  xe := fun e s' => wpAny (model P w) (A.deeper (envS qual scope s.heap.objs.size f cda cc)) (leaving (envS qual scope s.heap.objs.size f cda cc) e) (fun _ s'' => CX outer H s E e s'') (fun e' s'' => CX outer H s E e' s'') s'
theorem look_cls {x : Str} {c cc : Addr} (h : ([(("__class__" : Str), cc)] : List (Str × Addr)).lookup x = some c) : x = "__class__" ∧ c = cc := by
  rw [List.lookup_cons] at h
  cases e : x == ("__class__" : Str) with
  | true => rw [e] at h; cases h; exact ⟨beq_iff_eq.mp e, rfl⟩
  | false => rw [e] at h; cases h
theorem zip_at : ∀ {ps : List Str} {us : List Value} {i : Nat} {x : Str} {u : Value}, ps.Nodup → ps[i]? = some x → us[i]? = some u → (ps.zip us).reverse.lookup x = some u
  | [], _, _, _, _, _, h, _ => by simp at h
  | _ :: _, [], _, _, _, _, _, h => by simp at h
  | p :: ps, v :: us, 0, x, u, nd, h1, h2 => by
    simp at h1 h2
    subst h1 h2
    have no : (ps.zip us).reverse.lookup p = none := by
      cases e : (ps.zip us).reverse.lookup p with
      | none => rfl
      | some y => exact absurd (List.of_mem_zip (List.mem_reverse.mp (PySem.mem_of_lookup e))).1 (List.nodup_cons.mp nd).1
    rw [List.zip_cons_cons, List.reverse_cons, List.lookup_append, no]
    simp [List.lookup]
  | p :: ps, v :: us, i + 1, x, u, nd, h1, h2 => by
    have e : (ps.zip us).reverse.lookup x = some u := zip_at (i := i) (List.nodup_cons.mp nd).2 (by simpa using h1) (by simpa using h2)
    rw [List.zip_cons_cons, List.reverse_cons, List.lookup_append, e] <;> rfl
section
variable {CX : CXT} {P : Program} {w : World} {K : PySem.W.Frag} {mg : Str → Option Value} {base : Heap} {N ps : List Str} {qual : Str} {scope : Scope} {f cda cc : Addr} {A : Around} {outer : List Env} {s : Shared} {H : Hp} {E : XK} {us : List Value} {vs : List V}
theorem inv_startS {h₁ : Heap} {tk : Nat} {v0 : Option Value} (S : SScope N ps scope) (hd : A.handled = none) (e0 : Env0 P w K mg base A outer s H) (hl : vs.length = ps.length) (r : Vals vs us) (hc : s.heap.IsCell cc v0) (hn : H cc = none)
    (hns : h₁.Ns s.heap.objs.size fun y => (ps.zip us).reverse.lookup y) (kp : ∀ b o, s.heap.get? b = some o → h₁.get? b = some o) : L2.Inv (cxS CX P w K mg base N qual scope f cda cc A outer s H E) [] (start N vs) H { s with heap := h₁, toks := tk } := by
  have hpl : ps.length ≤ N.length := by
    have q := congrArg List.length S.pre
    rw [List.length_take] at q
    omega
  have noA : ∀ b : Addr, b ∉ (cxS CX P w K mg base N qual scope f cda cc A outer s H E).ex := fun b z => absurd (show b ∈ ([] : List Addr) from z) (by simp)
  refine ⟨⟨e0.mod, S.kind, rfl, rfl, Nat.le_refl _, fun x y c h1 h2 => (look_cls h1).1.trans (look_cls h2).1.symm, fun y hy => ?_, fun y c z _ => ?_, fun _ => hd, Around.frames_deeper e0.frames, .inr ⟨rfl, rfl⟩, fun b z => absurd z (noA b), e0.bs, e0.bsz, fun b _ _ => noA b,
      fun b z => absurd z (noA b), e0.funs, e0.frf⟩,
    rfl, e0.bare, Un.kept kp, ⟨_, hns, fun i y v e1 e2 e3 => ?_⟩, fun y c e => ?_, e0.hok.fresh (Nat.le_refl _), fun y c e => ?_, fun q hq => absurd (show q ∈ ([] : List (Addr × Obj)) ++ [] from hq) (by simp), e0.hok.kept kp, ?_⟩
  · have hy : scope.names.lookup y = some .cell ∨ scope.names.lookup y = some .free := hy
    rcases hy with hy | hy
    · exact absurd rfl (S.nocell _ (PySem.mem_of_lookup hy))
    · have z := S.free _ (PySem.mem_of_lookup hy) rfl
      exact ⟨cc, by show ([(("__class__" : Str), cc)] : List (Str × Addr)).lookup y = _; rw [show y = "__class__" from z]; rfl⟩
  · have z : false = true := z
    cases z
  · have e1 : N[i]? = some y := e1
    unfold L2.start at e2
    by_cases h1 : i < ps.length
    · have hq : ps[i]? = some y := by
        rw [← S.pre, List.getElem?_take_of_lt h1]
        exact e1
      rw [List.getElem?_append_left (by rw [List.length_map]; omega), List.getElem?_map] at e2
      have ha : vs[i]? = some v := by
        cases e : vs[i]? with
        | none => rw [e] at e2; cases e2
        | some a => rw [e] at e2; cases e2; rfl
      obtain ⟨u, hu, rv⟩ := r.get ha
      have ndP : ps.Nodup := by
        have q := S.nd.sublist (List.take_sublist ps.length N)
        rw [S.pre] at q
        exact q
      exact ⟨u, rv, .inl ⟨S.par y (List.mem_of_getElem? hq), zip_at ndP hq hu⟩⟩
    · rw [List.getElem?_append_right (by rw [List.length_map]; omega), List.getElem?_replicate] at e2
      split at e2 <;> cases e2
  · obtain ⟨o, ho, hd⟩ := hc
    rw [(look_cls (show ([(("__class__" : Str), cc)] : List (Str × Addr)).lookup y = some c from e)).2]
    exact ⟨v0, o, kp _ _ ho, hd⟩
  · rw [(look_cls (show ([(("__class__" : Str), cc)] : List (Str × Addr)).lookup y = some c from e)).2]
    exact hn
  · unfold L2.start
    show _ = N.length
    rw [List.length_append, List.length_map, List.length_replicate]
    omega
theorem fn_ofS {k : Nat} {name : Str} {params : Arguments} {body : List Stmt} {kV doc pm ct oc : Value} {an od : Option Addr} {osl : Array (Option Value)} {sp : Sp} {ocl : Value} {odl : Option Addr} {sll : Array (Option Value)} {v0 : Option Value}
    (lk : K.lookup f = some ⟨oc, od, .func (PySem.W.fnX name qual params body scope [("__class__", cc)] .none kV doc pm an (.ref cda) ct), osl⟩) (hcd : PySem.W.codeIn K (.ref cda) qual = true) (lc : K.lookup cc = some ⟨ocl, odl, .cell v0, sll⟩) (S : SScope N ps scope) (len : ∀ vs H Q E, sp vs H Q E → vs.length = ps.length)
    (hbody : ∀ (A : Around) (outer : List Env) (s : Shared) (H : Hp) (vs : List V) (Q : VK) (E : XK) (s1 : Shared), Room k (A.deeper (envS qual scope s.heap.objs.size f cda cc)) → sp vs H Q E → L2.Inv (cxS CX P w K mg base N qual scope f cda cc A outer s H E) [] (start N vs) H s1 →
      PySem.wpAt (model P w) (A.deeper (envS qual scope s.heap.objs.size f cda cc)) (.func body (envS qual scope s.heap.objs.size f cda cc)) (execs body (envS qual scope s.heap.objs.size f cda cc)) (SP (cxS CX P w K mg base N qual scope f cda cc A outer s H E) [] { nx := fun _ H' => Q .non H', rt := Q }) (cxS CX P w K mg base N qual scope f cda cc A outer s H E).xe s1) :
    FnOk P w K mg base CX (k + 1) f (PySem.W.fnX name qual params body scope [("__class__", cc)] .none kV doc pm an (.ref cda) ct) ps sp := by
  refine ⟨len, fun A outer s H args us vs Q E hr e0 hb r hsp => ?_⟩
  have hl := len _ _ _ _ hsp
  have KX : K.In s.heap := e0.mod.kin.keeps fun b o e => (e0.bs b o e).1
  have lim : s.heap.NoLimit := e0.mod.nolimit.keeps fun b o e => (e0.bs b o e).1
  obtain ⟨c1, c2⟩ := e0.bs _ _ (e0.mod.kin _ _ lc)
  refine PySem.ks_codeAny_call_defAt hr.depth (KX _ _ lk) rfl lim (PySem.W.codeRec_of KX hcd) rfl hb S.nocell (fun x hx => S.par x.1 (List.of_mem_zip (show (x.1, x.2) ∈ _ from hx)).1) (fun h₁ hns kp => ?_) S.co S.gen S.kind
  have I := inv_startS (CX := CX) (E := E) (qual := qual) (f := f) (cda := cda) (tk := s.toks + (ps.zip us).length) S hr.hd e0 hl r ⟨_, c1, rfl⟩ c2 hns kp
  refine PySem.ks_wpAt_mono (hbody A outer s H vs Q E _ (hr.deeper _) hsp I) (fun fl s' hs => ?_) fun e s' hs => hs
  have fin : ∀ {σ' : L2.St} {H' : Hp} {v : V} {u : Value}, L2.Inv (cxS CX P w K mg base N qual scope f cda cc A outer s H E) [] σ' H' s' → L2.RelV v u → Q v H' → CE outer P w H s Q u s' :=
    fun {σ' H' v u} J rv q => ⟨v, H', J.os, J.bare, J.base, J.hok, rv, q⟩
  cases fl with
  | ret u =>
    obtain ⟨v, σ', H', J, rv, q⟩ := hs
    exact fin J rv q
  | next =>
    obtain ⟨σ', H', J, q⟩ := hs
    exact fin (v := V.non) (u := Value.none) J rfl q
  | brk =>
    obtain ⟨_, _, _, q⟩ := hs
    exact False.elim q
  | cont =>
    obtain ⟨_, _, _, q⟩ := hs
    exact False.elim q
end
structure SupK (P : Program) (K : PySem.W.Frag) (mg : Str → Option Value) (f cda cc CD : Addr) (slf : Str) : Prop where
  fn : ∃ (oc : Value) (od : Option Addr) (fd : FuncData) (osl : Array (Option Value)) (ar : Arg), K.lookup f = some ⟨oc, od, .func fd, osl⟩ ∧ (fd.params.posonlyargs ++ fd.params.args).head? = some ar ∧ ar.arg = slf
  code : ∃ (oc : Value) (od : Option Addr) (vs : Array Value) (osl : Array (Option Value)) (file : Str) (tf : Tok), K.lookup cda = some ⟨oc, od, .fields vs, osl⟩ ∧ vs[2]? = some (.str file tf) ∧ ((P.main.file : Str) == file) = true
  cell : ∃ (oc : Value) (od : Option Addr) (osl : Array (Option Value)), K.lookup cc = some ⟨oc, od, .cell (some (.ref CD)), osl⟩
  top : (P.main.scope.names.lookup ("super" : Str)).isSome = false
  mgs : mg "super" = none
  cd : ∃ cd, PySem.W.clsIn K CD = some cd
  any : PySem.W.nsIn K cStatics "thirdparty.any" = some none
structure SupM (P : Program) (w : World) (K : PySem.W.Frag) (mg : Str → Option Value) (base : Heap) (CD : Addr) (m : Str) (k : Nat) (c : Ct) (bs : List (Nat × List Str × (List D → List D → List D))) : Prop where
  sub : PySem.W.mroIn K CD (.ref CD) = some true
  ex : ∃ f fd ps, PySem.W.ks_superIn K CD CD m = some (some (.ref f)) ∧ PySem.W.typeIn K (.ref f) = some (.type "function") ∧ PySem.W.fnIn K f = true ∧ FnOk P w K mg base (L2.CX P w) k f fd ps (spC K ps.length c) ∧ ∀ b ∈ bs, BindD K fd ps b
section
variable {X : Cx} {B : Bs} {Ξ : XD → En → Sto → Prop} {k j n : Nat} {c : Ct} {pos apos p0 p1 : Pos} {e : Expr} {es : List Expr} {ga : DTA} {f cda cc CD : Addr} {m self : Str} {g : List D → List D → List D} {bs : List (Nat × List Str × (List D → List D → List D))} {body : List Stmt}
theorem super_obj {pins : List (Addr × Obj)} {s : Shared} {σ : L2.St} {H : Hp} {a dx : Addr} {fvs : List (Str × V)} {Q : Value → Shared → Prop} {attr : Str} {whole : Sem Value} (S : SupK X.prog X.K X.mg f cda cc CD self) (sub : PySem.W.mroIn X.K CD (.ref CD) = some true) (I : L2.Inv X pins σ H s)
    (hks : X.env.kindOf "super" = some .globalImplicit) (hkc : X.env.kindOf "__class__" = some .free) (hkl : X.env.kindOf self = some .local) (hfu : X.env.func = some f) (hco : X.env.code = .ref cda) (hcl : X.env.cells.lookup ("__class__" : Str) = some cc) (hN : X.N[0]? = some self) (hat : (attr == ("__class__" : Str)) = false)
    (ha : σ[0]? = some (some (.ref a))) (hi : H a = some (.ins CD dx fvs))
    (q : ∀ h', L2.Inv X pins σ H { s with heap := h' } → h'.get? s.heap.objs.size = some { cls := .type "super", dict := none, data := .fields #[.ref CD, .ref a, .ref CD], slots := #[] } → Q (.ref s.heap.objs.size) { s with heap := h' }) :
    PySem.wpAt (model X.prog X.w) X.A (.func body X.env) (attributeBase (.Call (.Name "super" p0) [] [] p1) attr X.env whole) Q X.xe s := by
  obtain ⟨oc, od, fd, osl, ar, lf, hp, har⟩ := S.fn
  obtain ⟨oc2, od2, vs, osl2, file, tf, lc, hvs, hfile⟩ := S.code
  obtain ⟨oc3, od3, osl3, lcell⟩ := S.cell
  obtain ⟨cd, hcd⟩ := S.cd
  have KX := I.kIn
  refine PySem.ks_wpAt_super_base hks hkc hat hfu (KX _ _ lf) rfl hp hco (KX _ _ lc) rfl hvs hfile S.top ?_
  obtain ⟨mb, b1, b2⟩ := I.mod.blt
  refine PySem.W.ks_loadName_global I.ok.kind hks (Calls.loadGlobal_builtin (by rw [I.ok.glob]; exact I.mod.glob.keeps I.bk) S.mgs (by rw [I.ok.blt]; exact b1.keeps I.bk) ((b2 _ (by decide)).trans (show bootBuiltins "super" = some (.type "super") from by first | rfl | kernel_rfl)) ⟨rfl, ?_⟩)
  refine PySem.wpAny_loadName_free I.ok.kind hkc hcl ⟨_, KX _ _ lcell, rfl⟩ ?_
  obtain ⟨mm, hns, hl⟩ := I.loc
  obtain ⟨u, ru, lk⟩ := hl 0 self (.ref a) hN ha (.inl hkl)
  obtain rfl : u = Value.ref a := ru
  have hm : mm self = some (.ref a) := by
    rcases lk with ⟨_, z⟩ | ⟨z, _⟩
    · exact z
    · rcases z with z | z <;> (rw [hkl] at z; cases z)
  rw [har]
  refine PySem.wpAny_loadName_local I.ok.kind hkl hns hm ?_
  obtain ⟨oD, hD1, hD2⟩ : ∃ oD, s.heap.get? CD = some oD ∧ oD.data = .cls cd := by
    unfold PySem.W.clsIn at hcd
    split at hcd
    · rename_i c d cd' sl ho
      cases hcd
      exact ⟨_, KX _ _ ho, rfl⟩
    · cases hcd
  obtain ⟨hp, gn, dr, tk, os⟩ := s
  refine PySem.ks_wpAny_isType_cls hD1 hD2 ⟨rfl, ?_⟩
  obtain ⟨mA, O, _⟩ := ins_get I.hok hi
  refine PySem.ks_wpAny_call_super hD1 hD2 O.1 rfl (fun c z => by cases z) (PySem.W.looks_mroIn KX sub) fun h' e kp => ?_
  exact q h' (I.kept (t' := tk) kp) e
theorem ev_sup {pl : Sem Bool} {pins : List (Addr × Obj)} {s : Shared} {σ : L2.St} {H G : Hp} {Q : VK} {a : Addr} {fs : List (Str × D)} {r : En} {M : Sto} {Ψ : PD} (S : SupK X.prog X.K X.mg f cda cc CD self) (Mt : SupM X.prog X.w X.K X.mg X.base CD m j c bs) (hr : Room k X.A) (hj : j ≤ k) (z : Zx X B Ξ) (hb : (n + 1, [], g) ∈ bs) (ha : DA X B (e :: es) ga)
    (hks : X.env.kindOf "super" = some .globalImplicit) (hkc : X.env.kindOf "__class__" = some .free) (hkl : X.env.kindOf self = some .local) (hfu : X.env.func = some f) (hco : X.env.code = .ref cda) (hcl : X.env.cells.lookup ("__class__" : Str) = some cc) (hN : X.N[0]? = some self) (hat : (m == ("__class__" : Str)) = false)
    (hst : starEach (e :: es) X.env = (false, eval e X.env) :: starEach es X.env) (hpl : (backTo pos (starEach es X.env)).any (·.1) = false)
    (ht : eval (.Call (.Attribute (.Call (.Name "super" p0) [] [] p1) m apos) (e :: es) [] pos) X.env = (do
      let ov ← attributeBase (.Call (.Name "super" p0) [] [] p1) m X.env (eval (.Call (.Name "super" p0) [] [] p1) X.env)
      standAt apos.atName
      let (f, first) ← holding [ov] (getMethod ov m pl)
      callWith pos f first (backTo pos (starEach (e :: es) X.env)) []))
    (I : L2.Inv X pins σ H s) (R : Rel X.K B r M σ H G) (h0 : r[0]? = some (some (.ref a))) (hM : M a = some (.ins CD fs)) (h : ga r M fun ds M2 => callD (n + 1) 0 g c Ξ (.ref a :: ds) [] r M2 Ψ)
    (kk : ∀ d M' v H' G', Ψ d M' → Rel X.K B r M' σ H' G' → Sub G G' → Rep X.K G' d v → Q v H') :
    PySem.wpAt (model X.prog X.w) X.A (.func body X.env) (eval (.Call (.Attribute (.Call (.Name "super" p0) [] [] p1) m apos) (e :: es) [] pos) X.env) (EP X pins σ Q) X.xe s := by
  obtain ⟨f2, fd2, ps2, hm, hty, hfn, FO, hbs⟩ := Mt.ex
  obtain ⟨gp, dx, fvs, h1, rf⟩ := R.wd.cells a _ hM
  obtain ⟨v0, e0, p0'⟩ := R.slots _ _ h0
  cases p0'
  obtain ⟨cd, hcd⟩ := S.cd
  refine PySem.ks_wpAt_MethodCall (pl := pl) ?_ ht
  refine super_obj S Mt.sub I hks hkc hkl hfu hco hcl hN hat e0 h1 fun h' I1 hso => ?_
  have KX := I1.kIn
  unfold PySem.W.ks_superIn at hm
  rw [hcd] at hm
  obtain ⟨of, hof, hofc⟩ : ∃ of, h'.get? f2 = some of ∧ of.cls = .type "function" := by
    have ht' : (X.K.lookup f2).map (·.cls) = some (.type "function") := hty
    cases z : X.K.lookup f2 with
    | none => rw [z] at ht'; cases ht'
    | some of => rw [z] at ht'; exact ⟨of, KX _ _ z, Option.some.inj ht'⟩
  have ne : a ≠ CD := fun z => by
    unfold PySem.W.clsIn at hcd
    split at hcd
    · rename_i c d cd' sl ho
      have y := (I.bs _ _ (I.mod.kin _ _ ho)).2
      rw [← z, h1] at y
      cases y
    · cases hcd
  have any := S.any
  obtain ⟨hp, gn, dr, tk, os⟩ := s
  refine PySem.ks_wpAny_getMethod_super hso (PySem.W.looks_opaque KX any) (l₀ := cd.mro) (fun A Q E s k q => wpAny_bind ((PySem.W.looks_clsIn KX hcd) A _ E s k (wpAny_pure q))) rfl KX hm hof hofc ne hat ?_
  have I2 := ClX.met_new (g := f2) (C := a) I1
  refine ClX.callwith_cm I2 (ClX.base_none I1 (Nat.le_refl _)) hfn (thn (ha.run pos _ _ σ H _ I2 ⟨r, M, G, _, R, h, fun ds M2 vs H2 G2 q R2 s2 p2 => (⟨ds, M2, G2, q, R2, s2, p2⟩ : ∃ ds M2 G2, callD (n + 1) 0 g c Ξ (.ref a :: ds) [] r M2 Ψ ∧ Rel X.K B r M2 σ H2 G2 ∧ Sub G G2 ∧ RepL X.K G2 ds vs)⟩) fun us s3 ⟨vs, H2, I3, rv, ds, M2, G2, ⟨l1, _, q⟩, R2, t2, p2⟩ => ⟨⟨ClX.pin_at I3, I3.kIn⟩, ?_⟩) hst hpl
  have y := wpAny_call (PySem.W.method_call (ClX.pin_at I3) (run_cA (b := (n + 1, [], g)) (zs := []) (ws := []) (dz := []) (us := .ref a :: us) (vs := .ref a :: vs) (Q := Q) FO (hr.mono hj) (hbs _ hb) z.tk I3 R2 (.cons rfl rv) .nil (.cons .ref p2) .nil l1 rfl q fun d M' v H' G' q R' s' p' => kk _ _ _ _ _ q R' (t2.tr s') p'))
  exact thn y fun _ _ y => ClX.unpinE y
end
def DB (X : Cx) (B : Bs) (body0 ss : List Stmt) (t : DTS) : Prop := ∀ (pins : List (Addr × Obj)) (s : Shared) (σ : L2.St) (H : Hp) (D' : Ends), L2.Inv X pins σ H s → liftS X.K B t D' σ H → PySem.wpAt (model X.prog X.w) X.A (.func body0 X.env) (execs ss X.env) (SP X pins D') X.xe s
section
variable {CX : CXT} {P : Program} {w : World} {K : PySem.W.Frag} {mg : Str → Option Value} {base : Heap} {N ps : List Str} {qual : Str} {scope : Scope} {f cda cc C : Addr} {A : Around} {outer : List Env} {s : Shared} {H : Hp} {E : XK}
  {B : Bs} {Ξ : XD → En → Sto → Prop} {k j n : Nat} {c : Ct} {pos apos p0 p1 ep : Pos} {e : Expr} {es : List Expr} {ga : DTA} {self : Str} {g : List D → List D → List D} {bs : List (Nat × List Str × (List D → List D → List D))} {body0 rest : List Stmt} {t : DTS}
theorem db_sup (S : SScope N ps scope) (SK : SupK P K mg f cda cc C self) (Mt : SupM P w K mg base C "__init__" j c bs) (hr : Room k (cxS CX P w K mg base N qual scope f cda cc A outer s H E).A) (z : Zx (cxS CX P w K mg base N qual scope f cda cc A outer s H E) B Ξ) (hb : (n + 1, [], g) ∈ bs) (ha : DA (cxS CX P w K mg base N qual scope f cda cc A outer s H E) B (e :: es) ga) (hrest : DSs (cxS CX P w K mg base N qual scope f cda cc A outer s H E) B rest t) (hj : j ≤ k := by decide)
    (hkl : scope.names.lookup self = some .local := by rfl) (hN : N[0]? = some self := by rfl)
    (hst : starEach (e :: es) (cxS CX P w K mg base N qual scope f cda cc A outer s H E).env = (false, eval e (cxS CX P w K mg base N qual scope f cda cc A outer s H E).env) :: starEach es (cxS CX P w K mg base N qual scope f cda cc A outer s H E).env := by rfl) (hpl : (backTo pos (starEach es (cxS CX P w K mg base N qual scope f cda cc A outer s H E).env)).any (·.1) = false := by rfl) {pl : Sem Bool}
    (ht : eval (.Call (.Attribute (.Call (.Name "super" p0) [] [] p1) "__init__" apos) (e :: es) [] pos) (cxS CX P w K mg base N qual scope f cda cc A outer s H E).env = (do
      let ov ← attributeBase (.Call (.Name "super" p0) [] [] p1) "__init__" (cxS CX P w K mg base N qual scope f cda cc A outer s H E).env (eval (.Call (.Name "super" p0) [] [] p1) (cxS CX P w K mg base N qual scope f cda cc A outer s H E).env)
      standAt apos.atName
      let (f9, first) ← holding [ov] (getMethod ov "__init__" pl)
      callWith pos f9 first (backTo pos (starEach (e :: es) (cxS CX P w K mg base N qual scope f cda cc A outer s H E).env)) []) := by rfl)
    (hi : interactive (cxS CX P w K mg base N qual scope f cda cc A outer s H E).env = false := by rfl) (hs : swapsWith (.Call (.Attribute (.Call (.Name "super" p0) [] [] p1) "__init__" apos) (e :: es) [] pos) none ep.line (cxS CX P w K mg base N qual scope f cda cc A outer s H E).env = pure false := by rfl) :
    DB (cxS CX P w K mg base N qual scope f cda cc A outer s H E) B body0 (.Expr (.Call (.Attribute (.Call (.Name "super" p0) [] [] p1) "__init__" apos) (e :: es) [] pos) ep :: rest) (fun E r M => ∃ a fs, r[0]? = some (some (.ref a)) ∧ M a = some (.ins C fs) ∧ ga r M fun ds M2 => callD (n + 1) 0 g c Ξ (.ref a :: ds) [] r M2 fun _ M3 => t E r M3) := by
  intro pins s1 σ H1 D' I hl
  obtain ⟨r, M, G, E', R, ⟨a, fs, h0, hM, h⟩, kE⟩ := EkOk.of hl
  refine PySem.ks_wpAt_execs_cons (PySem.ks_wpAt_Expr_any ?_ hi hs)
  refine PySem.ks_wpAt_mono (ev_sup (X := (cxS CX P w K mg base N qual scope f cda cc A outer s H E)) (pl := pl) (Q := fun _ H' => liftS K B t D' σ H') SK Mt hr hj z hb ha S.sup S.cls hkl rfl rfl rfl hN (by decide) hst hpl ht I R h0 hM h fun d M' v H' G' q R' s' p' => EkOk.to R' q (kE.mono s')) (fun u s' y => ?_) fun _ _ x => x
  obtain ⟨v, H', I', rv, q⟩ := y
  exact PySem.wpAt_of_wpAny (hrest.run pins s' σ H' D' I' q)
end
def supF (file x par : Str) : FF := fun K => (match K.lookup (gaM x "__init__" K) with
  | some ⟨_, _, .func fd, _⟩ => (match fd.closure, fd.code with
    | [(_, cc)], .ref cda => (match K.lookup cc with
      | some ⟨_, _, .cell (some (.ref C)), _⟩ => decide (C = He.ga K x)
      | _ => false) && (match K.lookup cda with
      | some ⟨_, _, .fields vs, _⟩ => (match vs[2]? with
        | some (Value.str fl _) => file == fl
        | _ => false)
      | _ => false)
    | _, _ => false)
  | _ => false) && ((PySem.W.clsIn K (He.ga K x)).isSome && (He.eqO (PySem.W.nsIn K cStatics "thirdparty.any") (some none) && (decide (PySem.W.mroIn K (He.ga K x) (.ref (He.ga K x)) = some true) &&
    (He.eqO (PySem.W.ks_superIn K (He.ga K x) (He.ga K x) "__init__") (some (some (.ref (gaM par "__init__" K)))) && (decide (PySem.W.typeIn K (.ref (gaM par "__init__" K)) = some (.type "function")) && PySem.W.fnIn K (gaM par "__init__" K))))))
structure SupX (K : PySem.W.Frag) (file x par : Str) : Prop where
  at_ : ∀ oc od fd osl cc cda, K.lookup (gaM x "__init__" K) = some ⟨oc, od, .func fd, osl⟩ → fd.closure = [(("__class__" : Str), cc)] → fd.code = .ref cda →
    (∃ (oc : Value) (od : Option Addr) (osl : Array (Option Value)), K.lookup cc = some ⟨oc, od, .cell (some (.ref (He.ga K x))), osl⟩) ∧ ∃ (oc : Value) (od : Option Addr) (vs : Array Value) (osl : Array (Option Value)) (tf : Tok), K.lookup cda = some ⟨oc, od, .fields vs, osl⟩ ∧ vs[2]? = some (.str file tf)
  cd : ∃ cd, PySem.W.clsIn K (He.ga K x) = some cd
  any : PySem.W.nsIn K cStatics "thirdparty.any" = some none
  sub : PySem.W.mroIn K (He.ga K x) (.ref (He.ga K x)) = some true
  up : PySem.W.ks_superIn K (He.ga K x) (He.ga K x) "__init__" = some (some (.ref (gaM par "__init__" K)))
  ty : PySem.W.typeIn K (.ref (gaM par "__init__" K)) = some (.type "function")
  fn : PySem.W.fnIn K (gaM par "__init__" K) = true
theorem supF_ok {file x par : Str} {K : PySem.W.Frag} (h : supF file x par K = true) : SupX K file x par := by
  obtain ⟨h0, h⟩ := He.ba h
  obtain ⟨h1, h⟩ := He.ba h
  obtain ⟨h2, h⟩ := He.ba h
  obtain ⟨h3, h⟩ := He.ba h
  obtain ⟨h4, h⟩ := He.ba h
  obtain ⟨h5, h6⟩ := He.ba h
  refine ⟨fun oc od fd osl cc cda e1 e2 e3 => ?_, Option.isSome_iff_exists.mp h1, He.eqO_ok h2, of_decide_eq_true h3, He.eqO_ok h4, of_decide_eq_true h5, h6⟩
  rw [e1] at h0
  dsimp only at h0
  rw [e2, e3] at h0
  obtain ⟨y1, y2⟩ := He.ba h0
  refine ⟨?_, ?_⟩
  · split at y1
    · rename_i a b C d e
      exact ⟨_, _, _, by rw [e, of_decide_eq_true y1]⟩
    · cases y1
  · split at y2
    · rename_i a b vs d e
      split at y2
      · rename_i fl tf e4
        exact ⟨_, _, vs, _, tf, e, by rw [e4, beq_iff_eq.mp y2]⟩
      · cases y2
    · cases y2
section
variable {P : Program} {w : World} {K : PySem.W.Frag} {mg : Str → Option Value} {base : Heap} {qual : Str} {st : Stmt} {fd : FuncData} {N ps : List Str} {k : Nat} {x par file self nm : Str}
theorem fnDS (F : FnS K nm qual st (gaM x "__init__" K) fd) (S : SScope N ps (defScope st)) (SX : SupX K file x par) (hfile : ((P.main.file : Str) == file) = true) (htop : (P.main.scope.names.lookup ("super" : Str)).isSome = false) (hmg : mg "super" = none) (c : Ct)
    (hb : ∀ (cda cc : Addr) (A : Around) (outer : List Env) (s : Shared) (H : Hp) (E : XK) (B : Bs) (Ξ : XD → Sto → Prop), SupK P K mg (gaM x "__init__" K) cda cc (He.ga K x) self → Room k (A.deeper (envS qual (defScope st) s.heap.objs.size (gaM x "__init__" K) cda cc)) →
      Zx (cxS (L2.CX P w) P w K mg base N qual (defScope st) (gaM x "__init__" K) cda cc A outer s H E) B (exF B.M Ξ) →
      ∃ t, DB (cxS (L2.CX P w) P w K mg base N qual (defScope st) (gaM x "__init__" K) cda cc A outer s H E) B (defBody st) (defBody st) t ∧
        ∀ (ds : List D) (Ψ : D → Sto → Prop), ds.length = ps.length → c ds B.M Ψ Ξ → t { nx := fun _ M' => rtF B.M Ψ .non M', rt := rtF B.M Ψ } (ent N.length ds) B.M)
    (hp : ((defArgs st).posonlyargs ++ (defArgs st).args).head?.map (·.arg) = some self := by rfl) :
    FnOk P w K mg base (L2.CX P w) (k + 1) (gaM x "__init__" K) fd ps (spC K ps.length c) := by
  obtain ⟨oc, od, kV, doc, pm, an, cda, ct, osl, cc, rfl, lk, hcd⟩ := F.ex
  obtain ⟨⟨oc2, od2, osl2, lc⟩, oc3, od3, vs3, osl3, tf3, l3, v3⟩ := SX.at_ _ _ _ _ _ _ lk rfl rfl
  have SK : SupK P K mg (gaM x "__init__" K) cda cc (He.ga K x) self := by
    refine ⟨?_, ⟨_, _, _, _, file, tf3, l3, v3, hfile⟩, ⟨_, _, _, lc⟩, htop, hmg, SX.cd, SX.any⟩
    obtain ⟨ar, e1, e2⟩ := Option.map_eq_some_iff.mp hp
    exact ⟨_, _, _, _, ar, lk, e1, e2⟩
  refine fn_ofS lk hcd lc S (fun vs H Q E h => h.1) fun A outer s H vs Q E s1 hr h I => ?_
  obtain ⟨hl, ds, G, M, Ψ, Ξ, wd, r, hc, hQ, hE⟩ := h
  have tk0 : Takes (cxS (L2.CX P w) P w K mg base N qual (defScope st) (gaM x "__init__" K) cda cc A outer s H E) (fun cls d _ H => E cls d H) := takes_of rfl rfl rfl rfl
  obtain ⟨t, ht, q⟩ := hb cda cc A outer s H E ⟨H, G, M⟩ Ξ SK hr ⟨tk0.imp (exF_take (B := ⟨H, G, M⟩) hE), passes_of rfl⟩
  have end_ : ∀ (d : D) (r' : En) (M' : Sto) (v : V) (σ' : L2.St) (H' G' : Hp), rtF M Ψ d M' → Rel K ⟨H, G, M⟩ r' M' σ' H' G' → Rep K G' d v → Q v H' := fun d r' M' v σ' H' G' ⟨d', M'', fr, q⟩ R' p => by
    cases fr with
    | same => exact hQ _ _ _ _ _ q R'.wd R'.sin p
    | drop =>
      obtain ⟨w1, s1⟩ := frz_end R'.wd R'.sin
      exact hQ _ _ _ _ _ q w1 s1 (p.mono frzG_sub)
    | frz n =>
      obtain ⟨w1, s1⟩ := frz_end R'.wd R'.sin
      exact hQ _ _ _ _ _ q w1 s1 ((p.mono frzG_sub).sb (rep_frz R'.wd n))
  refine ht [] s1 _ H _ I ⟨ent N.length ds, M, G, _, rel_start wd r, q ds Ψ (r.length.trans hl) hc, ⟨fun r' M' σ' H' G' q' R' s' => ?_, fun d r' M' v σ' H' G' q' R' p => end_ d r' M' v σ' H' G' q' R' p, fun _ _ _ _ _ q' _ _ => q'.elim, fun _ _ _ _ _ q' _ _ => q'.elim⟩⟩
  exact end_ .non r' M' .non σ' H' G' q' R' .non
end
section
variable {K : PySem.W.Frag} {x qual : Str} {st : Stmt} {f : Addr} {fd : FuncData} {ps : List Str}
theorem bind0S (F : FnS K x qual st f fd) (n : Nat) (hn : ps.length = n)
    (h : ∀ (cc : Addr) (kV doc pm : Value) (an : Option Addr) (cda : Addr) (ct : Value) (us : List Value), us.length = n → bindArgs (PySem.W.fnX x qual (defArgs st) (defBody st) (defScope st) [("__class__", cc)] .none kV doc pm an (.ref cda) ct) ⟨us, []⟩ = pure (ps.zip us)) : BindD K fd ps (Z.pos n) := by
  obtain ⟨oc, od, kV, doc, pm, an, cda, ct, osl, cc, rfl, lk, hcd⟩ := F.ex
  exact ⟨fun ds zs h _ => h.trans hn.symm, fun us _ => us, fun vs _ => vs, ⟨fun s us ws _ h1 h2 => .of_eq (by
    have e : ws = [] := List.length_eq_zero_iff.mp h2
    rw [e]
    exact h cc kV doc pm an cda ct us h1), fun r _ => r⟩, fun G ds vs zs us r _ => r⟩
end
section
variable {X : Cx} {B : Bs} {e : Expr}
theorem de_alt {f1 f2 : DTE} (h1 : DE X B e f1) (h2 : DE X B e f2) : DE X B e (fun r M Ψ => f1 r M Ψ ∨ f2 r M Ψ) := ⟨fun pins s σ H Q I ⟨r, M, G, Ψ, R, h, k⟩ => h.elim (fun y => h1.run pins s σ H Q I ⟨r, M, G, Ψ, R, y, k⟩) fun y => h2.run pins s σ H Q I ⟨r, M, G, Ψ, R, y, k⟩⟩
theorem dt_alt {f1 f2 : DTT} (h1 : DT X B e f1) (h2 : DT X B e f2) : DT X B e (fun r M Ψ => f1 r M Ψ ∨ f2 r M Ψ) := ⟨fun pins s σ H Q I ⟨r, M, G, Ψ, R, h, k⟩ => h.elim (fun y => h1.run pins s σ H Q I ⟨r, M, G, Ψ, R, y, k⟩) fun y => h2.run pins s σ H Q I ⟨r, M, G, Ψ, R, y, k⟩⟩
end
end Z
namespace K54
open PySem PySem.Spec PyProof.Rows L2 Z

abbrev FILE : Str := PySem.Challenge.pw_turnmill_k54_links_of_fractions.main.file
def top (i : Nat) : Stmt := PySem.Challenge.pw_turnmill_k54_links_of_fractions.main.body.getD i (.Pass ⟨0, 0, 0, 0⟩)
abbrev s__law_hand : Stmt := top 59
abbrev s__law_normal : Stmt := top 64
abbrev s__law_pick : Stmt := top 60
abbrev s__law_of : Stmt := top 61
abbrev s__law_word : Stmt := top 63
abbrev s__law_root_line : Stmt := top 65
abbrev s_is_word : Stmt := top 19
abbrev s_check_word : Stmt := top 20
abbrev s_least_ring : Stmt := top 56
abbrev s_Rowd_initd : Stmt := inClass (top 57) 0
abbrev s__law_row : Stmt := top 66
abbrev s_Row_ring : Stmt := inClass (top 57) 3
abbrev s_is_root : Stmt := top 39
abbrev s_is_square : Stmt := top 32
abbrev s_Table_entries : Stmt := inClass (top 28) 6
abbrev s_is_integer : Stmt := top 17
abbrev s_root_floor : Stmt := top 31
abbrev s_divisor_of : Stmt := top 21
abbrev s_sign_of : Stmt := top 33
abbrev s_Numberd_initd : Stmt := inClass (top 35) 0
abbrev s_Number_led : Stmt := inClass (top 35) 9
abbrev s_number_led : Stmt := top 36
abbrev s_product : Stmt := top 22
abbrev s_word_table : Stmt := top 23
abbrev s_Tabled_initd : Stmt := inClass (top 28) 0
abbrev s_Table_of_word : Stmt := inClass (top 28) 1
abbrev s_Row_number : Stmt := inClass (top 57) 13
abbrev s_Number_under : Stmt := inClass (top 35) 3
abbrev s_are_unlike : Stmt := top 40
abbrev s_Unliked_initd : Stmt := inClass (top 42) 0
abbrev s_root_tables : Stmt := top 48
abbrev s_least_tables : Stmt := top 51
abbrev s_Link_base : Stmt := inClass (top 42) 0
abbrev s_Table_determinant : Stmt := inClass (top 28) 2
abbrev s_determinant_text : Stmt := top 44
abbrev s_Linkd_initd : Stmt := inClass (top 43) 0
abbrev s_Table_back : Stmt := inClass (top 28) 8
abbrev s_Row_lead : Stmt := inClass (top 57) 2
abbrev s_table_with : Stmt := top 29
abbrev s_link : Stmt := top 52
abbrev s__law_same : Stmt := top 62
abbrev s_Unlike_linked : Stmt := inClass (top 42) 3
abbrev s_Link_linked : Stmt := inClass (top 43) 3
abbrev s_Unlike_holds : Stmt := inClass (top 45) 1
abbrev s_Numberd_eqd : Stmt := inClass (top 35) 10
abbrev s_leads : Stmt := top 41
abbrev s_Link_holds : Stmt := inClass (top 43) 5
abbrev s_Unlike_told : Stmt := inClass (top 45) 0
abbrev s_Link_up : Stmt := inClass (top 43) 1
abbrev s_Link_down : Stmt := inClass (top 43) 2
abbrev s_Link_told : Stmt := inClass (top 43) 4
abbrev s_law : Stmt := top 67
abbrev s_InvalidNumber : Stmt := inClass (top 5) 0
abbrev s_InvalidRing : Stmt := inClass (top 6) 0
abbrev s_InvalidTable : Stmt := inClass (top 4) 0
abbrev s_InvalidWord : Stmt := inClass (top 3) 0
theorem sc__law_hand : FnScope ["_law_script", "_law_cells", "_law_mark", "_law_cell"] ["_law_script"] (defScope s__law_hand) := ⟨rfl, rfl, rfl, by decide +kernel, rfl, by decide +kernel, by decide +kernel⟩
theorem sc__law_normal : FnScope ["_law_front", "_law_loop", "_law_size"] ["_law_front", "_law_loop"] (defScope s__law_normal) := ⟨rfl, rfl, rfl, by decide +kernel, rfl, by decide +kernel, by decide +kernel⟩
theorem sc__law_pick : FnScope ["_law_hand_here", "_law_many", "_law_cell", "_law_one", "_law_two", "_law_drawn"] ["_law_hand_here", "_law_many"] (defScope s__law_pick) := ⟨rfl, rfl, rfl, by decide +kernel, rfl, by decide +kernel, by decide +kernel⟩
theorem sc__law_of : FnScope ["_law_hand_here", "_law_items"] ["_law_hand_here", "_law_items"] (defScope s__law_of) := ⟨rfl, rfl, rfl, by decide +kernel, rfl, by decide +kernel, by decide +kernel⟩
theorem sc__law_word : FnScope ["_law_hand_here", "_law_peak", "_law_k"] ["_law_hand_here", "_law_peak"] (defScope s__law_word) := ⟨rfl, rfl, rfl, by decide +kernel, rfl, by decide +kernel, by decide +kernel⟩
theorem sc__law_root_line : FnScope ["_law_hand_here", "_law_peak"] ["_law_hand_here", "_law_peak"] (defScope s__law_root_line) := ⟨rfl, rfl, rfl, by decide +kernel, rfl, by decide +kernel, by decide +kernel⟩
theorem sc_is_word : FnScope ["value", "turn"] ["value"] (defScope s_is_word) := ⟨rfl, rfl, rfl, by decide +kernel, rfl, by decide +kernel, by decide +kernel⟩
theorem sc_check_word : FnScope ["value"] ["value"] (defScope s_check_word) := ⟨rfl, rfl, rfl, by decide +kernel, rfl, by decide +kernel, by decide +kernel⟩
theorem sc_least_ring : FnScope ["ring"] ["ring"] (defScope s_least_ring) := ⟨rfl, rfl, rfl, by decide +kernel, rfl, by decide +kernel, by decide +kernel⟩
theorem sc_Rowd_initd : FnScope ["self", "lead", "ring", "least", "same", "cut"] ["self", "lead", "ring"] (defScope s_Rowd_initd) := ⟨rfl, rfl, rfl, by decide +kernel, rfl, by decide +kernel, by decide +kernel⟩
theorem sc__law_row : FnScope ["_law_phrase"] ["_law_phrase"] (defScope s__law_row) := ⟨rfl, rfl, rfl, by decide +kernel, rfl, by decide +kernel, by decide +kernel⟩
theorem sc_Row_ring : FnScope ["self"] ["self"] (defScope s_Row_ring) := ⟨rfl, rfl, rfl, by decide +kernel, rfl, by decide +kernel, by decide +kernel⟩
theorem sc_is_root : FnScope ["row"] ["row"] (defScope s_is_root) := ⟨rfl, rfl, rfl, by decide +kernel, rfl, by decide +kernel, by decide +kernel⟩
theorem sc_is_square : FnScope ["number", "root"] ["number"] (defScope s_is_square) := ⟨rfl, rfl, rfl, by decide +kernel, rfl, by decide +kernel, by decide +kernel⟩
theorem sc_Table_entries : FnScope ["self"] ["self"] (defScope s_Table_entries) := ⟨rfl, rfl, rfl, by decide +kernel, rfl, by decide +kernel, by decide +kernel⟩
theorem sc_is_integer : FnScope ["value"] ["value"] (defScope s_is_integer) := ⟨rfl, rfl, rfl, by decide +kernel, rfl, by decide +kernel, by decide +kernel⟩
theorem sc_root_floor : FnScope ["number", "low", "high", "middle"] ["number"] (defScope s_root_floor) := ⟨rfl, rfl, rfl, by decide +kernel, rfl, by decide +kernel, by decide +kernel⟩
theorem sc_divisor_of : FnScope ["numbers", "found", "number", "one", "other"] ["numbers"] (defScope s_divisor_of) := ⟨rfl, rfl, rfl, by decide +kernel, rfl, by decide +kernel, by decide +kernel⟩
theorem sc_sign_of : FnScope ["number"] ["number"] (defScope s_sign_of) := ⟨rfl, rfl, rfl, by decide +kernel, rfl, by decide +kernel, by decide +kernel⟩
theorem sc_Numberd_initd : FnScope ["self", "top", "bottom", "under", "root", "common", "first", "second", "last", "part"] ["self", "top", "bottom", "under"] (defScope s_Numberd_initd) := ⟨rfl, rfl, rfl, by decide +kernel, rfl, by decide +kernel, by decide +kernel⟩
theorem sc_Number_led : FnScope ["self", "table", "a", "b", "c", "d", "top", "bottom", "under", "upper", "lower", "factor", "rest", "sign"] ["self", "table"] (defScope s_Number_led) := ⟨rfl, rfl, rfl, by decide +kernel, rfl, by decide +kernel, by decide +kernel⟩
theorem sc_number_led : FnScope ["number", "table", "a", "b", "c", "d"] ["number", "table"] (defScope s_number_led) := ⟨rfl, rfl, rfl, by decide +kernel, rfl, by decide +kernel, by decide +kernel⟩
theorem sc_product : FnScope ["one", "other", "a", "b", "c", "d", "e", "f", "g", "h"] ["one", "other"] (defScope s_product) := ⟨rfl, rfl, rfl, by decide +kernel, rfl, by decide +kernel, by decide +kernel⟩
theorem sc_word_table : FnScope ["word", "found", "turn"] ["word"] (defScope s_word_table) := ⟨rfl, rfl, rfl, by decide +kernel, rfl, by decide +kernel, by decide +kernel⟩
theorem sc_Tabled_initd : FnScope ["self", "a", "b", "c", "d", "entry"] ["self", "a", "b", "c", "d"] (defScope s_Tabled_initd) := ⟨rfl, rfl, rfl, by decide +kernel, rfl, by decide +kernel, by decide +kernel⟩
theorem sc_Table_of_word : FnScope ["word", "a", "b", "c", "d"] ["word"] (defScope s_Table_of_word) := ⟨rfl, rfl, rfl, by decide +kernel, rfl, by decide +kernel, by decide +kernel⟩
theorem sc_Row_number : FnScope ["self", "lead", "ring", "a", "b", "c", "d"] ["self"] (defScope s_Row_number) := ⟨rfl, rfl, rfl, by decide +kernel, rfl, by decide +kernel, by decide +kernel⟩
theorem sc_Number_under : FnScope ["self"] ["self"] (defScope s_Number_under) := ⟨rfl, rfl, rfl, by decide +kernel, rfl, by decide +kernel, by decide +kernel⟩
theorem sc_are_unlike : FnScope ["row", "other"] ["row", "other"] (defScope s_are_unlike) := ⟨rfl, rfl, rfl, by decide +kernel, rfl, by decide +kernel, by decide +kernel⟩
theorem sc_Unliked_initd : FnScope ["self", "row", "other"] ["self", "row", "other"] (defScope s_Unliked_initd) := ⟨rfl, rfl, rfl, by decide +kernel, rfl, by decide +kernel, by decide +kernel⟩
theorem sc_root_tables : FnScope ["one", "other", "p", "r", "s", "q", "t", "u", "rho", "low", "scale", "plain", "factor", "twice", "rest", "modulus", "pairs", "found", "c", "d", "a", "b"] ["one", "other"] (defScope s_root_tables) := ⟨rfl, rfl, rfl, by decide +kernel, rfl, by decide +kernel, by decide +kernel⟩
theorem sc_least_tables : FnScope ["one", "other", "first", "middle", "last", "root", "known", "up", "down", "found"] ["one", "other"] (defScope s_least_tables) := ⟨rfl, rfl, rfl, by decide +kernel, rfl, by decide +kernel, by decide +kernel⟩
theorem sc_Link_base : FnScope ["self", "row", "other"] ["self", "row", "other"] (defScope s_Link_base) := ⟨rfl, rfl, rfl, by decide +kernel, rfl, by decide +kernel, by decide +kernel⟩
theorem sc_Table_determinant : FnScope ["self", "a", "b", "c", "d"] ["self"] (defScope s_Table_determinant) := ⟨rfl, rfl, rfl, by decide +kernel, rfl, by decide +kernel, by decide +kernel⟩
theorem sc_determinant_text : FnScope ["table"] ["table"] (defScope s_determinant_text) := ⟨rfl, rfl, rfl, by decide +kernel, rfl, by decide +kernel, by decide +kernel⟩
theorem sc_Linkd_initd : SScope ["self", "row", "other", "up", "down"] ["self", "row", "other", "up", "down"] (defScope s_Linkd_initd) := ⟨rfl, rfl, rfl, by decide +kernel, rfl, by decide +kernel, by decide +kernel, by decide +kernel, rfl, rfl⟩
theorem sc_Table_back : FnScope ["self", "a", "b", "c", "d"] ["self"] (defScope s_Table_back) := ⟨rfl, rfl, rfl, by decide +kernel, rfl, by decide +kernel, by decide +kernel⟩
theorem sc_Row_lead : FnScope ["self"] ["self"] (defScope s_Row_lead) := ⟨rfl, rfl, rfl, by decide +kernel, rfl, by decide +kernel, by decide +kernel⟩
theorem sc_table_with : FnScope ["entries", "a", "b", "c", "d"] ["entries"] (defScope s_table_with) := ⟨rfl, rfl, rfl, by decide +kernel, rfl, by decide +kernel, by decide +kernel⟩
theorem sc_link : FnScope ["row", "other", "one", "late", "up", "down", "back"] ["row", "other"] (defScope s_link) := ⟨rfl, rfl, rfl, by decide +kernel, rfl, by decide +kernel, by decide +kernel⟩
theorem sc__law_same : FnScope ["_law_found", "_law_due", "_law_one", "_law_two"] ["_law_found", "_law_due"] (defScope s__law_same) := ⟨rfl, rfl, rfl, by decide +kernel, rfl, by decide +kernel, by decide +kernel⟩
theorem sc_Unlike_linked : FnScope ["self"] ["self"] (defScope s_Unlike_linked) := ⟨rfl, rfl, rfl, by decide +kernel, rfl, by decide +kernel, by decide +kernel⟩
theorem sc_Link_linked : FnScope ["self"] ["self"] (defScope s_Link_linked) := ⟨rfl, rfl, rfl, by decide +kernel, rfl, by decide +kernel, by decide +kernel⟩
theorem sc_Unlike_holds : FnScope ["self"] ["self"] (defScope s_Unlike_holds) := ⟨rfl, rfl, rfl, by decide +kernel, rfl, by decide +kernel, by decide +kernel⟩
theorem sc_Numberd_eqd : FnScope ["self", "other"] ["self", "other"] (defScope s_Numberd_eqd) := ⟨rfl, rfl, rfl, by decide +kernel, rfl, by decide +kernel, by decide +kernel⟩
theorem sc_leads : FnScope ["table", "row", "other"] ["table", "row", "other"] (defScope s_leads) := ⟨rfl, rfl, rfl, by decide +kernel, rfl, by decide +kernel, by decide +kernel⟩
theorem sc_Link_holds : FnScope ["self", "table", "sign"] ["self"] (defScope s_Link_holds) := ⟨rfl, rfl, rfl, by decide +kernel, rfl, by decide +kernel, by decide +kernel⟩
theorem sc_Unlike_told : FnScope ["self"] ["self"] (defScope s_Unlike_told) := ⟨rfl, rfl, rfl, by decide +kernel, rfl, by decide +kernel, by decide +kernel⟩
theorem sc_Link_up : FnScope ["self"] ["self"] (defScope s_Link_up) := ⟨rfl, rfl, rfl, by decide +kernel, rfl, by decide +kernel, by decide +kernel⟩
theorem sc_Link_down : FnScope ["self"] ["self"] (defScope s_Link_down) := ⟨rfl, rfl, rfl, by decide +kernel, rfl, by decide +kernel, by decide +kernel⟩
theorem sc_Link_told : FnScope ["self"] ["self"] (defScope s_Link_told) := ⟨rfl, rfl, rfl, by decide +kernel, rfl, by decide +kernel, by decide +kernel⟩
theorem sc_law : FnScope ["_law_script", "_law_hand_here", "_law_step", "_law_phrase", "_law_rival", "_law_path", "_law_goal", "_law_found", "_law_same_here", "_law_grid"] ["_law_script"] (defScope s_law) := ⟨rfl, rfl, rfl, by decide +kernel, rfl, by decide +kernel, by decide +kernel⟩
theorem sc_InvalidNumber : FnScope ["self"] ["self"] (defScope s_InvalidNumber) := ⟨rfl, rfl, rfl, by decide +kernel, rfl, by decide +kernel, by decide +kernel⟩
theorem sc_InvalidRing : FnScope ["self", "given"] ["self", "given"] (defScope s_InvalidRing) := ⟨rfl, rfl, rfl, by decide +kernel, rfl, by decide +kernel, by decide +kernel⟩
theorem sc_InvalidTable : FnScope ["self"] ["self"] (defScope s_InvalidTable) := ⟨rfl, rfl, rfl, by decide +kernel, rfl, by decide +kernel, by decide +kernel⟩
theorem sc_InvalidWord : FnScope ["self", "given"] ["self", "given"] (defScope s_InvalidWord) := ⟨rfl, rfl, rfl, by decide +kernel, rfl, by decide +kernel, by decide +kernel⟩
structure Txt (K : PySem.W.Frag) (mg : Str → Option Value) : Prop where
  n_range : mg "range" = none
  cl_Unlike : Cls K (He.ga K "Unlike")
  cl_Link : Cls K (He.ga K "Link")
  cl_Table : Cls K (He.ga K "Table")
  na_Link_words : NoAttr K (He.ga K "Link") "words"
  na_Table_whole : NoAttr K (He.ga K "Table") "whole"
  cl_Row : Cls K (He.ga K "Row")
  cf_Number : CmpF K (He.ga K "Number")
  na_Row_whole : NoAttr K (He.ga K "Row") "whole"
  cl_Number : Cls K (He.ga K "Number")
  na_Number_whole : NoAttr K (He.ga K "Number") "whole"
  n_isinstance : mg "isinstance" = none
  io_Number : OwnF K (He.ga K "Number")
  gl_Number : mg "Number" = some (.ref (He.ga K "Number"))
  gl_Table : mg "Table" = some (.ref (He.ga K "Table"))
  n_int : mg "int" = none
  n_all : mg "all" = none
  n_abs : mg "abs" = none
  n_bool : mg "bool" = none
  k_NEUTRAL : TupG K mg "NEUTRAL" [.int 1,.int 0,.int 0,.int 1]
  k_RIGHT : TupG K mg "RIGHT" [.int 1,.int 1,.int 0,.int 1]
  k_LEFT : TupG K mg "LEFT" [.int 1,.int 0,.int 1,.int 1]
  k_TURNS : ∃ t, mg "TURNS" = some (.str "LR" t)
  n_str : mg "str" = none
  na_Link_lower : NoAttr K (He.ga K "Link") "lower"
  na_Link_upper : NoAttr K (He.ga K "Link") "upper"
  na_Link_own_row : NoAttr K (He.ga K "Link") "own_row"
  na_Link_own_other : NoAttr K (He.ga K "Link") "own_other"
  na_Unlike_own_row : NoAttr K (He.ga K "Unlike") "own_row"
  na_Unlike_own_other : NoAttr K (He.ga K "Unlike") "own_other"
  n_tuple : mg "tuple" = none
  n_list : mg "list" = none
  n_zip : mg "zip" = none
  n_len : mg "len" = none
  k_SWAP : TupG K mg "SWAP" [.int 0,.int 1,.int 1,.int 0]
  n_super : mg "super" = none
  sup_Link : SupX K FILE "Link" "Tie"
def isIn (M : Sto) (d : D) : Bool := decide (tyN M d = some "int")
theorem cutJ {P A : Prop} (main : P → A) (rest : P) : A := main rest
theorem cut1 {α : Type} {Q C : α → Prop} {A : Prop} (main : (∀ a, C a → Q a) → A) (rest : ∀ a, C a → Q a) : A := main rest
theorem cut3 {α β γ : Type} {Q C : α → β → γ → Prop} {A : Prop} (main : (∀ a b c, C a b c → Q a b c) → A) (rest : ∀ a b c, C a b c → Q a b c) : A := main rest
theorem no_at {f : Str} {d : D} (h : (f == ("whole" : Str)) = false) : List.lookup f [(("whole" : Str), d)] = none := look_ne h
theorem no_plain {d : D} : List.lookup ("plain" : Str) [(("whole" : Str), d)] = none := no_at (by decide +kernel)
theorem no_back {d : D} : List.lookup ("back" : Str) [(("whole" : Str), d)] = none := no_at (by decide +kernel)
theorem no_alike {d : D} : List.lookup ("alike" : Str) [(("whole" : Str), d)] = none := no_at (by decide +kernel)
theorem no_taken {d : D} : List.lookup ("taken" : Str) [(("whole" : Str), d)] = none := no_at (by decide +kernel)
theorem no_entries {d : D} : List.lookup ("entries" : Str) [(("whole" : Str), d)] = none := no_at (by decide +kernel)
theorem no_power {d : D} : List.lookup ("power" : Str) [(("whole" : Str), d)] = none := no_at (by decide +kernel)
theorem wB_LR {x : Str} (h : LR x.cps.toList) : wB (.str x) = true := List.all_eq_true.mpr fun c hc => decide_eq_true (lr_mem.mpr (h c hc))
theorem wB_odd {x : Str} {c : Nat} (hc : c ∈ x.cps.toList) (h : c ≠ 76 ∧ c ≠ 82) : wB (.str x) = false := by
  cases e : wB (.str x) with
  | false => rfl
  | true =>
    have := of_decide_eq_true (List.all_eq_true.mp e c hc)
    rcases lr_mem.mp this with z | z
    · exact absurd z h.1
    · exact absurd z h.2
section
variable {P : Program} {w : World} {K : PySem.W.Frag} {mg : Str → Option Value} {base : Heap}
abbrev b__law_hand : List (Nat × List Str × (List D → List D → List D)) := [(pos 1)]
abbrev b__law_normal : List (Nat × List Str × (List D → List D → List D)) := [(pos 2)]
abbrev b__law_pick : List (Nat × List Str × (List D → List D → List D)) := [(pos 2)]
abbrev b__law_of : List (Nat × List Str × (List D → List D → List D)) := [(pos 2)]
abbrev b__law_word : List (Nat × List Str × (List D → List D → List D)) := [(pos 2)]
abbrev b__law_root_line : List (Nat × List Str × (List D → List D → List D)) := [(pos 2)]
abbrev b_is_word : List (Nat × List Str × (List D → List D → List D)) := [(pos 1)]
abbrev b_check_word : List (Nat × List Str × (List D → List D → List D)) := [(pos 1)]
abbrev b_least_ring : List (Nat × List Str × (List D → List D → List D)) := [(pos 1)]
abbrev b_Rowd_initd : List (Nat × List Str × (List D → List D → List D)) := [(pos 3)]
abbrev b__law_row : List (Nat × List Str × (List D → List D → List D)) := [(pos 1)]
abbrev b_Row_ring : List (Nat × List Str × (List D → List D → List D)) := [(pos 1)]
abbrev b_is_root : List (Nat × List Str × (List D → List D → List D)) := [(pos 1)]
abbrev b_is_square : List (Nat × List Str × (List D → List D → List D)) := [(pos 1)]
abbrev b_Table_entries : List (Nat × List Str × (List D → List D → List D)) := [(pos 1)]
abbrev b_is_integer : List (Nat × List Str × (List D → List D → List D)) := [(pos 1)]
abbrev b_root_floor : List (Nat × List Str × (List D → List D → List D)) := [(pos 1)]
abbrev b_divisor_of : List (Nat × List Str × (List D → List D → List D)) := [(pos 1)]
abbrev b_sign_of : List (Nat × List Str × (List D → List D → List D)) := [(pos 1)]
abbrev b_Numberd_initd : List (Nat × List Str × (List D → List D → List D)) := [(2, [], fun ds dz => gS [.p 0, .p 1, .d 0, .d 1] ds [.int 1, .int 0] dz), (3, ["under"], fun ds dz => gS [.p 0, .p 1, .p 2, .k 0] ds [.int 1] dz), (3, [], fun ds dz => gS [.p 0, .p 1, .p 2, .d 1] ds [.int 1, .int 0] dz)]
abbrev b_Number_led : List (Nat × List Str × (List D → List D → List D)) := [(pos 2)]
abbrev b_number_led : List (Nat × List Str × (List D → List D → List D)) := [(pos 2)]
abbrev b_product : List (Nat × List Str × (List D → List D → List D)) := [(pos 2)]
abbrev b_word_table : List (Nat × List Str × (List D → List D → List D)) := [(pos 1)]
abbrev b_Tabled_initd : List (Nat × List Str × (List D → List D → List D)) := [(pos 5)]
abbrev b_Table_of_word : List (Nat × List Str × (List D → List D → List D)) := [(pos 1)]
abbrev b_Row_number : List (Nat × List Str × (List D → List D → List D)) := [(pos 1)]
abbrev b_Number_under : List (Nat × List Str × (List D → List D → List D)) := [(pos 1)]
abbrev b_are_unlike : List (Nat × List Str × (List D → List D → List D)) := [(pos 2)]
abbrev b_Unliked_initd : List (Nat × List Str × (List D → List D → List D)) := [(pos 3)]
abbrev b_root_tables : List (Nat × List Str × (List D → List D → List D)) := [(pos 2)]
abbrev b_least_tables : List (Nat × List Str × (List D → List D → List D)) := [(pos 2)]
abbrev b_Link_base : List (Nat × List Str × (List D → List D → List D)) := [(pos 3)]
abbrev b_Table_determinant : List (Nat × List Str × (List D → List D → List D)) := [(pos 1)]
abbrev b_determinant_text : List (Nat × List Str × (List D → List D → List D)) := [(pos 1)]
abbrev b_Linkd_initd : List (Nat × List Str × (List D → List D → List D)) := [(pos 5)]
abbrev b_Table_back : List (Nat × List Str × (List D → List D → List D)) := [(pos 1)]
abbrev b_Row_lead : List (Nat × List Str × (List D → List D → List D)) := [(pos 1)]
abbrev b_table_with : List (Nat × List Str × (List D → List D → List D)) := [(pos 1)]
abbrev b_link : List (Nat × List Str × (List D → List D → List D)) := [(0, ["other", "row"], fun ds dz => gS [.k 1, .k 0] ds [] dz), (pos 2)]
abbrev b__law_same : List (Nat × List Str × (List D → List D → List D)) := [(pos 2)]
abbrev b_Unlike_linked : List (Nat × List Str × (List D → List D → List D)) := [(pos 1)]
abbrev b_Link_linked : List (Nat × List Str × (List D → List D → List D)) := [(pos 1)]
abbrev b_Unlike_holds : List (Nat × List Str × (List D → List D → List D)) := [(pos 1)]
abbrev b_Numberd_eqd : List (Nat × List Str × (List D → List D → List D)) := [(pos 2)]
abbrev b_leads : List (Nat × List Str × (List D → List D → List D)) := [(pos 3)]
abbrev b_Link_holds : List (Nat × List Str × (List D → List D → List D)) := [(pos 1)]
abbrev b_Unlike_told : List (Nat × List Str × (List D → List D → List D)) := [(pos 1)]
abbrev b_Link_up : List (Nat × List Str × (List D → List D → List D)) := [(pos 1)]
abbrev b_Link_down : List (Nat × List Str × (List D → List D → List D)) := [(pos 1)]
abbrev b_Link_told : List (Nat × List Str × (List D → List D → List D)) := [(pos 1)]
abbrev b_law : List (Nat × List Str × (List D → List D → List D)) := [(pos 1)]
def c__law_hand : Ct := fun ds M Ψ _ => ∃ ns : List Int, ds = [scr ns] ∧ ns.length ≤ 63 ∧ ∀ p (h : Hand), M p = none → h.cs.length ≤ 63 → 0 ≤ h.i → Ψ (.ref p) (updM M p (hd h))
theorem ok__law_hand {f : Addr} {fd : FuncData} {dvs : List V} {kws : List (Str × V)} (T : Txt K mg)  (F : FnZ K "_law_hand" "_law_hand" s__law_hand dvs kws f fd) : FnOk P w K mg base (L2.CX P w) 2 f fd ["_law_script"] (spC K (["_law_script"] : List Str).length (c__law_hand)) := by
  have hnd := sc__law_hand.nd
  refine fnD F sc__law_hand (c__law_hand) fun cdv A outer s H E B Ξ hr z => ⟨_, (dss_cons (ds_setLc (i := 1) rfl hnd (sw_true rfl rfl rfl rfl) (di_list (de_slice (de_var (i := 0)) do_none (do_some de_int))) (blkOk_by (own := [("_law_cell", 3)]) (by rfl)) (tg_name (i := 3) (by decide)) (fun _ _ _ _ _ => (pg_name (i := 3) hnd rfl (by first | exact Or.inl rfl | exact Or.inr rfl) (by first | exact .inl rfl | exact .inr rfl))) (fun _ _ _ _ _ _ => dts_nil) (fun _ _ _ _ _ _ => (de_int1 T.n_int (da_cons (de_var (i := 3)) da_nil))))
    (dss_cons (ds_set (i := 2) hnd (de_add de_int (de_mul de_int (de_len T.n_len (da_cons (de_var (i := 1)) da_nil)))))
    (dss_cons (ds_for z.po rfl (di_list (de_var (i := 1))) (dg_name (i := 3) hnd) (dss_one (ds_set (i := 2) hnd (de_fmod (de_int1 T.n_int (da_cons (de_add (de_mul (de_var (i := 2)) de_int) (de_var (i := 3))) da_nil)) de_int))))
    (dss_one (ds_ret (de_lstM (da_cons (de_var (i := 1)) (da_cons de_int (da_cons de_int (da_cons (de_var (i := 2)) da_nil)))))))))), fun ds Ψ hl hc => ?_⟩
  obtain ⟨ns, rfl, hl, q⟩ := hc
  have hl2 : (cutD ns none (some 63)).length ≤ 63 := Nat.le_trans (cut_len _ _ _) hl
  refine compD_map (xs := cutD (ns.map D.int) none (some 63)) (S := fun M => lstOf M (.lst (cutD (ns.map D.int) none (some 63))) = some (cutD (ns.map D.int) none (some 63))) (fun K h => ⟨_, rfl, h⟩) (fun d => d) rfl ?_ (fun d hd Q q => ?_) ?_
  · rw [cut_map, List.length_map]
    exact Nat.le_trans hl2 (Nat.le_trans (by decide) big_ok)
  · rw [cut_map] at hd
    obtain ⟨i, _, rfl⟩ := List.mem_map.mp hd
    exact q
  rw [List.map_id', cut_map]
  generalize hcs : cutD ns none (some 63) = cs at hl2 ⊢
  refine ⟨IntMulOk.of_left (by decide), ?_⟩
  refine forD_n (xs := cs.map D.int) (S := fun M => lstOf M (.lst (cs.map D.int)) = some (cs.map D.int)) (fun K h => ⟨_, rfl, h⟩) (fun i r M' => M' = B.M ∧ ∃ (m : Int) (o : Option D), r = [some (scr ns), some (.lst (cs.map D.int)), some (.int m), o]) ⟨rfl, _, none, rfl⟩ (fun _ _ _ _ => rfl) (fun i d r M' hd h => ?_) (fun r M' h => ?_)
  · obtain ⟨rfl, m, o, rfl⟩ := h
    obtain ⟨c, _, rfl⟩ := List.mem_map.mp (lmem hd)
    exact ⟨IntMulOk.of_right (by decide), by decide, .of ⟨rfl, _, _, rfl⟩⟩
  · obtain ⟨rfl, m, o, rfl⟩ := h
    exact ⟨ln (n := 4) rfl (by decide), fun p hp => ⟨_, _, .same, q p ⟨cs, 0, 0, m⟩ hp hl2 (Int.le_refl 0)⟩⟩
def c__law_normal : Ct := fun ds M Ψ _ => ∃ a r : List Nat, ds = [.str ⟨a.toArray⟩, .str ⟨r.toArray⟩] ∧ r ≠ [] ∧ a.length ≤ 20000 ∧ r.length ≤ 20000 ∧ ∀ x y, NfR a r x y → x.length ≤ a.length → y.length ≤ r.length → Ψ (.tup [.str ⟨x.toArray⟩, .str ⟨y.toArray⟩]) M
theorem ok__law_normal {f : Addr} {fd : FuncData} {dvs : List V} {kws : List (Str × V)} (T : Txt K mg)  (F : FnZ K "_law_normal" "_law_normal" s__law_normal dvs kws f fd) : FnOk P w K mg base (L2.CX P w) 2 f fd ["_law_front", "_law_loop"] (spC K (["_law_front", "_law_loop"] : List Str).length (c__law_normal)) := by
  have hnd := sc__law_normal.nd
  refine fnD F sc__law_normal (c__law_normal) fun cdv A outer s H E B Ξ hr z => ⟨_, (dss_cons (ds_for z.po rfl (di_range3 T.n_range (da_cons (de_len T.n_len (da_cons (de_var (i := 1)) da_nil)) (da_cons de_int (da_cons (de_neg de_int) da_nil)))) (dg_name (i := 2) hnd) (dss_one (ds_if (dw_and (dt_eq hr (de_mul (de_fdiv (de_len T.n_len (da_cons (de_var (i := 1)) da_nil)) (de_var (i := 2))) (de_var (i := 2))) (de_len T.n_len (da_cons (de_var (i := 1)) da_nil))) (dw_and1 (dt_eq hr (de_mulS (de_slice (de_var (i := 1)) do_none (do_some (de_var (i := 2)))) (de_fdiv (de_len T.n_len (da_cons (de_var (i := 1)) da_nil)) (de_var (i := 2)))) (de_var (i := 1))))).pt (dss_one (ds_set (i := 1) hnd (de_slice (de_var (i := 1)) do_none (do_some (de_var (i := 2)))))) dss_nil)))
    (dss_cons (ds_while z.po (dw_and (dt_ne hr (de_var (i := 0)) de_str) (dw_and1 (dt_eq hr (de_ix (de_var (i := 0)) (de_neg de_int)) (de_ix (de_var (i := 1)) (de_neg de_int))))).pt (dss_one (ds_par (i := 0) (j := 1) rfl hnd (da_cons (de_slice (de_var (i := 0)) do_none (do_some (de_neg de_int))) (da_cons (de_add (de_ix (de_var (i := 1)) (de_neg de_int)) (de_slice (de_var (i := 1)) do_none (do_some (de_neg de_int)))) da_nil)))))
    (dss_one (ds_ret (de_tup (da_cons (de_var (i := 0)) (da_cons (de_var (i := 1)) da_nil))))))), fun ds Ψ hl hc => ?_⟩
  obtain ⟨a, r, rfl, hr, sa, sr, q⟩ := hc
  have r0 : 0 < r.length := List.length_pos_iff.mpr hr
  obtain ⟨m, ⟨m0, pm⟩, hmin⟩ := ex_least (p := fun k => 0 < k ∧ PerF (cyc r) k) r.length ⟨r0, cyc_len⟩
  have hmr : m ≤ r.length := Nat.le_of_not_lt fun z => hmin _ z ⟨r0, cyc_len⟩
  have bA : a.length ≤ 400000 := by omega
  have bR : r.length ≤ 400000 := by omega
  rw [show ent (["_law_front", "_law_loop", "_law_size"] : List Str).length [D.str ⟨a.toArray⟩, .str ⟨r.toArray⟩] = [some (.str ⟨a.toArray⟩), some (.str ⟨r.toArray⟩), none] from rfl]
  try dsimp only [List.set, getS_z, getS_s, bin2, bin2T, ltD, leD, gtD, geD, cmp_i, add_i, sub_i, min2_i, max2_i]
  refine forD_n (xs := rngC r.length (-1) r.length) (S := fun _ => True) (fun K h => ?_) (fun i e M' => M' = B.M ∧ ∃ (l : List Nat) (o : Option D), e = [some (.str ⟨a.toArray⟩), some (.str ⟨l.toArray⟩), o] ∧ l ≠ [] ∧ l.length ≤ r.length ∧ (∀ i, cyc l i = cyc r i) ∧ m ∣ l.length ∧ (r.length < m + i → l.length = m)) ?_ (fun _ _ _ _ => trivial) (fun i d e M' hd' hI => ?_) (fun e M' hI => ?_)
  · try dsimp only [List.set, getS_z, getS_s, bin2, bin2T, ltD, leD, gtD, geD, cmp_i, add_i, sub_i, min2_i, max2_i]
    refine len_w bR ?_
    refine ⟨r.length, ?_, h⟩
    have := RgC.neg (i := r.length) (j := 0) (by omega) (by omega) (by decide) (by decide)
    rw [show ((r.length : Int) - 0).toNat = r.length by omega] at this
    exact this
  · exact ⟨rfl, r, none, rfl, hr, Nat.le_refl _, fun _ => rfl, PerF.least m0 pm hmin cyc_len, fun z => by omega⟩
  · obtain ⟨rfl, l, o, rfl, hl, sl, cl, dl, ml⟩ := hI
    have hi : i < r.length := by
      have := (List.getElem?_eq_some_iff.mp hd').1
      rw [rngC_len] at this
      exact this
    obtain ⟨s', es⟩ : ∃ s' : Nat, s' + i = r.length := ⟨r.length - i, by omega⟩
    rw [rngC_get hi, show (r.length : Int) + (i : Int) * -1 = (s' : Int) by omega] at hd'
    cases hd'
    have s0 : 0 < s' := by omega
    have bl' : l.length ≤ 400000 := by omega
    have l0 : 0 < l.length := List.length_pos_iff.mpr hl
    have plm : PerF (cyc l) m := per_congr (fun i => (cl i).symm) pm
    try dsimp only [List.set, getS_z, getS_s, bin2, bin2T, ltD, leD, gtD, geD, cmp_i, add_i, sub_i, min2_i, max2_i]
    refine len_w bl' (fdiv_n s0 (by omega) (mul_n (Nat.le_trans (Nat.div_le_self _ _) bl') (by omega) (len_w bl' (eq_n ?_))))
    refine bl_c (fun e => ?_) (fun e => ?_)
    · have e := of_decide_eq_true e
      have ds : s' ∣ l.length := ⟨l.length / s', by rw [Nat.mul_comm]; exact e.symm⟩
      have hsl : s' ≤ l.length := Nat.le_of_dvd l0 ds
      have ht : (l.take s').length = s' := by rw [List.length_take]; omega
      refine ite_t rfl ?_
      refine inKI (sl_take bl' ?_)
      refine len_w bl' (fdiv_n s0 (by omega) ?_)
      refine mul_w (Nat.le_trans (Nat.div_le_self _ _) bl') (by rw [ht, Nat.mul_comm, e]; exact bl') (by omega) ?_
      refine eq_w ?_
      refine bl_c (fun e2 => ?_) (fun e2 => ?_)
      · have p := (flat_iff s0 ds hl).mp (of_decide_eq_true e2)
        refine ite_t rfl ?_
        refine inKI (sl_take bl' ?_)
        have c2 : ∀ i, cyc (l.take s') i = cyc r i := fun i => (cyc_take s0 hsl p i).trans (cl i)
        have dm : m ∣ s' := PerF.least m0 pm hmin (per_congr cl p)
        refine .of ⟨rfl, _, _, rfl, fun z => by rw [z] at ht; simp at ht; omega, by omega, c2, by rw [ht]; exact dm, fun z => ?_⟩
        rw [ht]
        have := Nat.le_of_dvd s0 dm
        omega
      · refine ite_f rfl ?_
        refine .of ⟨rfl, l, _, rfl, hl, sl, cl, dl, fun z => ?_⟩
        by_cases z2 : r.length < m + i
        · exact ml z2
        · have : s' = m := by omega
          subst this
          exact absurd ((flat_iff s0 ds hl).mpr plm) (of_decide_eq_false e2)
    · refine ite_f rfl ?_
      refine ite_f rfl ?_
      refine .of ⟨rfl, l, _, rfl, hl, sl, cl, dl, fun z => ?_⟩
      by_cases z2 : r.length < m + i
      · exact ml z2
      · have : s' = m := by omega
        subst this
        exact absurd (Nat.div_mul_cancel dl) (of_decide_eq_false e)
  · obtain ⟨rfl, l, o, rfl, hl, sl, cl, dl, ml⟩ := hI
    have lm : l.length = m := ml (by rw [rngC_len]; omega)
    have pl : PrimR l := ⟨hl, fun k k0 k1 p => hmin k (by omega) ⟨k0, per_congr cl p⟩⟩
    refine ⟨fun e M' => M' = B.M ∧ ∃ (u v : List Nat) (o : Option D), e = [some (.str ⟨u.toArray⟩), some (.str ⟨v.toArray⟩), o] ∧ PrimR v ∧ (∀ i, sq u v i = sq a r i) ∧ u.length ≤ a.length ∧ v.length = m, fun e _ => lenN e 0, .of ⟨rfl, a, l, o, rfl, pl, fun i => ?_, Nat.le_refl _, lm⟩, fun e M' he => ?_⟩
    · unfold sq
      split
      · rfl
      · exact cl _
    obtain ⟨rfl, u, v, o, rfl, pv, sv, lu, lv⟩ := he
    have v0 := pv.pos
    have bU : u.length ≤ 400000 := by omega
    have bV : v.length ≤ 400000 := by omega
    try dsimp only [List.set, getS_z, getS_s, bin2, bin2T, ltD, leD, gtD, geD, cmp_i, add_i, sub_i, min2_i, max2_i]
    refine ne_emp ?_
    refine bl_c (fun e => ?_) (fun e => ?_)
    · have hu : u ≠ [] := fun z => by rw [z] at e; cases e
      have u0 : 0 < u.length := List.length_pos_iff.mpr hu
      refine ite_t rfl ?_
      refine ix_last bU u0 (ix_last bV v0 (eq_c ?_))
      refine bl_c (fun e2 => ?_) (fun e2 => ?_)
      · refine ite_t rfl ?_
        refine inKI (sl_last bU ?_)
        refine ix_last bV v0 ?_
        refine inKI (sl_last bV ?_)
        rw [one_w]
        refine add_w (by show 1 ≤ 400000; decide) (by rw [List.length_take]; omega) ?_
        rw [rot_last v0]
        refine .of ⟨⟨rfl, _, _, o, rfl, pv.rot (by omega), fun i => by rw [sq_step v0 u0 (of_decide_eq_true e2), sv], by rw [List.length_take]; omega, by rw [rotL_len (by omega)]; exact lv⟩, ?_⟩
        show (⟨(u.take (u.length - 1)).toArray⟩ : Str).length < (⟨u.toArray⟩ : Str).length
        rw [wlen, wlen, List.length_take]
        omega
      · refine ite_f rfl ?_
        refine ⟨ln (n := 2) rfl (by decide), _, _, .same, q u v ⟨⟨pv, .inr ?_⟩, sv⟩ lu (by omega)⟩
        rw [cyc_lt (by omega)]
        exact of_decide_eq_false e2
    · have hu : u = [] := by simpa using e
      refine ite_f rfl ?_
      refine ite_f rfl ?_
      exact ⟨ln (n := 2) rfl (by decide), _, _, .same, q u v ⟨⟨pv, .inl hu⟩, sv⟩ lu (by omega)⟩
theorem dok_b {j : Int} (h : 0 < j) (h' : j < 2 ^ 100) : Dok j := dok_of (n := 100) (by omega) (by omega) (by decide)
def c__law_pick : Ct := fun ds M Ψ _ => ∃ (p : Addr) (n : Int), ds = [.ref p, .int n] ∧ HandAt M p ∧ 0 < n ∧ n < 2 ^ 100 ∧ ∀ k M', 0 ≤ k → k < n → Dr p M M' → Ψ (.int k) M'
theorem ok__law_pick {f : Addr} {fd : FuncData} {dvs : List V} {kws : List (Str × V)} (T : Txt K mg)  (F : FnZ K "_law_pick" "_law_pick" s__law_pick dvs kws f fd) : FnOk P w K mg base (L2.CX P w) 2 f fd ["_law_hand_here", "_law_many"] (spC K (["_law_hand_here", "_law_many"] : List Str).length (c__law_pick)) := by
  have hnd := sc__law_pick.nd
  refine fnD F sc__law_pick (c__law_pick) fun cdv A outer s H E B Ξ hr z => ⟨_, (dss_cons (ds_if (dt_lt (de_ix (de_var (i := 0)) de_int) de_int) (dss_cons (ds_setix (de_add (de_ix (de_var (i := 0)) de_int) de_int) (de_var (i := 0)) de_int)
    (dss_cons (ds_set (i := 2) hnd (de_add (de_ix (de_var (i := 0)) de_int) (de_mul (de_ix (de_var (i := 0)) de_int) de_int)))
    (dss_cons (ds_if (dt_le (de_ix (de_var (i := 0)) de_int) (de_len T.n_len (da_cons (de_ix (de_var (i := 0)) de_int) da_nil))) (dss_one (ds_set (i := 2) hnd (de_ix (de_ix (de_var (i := 0)) de_int) (de_sub (de_ix (de_var (i := 0)) de_int) de_int)))) dss_nil)
    (dss_cons (ds_if (dw_or (dt_gt (de_ix (de_var (i := 0)) de_int) (de_len T.n_len (da_cons (de_ix (de_var (i := 0)) de_int) da_nil))) (dw_or1 (dt_lt (de_var (i := 2)) (de_pow de_int de_int)))).pt (dss_cons (ds_set (i := 3) hnd (de_fmod (de_int1 T.n_int (da_cons (de_add (de_add (de_mul (de_var (i := 2)) de_int) (de_mul (de_ix (de_var (i := 0)) de_int) de_int)) (de_ix (de_var (i := 0)) de_int)) da_nil)) de_int))
    (dss_cons (ds_set (i := 4) hnd (de_fmod (de_int1 T.n_int (da_cons (de_add (de_mul (de_var (i := 3)) (de_var (i := 3))) (de_mul (de_ix (de_var (i := 0)) de_int) de_int)) da_nil)) de_int))
    (dss_one (ds_ret (de_fmod (de_fdiv (de_fmod (de_int1 T.n_int (da_cons (de_add (de_mul (de_var (i := 4)) de_int) (de_var (i := 3))) da_nil)) de_int) de_int) (de_var (i := 1))))))) dss_nil)
    (dss_one (ds_setix (de_var (i := 2)) (de_var (i := 0)) de_int)))))) dss_nil)
    (dss_cons (ds_set (i := 5) hnd (de_fmod (de_int1 T.n_int (da_cons (de_ix (de_var (i := 0)) de_int) da_nil)) (de_var (i := 1))))
    (dss_cons (ds_setix (de_fdiv (de_int1 T.n_int (da_cons (de_ix (de_var (i := 0)) de_int) da_nil)) (de_var (i := 1))) (de_var (i := 0)) de_int)
    (dss_one (ds_ret (de_var (i := 5))))))), fun ds Ψ hl hc => ?_⟩
  obtain ⟨p, n, rfl, ⟨h, e0, hcl, hi⟩, n0, n1, q⟩ := hc
  have nz : n ≠ 0 := by omega
  refine ix_ref e0 ?_
  refine bl_c (fun _ => ?_) (fun _ => ?_)
  rotate_left
  · refine ix_ref e0 ?_
    refine ⟨nz, ?_⟩
    refine ix_ref e0 ?_
    refine ⟨dok_b n0 n1, ?_⟩
    refine set_ref e0 rfl ?_
    exact ⟨_, _, .same, q _ _ (fm0 n0) (fm1 n0) ⟨handAt_of updM_same hcl hi, fun b hb => updM_ne hb⟩⟩
  refine ix_ref e0 ?_
  refine set_gen e0 rfl fun M1 e1 f1 => ?_
  have e1 : M1 p = some (hd ⟨h.cs, h.i + 1, h.r, h.m⟩) := e1
  have hi1 : 0 ≤ h.i + 1 := by omega
  refine ix_ref e1 ?_
  refine ix_ref e1 ?_
  refine ⟨IntMulOk.of_right (by decide), ?_⟩
  refine ix_ref e1 ?_
  refine ix_ref e1 ?_
  refine bl_c (fun h1 => ?_) (fun h1 => ?_)
  · refine ix_ref e1 ?_
    refine ix_ref e1 ?_
    have h1' : h.i + 1 ≤ ((h.cs.map D.int).length : Int) := of_decide_eq_true h1
    obtain ⟨d, hd, hm⟩ := at_some (xs := h.cs.map D.int) (i := h.i + 1 - 1) (by omega) (by omega)
    obtain ⟨c, _, rfl⟩ := List.mem_map.mp hm
    refine optK_of (d := .int (h.i + 1)) rfl ?_
    refine optK_of hd ?_
    refine ix_ref e1 ?_
    refine ix_ref e1 ?_
    refine bl_c (fun h2 => ?_) (fun h2 => ?_)
    rotate_left
    · refine ⟨⟨by decide, by decide, by decide⟩, ?_⟩
      refine bl_c (fun h3 => ?_) (fun h3 => ?_)
      rotate_left
      · refine set_ref e1 rfl ?_
        refine ix_ref updM_same ?_
        refine ⟨nz, ?_⟩
        refine ix_ref updM_same ?_
        refine ⟨dok_b n0 n1, ?_⟩
        refine set_ref updM_same rfl ?_
        exact ⟨_, _, .same, q _ _ (fm0 n0) (fm1 n0) ⟨handAt_of updM_same hcl hi1, fun b hb => (updM_ne hb).trans ((updM_ne hb).trans (f1 b hb))⟩⟩
      refine ⟨IntMulOk.of_right (by decide), ?_⟩
      refine ix_ref e1 ?_
      refine ⟨IntMulOk.of_right (by decide), ?_⟩
      refine ix_ref e1 ?_
      refine ⟨by decide, ?_⟩
      refine ⟨mok_s (fm_small (by decide) (by decide)), ?_⟩
      refine ix_ref e1 ?_
      refine ⟨IntMulOk.of_right (by decide), ?_⟩
      refine ⟨by decide, ?_⟩
      refine ⟨IntMulOk.of_right (by decide), by decide, dok_s (by decide) (by decide), nz, ?_⟩
      exact ⟨_, _, .same, q _ _ (fm0 n0) (fm1 n0) ⟨handAt_of e1 hcl hi1, f1⟩⟩
    refine ⟨IntMulOk.of_right (by decide), ?_⟩
    refine ix_ref e1 ?_
    refine ⟨IntMulOk.of_right (by decide), ?_⟩
    refine ix_ref e1 ?_
    refine ⟨by decide, ?_⟩
    refine ⟨mok_s (fm_small (by decide) (by decide)), ?_⟩
    refine ix_ref e1 ?_
    refine ⟨IntMulOk.of_right (by decide), ?_⟩
    refine ⟨by decide, ?_⟩
    refine ⟨IntMulOk.of_right (by decide), by decide, dok_s (by decide) (by decide), nz, ?_⟩
    exact ⟨_, _, .same, q _ _ (fm0 n0) (fm1 n0) ⟨handAt_of e1 hcl hi1, f1⟩⟩
  · refine ix_ref e1 ?_
    refine ix_ref e1 ?_
    refine bl_c (fun h2 => ?_) (fun h2 => ?_)
    rotate_left
    · refine ⟨⟨by decide, by decide, by decide⟩, ?_⟩
      refine bl_c (fun h3 => ?_) (fun h3 => ?_)
      rotate_left
      · refine set_ref e1 rfl ?_
        refine ix_ref updM_same ?_
        refine ⟨nz, ?_⟩
        refine ix_ref updM_same ?_
        refine ⟨dok_b n0 n1, ?_⟩
        refine set_ref updM_same rfl ?_
        exact ⟨_, _, .same, q _ _ (fm0 n0) (fm1 n0) ⟨handAt_of updM_same hcl hi1, fun b hb => (updM_ne hb).trans ((updM_ne hb).trans (f1 b hb))⟩⟩
      refine ⟨IntMulOk.of_right (by decide), ?_⟩
      refine ix_ref e1 ?_
      refine ⟨IntMulOk.of_right (by decide), ?_⟩
      refine ix_ref e1 ?_
      refine ⟨by decide, ?_⟩
      refine ⟨mok_s (fm_small (by decide) (by decide)), ?_⟩
      refine ix_ref e1 ?_
      refine ⟨IntMulOk.of_right (by decide), ?_⟩
      refine ⟨by decide, ?_⟩
      refine ⟨IntMulOk.of_right (by decide), by decide, dok_s (by decide) (by decide), nz, ?_⟩
      exact ⟨_, _, .same, q _ _ (fm0 n0) (fm1 n0) ⟨handAt_of e1 hcl hi1, f1⟩⟩
    refine ⟨IntMulOk.of_right (by decide), ?_⟩
    refine ix_ref e1 ?_
    refine ⟨IntMulOk.of_right (by decide), ?_⟩
    refine ix_ref e1 ?_
    refine ⟨by decide, ?_⟩
    refine ⟨mok_s (fm_small (by decide) (by decide)), ?_⟩
    refine ix_ref e1 ?_
    refine ⟨IntMulOk.of_right (by decide), ?_⟩
    refine ⟨by decide, ?_⟩
    refine ⟨IntMulOk.of_right (by decide), by decide, dok_s (by decide) (by decide), nz, ?_⟩
    exact ⟨_, _, .same, q _ _ (fm0 n0) (fm1 n0) ⟨handAt_of e1 hcl hi1, f1⟩⟩
def c__law_of : Ct := fun ds M Ψ _ => ∃ (p : Addr) (x : D) (l : List D), ds = [.ref p, x] ∧ HandAt M p ∧ itm x = some l ∧ 0 < l.length ∧ l.length ≤ 1000000 ∧ ∀ d M', d ∈ l → Dr p M M' → Ψ d M'
theorem ok__law_of {f : Addr} {fd : FuncData} {dvs : List V} {kws : List (Str × V)} (T : Txt K mg) (h__law_pick : Gf P w K mg base "_law_pick" 2 (c__law_pick) b__law_pick) (F : FnZ K "_law_of" "_law_of" s__law_of dvs kws f fd) : FnOk P w K mg base (L2.CX P w) 3 f fd ["_law_hand_here", "_law_items"] (spC K (["_law_hand_here", "_law_items"] : List Str).length (c__law_of)) := by
  have hnd := sc__law_of.nd
  refine fnD F sc__law_of (c__law_of) fun cdv A outer s H E B Ξ hr z => ⟨_, (dss_one (ds_ret (de_ix (de_var (i := 1)) (de_call h__law_pick hr z (List.Mem.head _) (da_cons (de_var (i := 0)) (da_cons (de_len T.n_len (da_cons (de_var (i := 1)) da_nil)) da_nil)))))), fun ds Ψ hl hc => ?_⟩
  obtain ⟨p, x, l, rfl, hh, hx, l0, l1, q⟩ := hc
  cases x with
  | str x =>
    cases hx
    rw [signs_len] at l0 l1
    have hz : x.length ≤ sizeLine := Nat.le_trans l1 big_ok
    refine ⟨hz, rfl, rfl, p, _, rfl, hh, (show (0 : Int) < (x.cps.size : Int) by omega), (show (x.cps.size : Int) < 2 ^ 100 by omega), fun k M' k0 k1 dr => ⟨hz, ?_⟩⟩
    obtain ⟨c, hc, hm⟩ := at_some (xs := x.cps.toList) k0 (by rw [Array.length_toList]; exact k1)
    exact optK_of hc ⟨_, _, .same, q _ _ (List.mem_map.mpr ⟨c, hm, rfl⟩) dr⟩
  | tup l =>
    cases hx
    refine ⟨rfl, rfl, p, _, rfl, hh, by omega, by omega, fun k M' k0 k1 dr => ?_⟩
    obtain ⟨c, hc, hm⟩ := at_some k0 k1
    exact optK_of hc ⟨_, _, .same, q _ _ hm dr⟩
  | lst l =>
    cases hx
    refine ⟨rfl, rfl, p, _, rfl, hh, by omega, by omega, fun k M' k0 k1 dr => ?_⟩
    obtain ⟨c, hc, hm⟩ := at_some k0 k1
    exact optK_of hc ⟨_, _, .same, q _ _ hm dr⟩
  | _ => cases hx
def c__law_word : Ct := fun ds M Ψ _ => ∃ (p : Addr) (n : Int), ds = [.ref p, .int n] ∧ HandAt M p ∧ 0 ≤ n ∧ n ≤ 100000 ∧ ∀ w M', LR w → (w.length : Int) ≤ n → Dr p M M' → Ψ (.str ⟨w.toArray⟩) M'
theorem ok__law_word {f : Addr} {fd : FuncData} {dvs : List V} {kws : List (Str × V)} (T : Txt K mg) (h__law_pick : Gf P w K mg base "_law_pick" 2 (c__law_pick) b__law_pick) (h__law_of : Gf P w K mg base "_law_of" 3 (c__law_of) b__law_of) (F : FnZ K "_law_word" "_law_word" s__law_word dvs kws f fd) : FnOk P w K mg base (L2.CX P w) 4 f fd ["_law_hand_here", "_law_peak"] (spC K (["_law_hand_here", "_law_peak"] : List Str).length (c__law_word)) := by
  have hnd := sc__law_word.nd
  refine fnD F sc__law_word (c__law_word) fun cdv A outer s H E B Ξ hr z => ⟨_, (dss_one (ds_ret (de_join de_str (de_lc rfl hnd (di_range1 T.n_range (da_cons (de_call h__law_pick hr z (List.Mem.head _) (da_cons (de_var (i := 0)) (da_cons (de_add (de_var (i := 1)) de_int) da_nil))) da_nil)) (blkOk_by (own := [("_law_k", 2)]) (by rfl)) (tg_name (i := 2) (by decide)) (fun _ _ _ _ _ => (pg_name (i := 2) hnd rfl (by first | exact Or.inl rfl | exact Or.inr rfl) (by first | exact .inl rfl | exact .inr rfl))) (fun _ _ _ _ _ _ => dts_nil) (fun _ _ _ _ _ _ => (de_call h__law_of hr zx_blk (List.Mem.head _) (da_cons (de_var (i := 0)) (da_cons de_str da_nil)))))))), fun ds Ψ hl hc => ?_⟩
  obtain ⟨p, n, rfl, hh, n0, n1, q⟩ := hc
  refine ⟨trivial, ?_⟩
  refine compD_of (fun xs S M1 => ∃ k : Int, 0 ≤ k ∧ k ≤ n ∧ xs = rngD 0 k.toNat ∧ S = (fun _ => True) ∧ Dr p B.M M1) (fun K h => ?_) (fun xs S M1 ⟨k, k0, k1, e1, e2, dr⟩ => ?_)
  · exact ⟨rfl, rfl, p, _, rfl, hh, by omega, by omega, fun k M' k0 k1 dr => ⟨⟨by omega, by omega⟩, h _ _ _ ⟨k, k0, by omega, rfl, rfl, dr⟩⟩⟩
  subst e1 e2
  refine comp_st (Dr p B.M) (fun _ y => ∃ c : Nat, (c = 76 ∨ c = 82) ∧ y = .str ⟨#[c]⟩) dr (fun _ _ => trivial) (by rw [rng_len]; exact Nat.le_trans (by omega) big_ok) (fun d hd M' I Q hQ => ?_) (fun acc M' I hl hy => ?_)
  · refine ⟨rfl, rfl, p, _, _, rfl, I.1, rfl, by decide, by decide, fun d M4 hd dr' => hQ _ _ (I.trans dr') ?_⟩
    obtain ⟨c, hc, rfl⟩ := signs_mem hd
    exact ⟨c, lr_mem.mp hc, rfl⟩
  · have hall : ∀ y ∈ acc, ∃ c : Nat, (c = 76 ∨ c = 82) ∧ y = .str ⟨#[c]⟩ := fun y hm => by
      obtain ⟨i, hi, e⟩ := List.getElem_of_mem hm
      have hi2 : i < (rngD 0 k.toNat).length := hl ▸ hi
      exact hy i _ y (List.getElem?_eq_getElem hi2) (by rw [List.getElem?_eq_getElem hi, e])
    obtain ⟨w, hw, rfl⟩ := chars_of hall
    rw [rng_len, List.length_map] at hl
    refine ⟨_, w.map fun c => (⟨#[c]⟩ : Str), .inl rfl, strsD_chars w, ?_, ?_⟩
    · rw [chars_sum, List.length_map]
      show _ + _ * 0 ≤ _
      omega
    · refine ⟨_, _, .same, ?_⟩
      show Ψ (.str (Txt.join Str.empty _)) M'
      rw [join_chars]
      exact q w M' hw (by omega) I
def RtL (y : List Nat) : Prop := y ≠ [76] ∧ y ≠ [82]
theorem rtl_of {a l x y : List Nat} (nf : NfR a l x y) (h1 : 76 ∈ l) (h2 : 82 ∈ l) : RtL y := by
  have key : ∀ c, c ∈ l → ∃ j, x.length ≤ j ∧ a.length ≤ j ∧ sq a l j = c := fun c hc => by
    obtain ⟨i, hi, e⟩ := List.getElem_of_mem hc
    refine ⟨a.length + (i + l.length * x.length), ?_, by omega, ?_⟩
    · have : x.length ≤ l.length * x.length := Nat.le_mul_of_pos_left _ (by omega)
      omega
    · rw [sq_ge]
      unfold cyc
      rw [Nat.add_mul_mod_self_left, Nat.mod_eq_of_lt hi, List.getD_eq_getElem?_getD, List.getElem?_eq_getElem hi]
      exact e
  have one : ∀ c, y = [c] → ∀ j, x.length ≤ j → sq a l j = c := fun c e j hj => by
    rw [← nf.sq j, show j = x.length + (j - x.length) by omega, sq_ge, e]
    unfold cyc
    rw [show (j - x.length) % [c].length = 0 from Nat.mod_one _]
    rfl
  refine ⟨fun e => ?_, fun e => ?_⟩
  · obtain ⟨j, k1, k2, k3⟩ := key 82 h2
    have := (one 76 e j k1).symm.trans k3
    omega
  · obtain ⟨j, k1, k2, k3⟩ := key 76 h1
    have := (one 82 e j k1).symm.trans k3
    omega
def c__law_root_line : Ct := fun ds M Ψ _ => ∃ (p : Addr) (n : Nat), ds = [.ref p, .int n] ∧ HandAt M p ∧ 1 ≤ n ∧ n ≤ 1000 ∧ ∀ x y M', LR x → LR y → NR x y → x.length ≤ n → y.length ≤ n + 2 → RtL y → Dr p M M' → Ψ (.tup [.str ⟨x.toArray⟩, .str ⟨y.toArray⟩]) M'
theorem ok__law_root_line {f : Addr} {fd : FuncData} {dvs : List V} {kws : List (Str × V)} (T : Txt K mg) (h__law_normal : Gf P w K mg base "_law_normal" 2 (c__law_normal) b__law_normal) (h__law_word : Gf P w K mg base "_law_word" 4 (c__law_word) b__law_word) (h__law_of : Gf P w K mg base "_law_of" 3 (c__law_of) b__law_of) (F : FnZ K "_law_root_line" "_law_root_line" s__law_root_line dvs kws f fd) : FnOk P w K mg base (L2.CX P w) 5 f fd ["_law_hand_here", "_law_peak"] (spC K (["_law_hand_here", "_law_peak"] : List Str).length (c__law_root_line)) := by
  have hnd := sc__law_root_line.nd
  refine fnD F sc__law_root_line (c__law_root_line) fun cdv A outer s H E B Ξ hr z => ⟨_, (dss_one (ds_ret (de_call h__law_normal hr z (List.Mem.head _) (da_cons (de_call h__law_word hr z (List.Mem.head _) (da_cons (de_var (i := 0)) (da_cons (de_var (i := 1)) da_nil))) (da_cons (de_add (de_call h__law_of hr z (List.Mem.head _) (da_cons (de_var (i := 0)) (da_cons (de_lst (da_cons de_str (da_cons de_str da_nil))) da_nil))) (de_call h__law_word hr z (List.Mem.head _) (da_cons (de_var (i := 0)) (da_cons (de_var (i := 1)) da_nil)))) da_nil))))), fun ds Ψ hl hc => ?_⟩
  obtain ⟨p, n, rfl, hh, n0, n1, q⟩ := hc
  rw [show ent (["_law_hand_here", "_law_peak"] : List Str).length [D.ref p, .int n] = [some (.ref p), some (.int n)] from rfl]
  try dsimp only [List.set, getS_z, getS_s, bin2, bin2T, ltD, leD, gtD, geD, cmp_i, add_i, sub_i, min2_i, max2_i]
  have eA : ("RL" : Str) = ⟨[82, 76].toArray⟩ := by decide +kernel
  have eB : ("LR" : Str) = ⟨[76, 82].toArray⟩ := by decide +kernel
  rw [eA, eB]
  have lA : LR [82, 76] := fun c hc => by simp only [List.mem_cons, List.not_mem_nil, or_false] at hc; rcases hc with rfl | rfl <;> simp
  have lB : LR [76, 82] := fun c hc => by simp only [List.mem_cons, List.not_mem_nil, or_false] at hc; rcases hc with rfl | rfl <;> simp
  refine ⟨rfl, rfl, p, n, rfl, hh, by omega, by omega, fun a M1 la sa d1 => ?_⟩
  refine ⟨ln (n := 2) rfl (by decide), ?_⟩
  refine ⟨rfl, rfl, p, _, _, rfl, d1.1, rfl, (show 0 < 2 by decide), (show 2 ≤ 1000000 by decide), fun z M2 hz d2 => ?_⟩
  have d2 := d1.trans d2
  refine ⟨rfl, rfl, p, n, rfl, d2.1, by omega, by omega, fun w M3 lw sw d3 => ?_⟩
  have d3 := d2.trans d3
  have hz : ∃ l : List Nat, z = .str ⟨l.toArray⟩ ∧ LR l ∧ l.length = 2 ∧ 76 ∈ l ∧ 82 ∈ l := by
    simp only [List.mem_cons, List.not_mem_nil, or_false] at hz
    rcases hz with rfl | rfl
    · exact ⟨_, rfl, lA, rfl, by simp, by simp⟩
    · exact ⟨_, rfl, lB, rfl, by simp, by simp⟩
  obtain ⟨l, rfl, ll, sl, h76, h82⟩ := hz
  refine add_w (by omega) (by omega) ?_
  have nl : l ++ w ≠ [] := fun e => by
    have := congrArg List.length e
    rw [List.length_append, List.length_nil] at this
    omega
  have sl2 : (l ++ w).length ≤ n + 2 := by rw [List.length_append]; omega
  refine ⟨rfl, rfl, a, l ++ w, rfl, nl, by omega, by omega, fun x y nf hx hy => ?_⟩
  have lr := nf.lr la (ll.app lw) (List.length_pos_iff.mpr nl)
  exact ⟨_, _, .same, q x y _ lr.1 lr.2 nf.nr (by omega) (by omega) (rtl_of nf (List.mem_append_left _ h76) (List.mem_append_left _ h82)) d3⟩
def c_is_word : Ct := fun ds M Ψ _ => ∃ d t, ds = [d] ∧ tyN M d = some t ∧ (∀ x, d = .str x → x.cps.size ≤ 1000000) ∧ Ψ (.bl (wB d)) M
theorem ok_is_word {f : Addr} {fd : FuncData} {dvs : List V} {kws : List (Str × V)} (T : Txt K mg)  (F : FnZ K "is_word" "is_word" s_is_word dvs kws f fd) : FnOk P w K mg base (L2.CX P w) 2 f fd ["value"] (spC K (["value"] : List Str).length (c_is_word)) := by
  have hnd := sc_is_word.nd
  refine fnD F sc_is_word (c_is_word) fun cdv A outer s H E B Ξ hr z => ⟨_, (dss_one (ds_ret (de_and (de_isi T.n_isinstance (da_cons (de_var (i := 0)) (da_cons (de_ty (n := "str") T.n_str (by decide +kernel)) da_nil))) (de_and1 (de_all1 rfl T.n_all (da_cons (de_lc rfl hnd (di_str (de_var (i := 0))) (blkOk_by (own := [("turn", 1)]) (by rfl)) (tg_name (i := 1) (by decide)) (fun _ _ _ _ _ => (pg_name (i := 1) hnd rfl (by first | exact Or.inl rfl | exact Or.inr rfl) (by first | exact .inl rfl | exact .inr rfl))) (fun _ _ _ _ _ _ => dts_nil) (fun _ _ _ _ _ _ => (de_in hr (de_var (i := 1)) (de_gstr T.k_TURNS)))) da_nil)))))), fun ds Ψ hl hc => ?_⟩
  obtain ⟨d, t, rfl, ht, hz, q⟩ := hc
  refine ⟨by decide, t, ht, ?_⟩
  by_cases e : t = "str"
  · subst e
    obtain ⟨x, rfl⟩ := ty_str ht
    refine bl_t (by rfl) ?_
    refine compD_map (xs := Z.signs x) (fun K h => h) (fun d => match d with | .str z => .bl (decide ((z.cps.toList.headD 0) ∈ ("LR" : Str).cps.toList)) | _ => .non) trivial (by rw [signs_len]; exact Nat.le_trans (hz x rfl) big_ok) (fun d hd Q q => ?_) ?_
    · obtain ⟨c, _, rfl⟩ := signs_mem hd
      exact ⟨c, rfl, q⟩
    · refine ⟨x.cps.toList.map fun c => decide (c ∈ ("LR" : Str).cps.toList), ?_, _, _, .same, ?_⟩
      · show some _ = some _
        unfold Z.signs
        rw [List.map_map, List.map_map]
        rfl
      · rw [List.all_map]
        exact q
  · have e0 : isB t "str" = false := by
      have h7 := tyN_ok ht
      simp only [okTy, List.mem_cons, List.not_mem_nil, or_false] at h7
      rcases h7 with rfl | rfl | rfl | rfl | rfl | rfl | rfl
      all_goals first
        | rfl
        | exact absurd rfl e
    refine bl_f e0 ?_
    refine ⟨_, _, .same, ?_⟩
    have e2 : wB d = false := by
      cases d <;> first | rfl | (cases ht; exact absurd rfl e)
    rw [e2] at q
    exact q
def c_check_word (CW : Addr) : Ct := fun ds M Ψ Ξ => ∃ d t, ds = [d] ∧ tyN M d = some t ∧ (∀ x, d = .str x → x.cps.size ≤ 1000000) ∧ (wB d = true → Ψ .non M) ∧ (wB d = false → Ξ (CW, [("given", d), ("tag", .str "InvalidWord")]) M)
theorem ok_check_word {f : Addr} {fd : FuncData} {dvs : List V} {kws : List (Str × V)} (T : Txt K mg) (h_is_word : Gf P w K mg base "is_word" 2 (c_is_word) b_is_word) (x_InvalidWord : Xf P w K mg base "InvalidWord" (He.ga K "InvalidWord") 1 (tag2 "InvalidWord" "given")) (F : FnZ K "check_word" "check_word" s_check_word dvs kws f fd) : FnOk P w K mg base (L2.CX P w) 3 f fd ["value"] (spC K (["value"] : List Str).length (c_check_word (He.ga K "InvalidWord"))) := by
  have hnd := sc_check_word.nd
  refine fnD F sc_check_word (c_check_word (He.ga K "InvalidWord")) fun cdv A outer s H E B Ξ hr z => ⟨_, (dss_one (ds_if (dt_not (dt_val (de_call h_is_word hr z (List.Mem.head _) (da_cons (de_var (i := 0)) da_nil)))) (dss_one (ds_raise1 x_InvalidWord hr z rfl (da_cons (de_var (i := 0)) da_nil))) dss_nil)), fun ds Ψ hl hc => ?_⟩
  obtain ⟨d, t, rfl, ht, hz, q1, q2⟩ := hc
  refine ⟨rfl, rfl, d, t, rfl, ht, hz, ?_⟩
  refine bl_c (fun e => ?_) (fun e => ?_)
  · exact ⟨_, _, .same, q1 e⟩
  · exact ⟨_, .same, q2 e⟩
def c_least_ring : Ct := fun ds M Ψ _ => ∃ r : List Nat, ds = [.str ⟨r.toArray⟩] ∧ r ≠ [] ∧ r.length ≤ 20000 ∧ ∀ l, PrimR l → (∀ i, cyc l i = cyc r i) → l.length ≤ r.length → Ψ (.str ⟨l.toArray⟩) M
theorem ok_least_ring {f : Addr} {fd : FuncData} {dvs : List V} {kws : List (Str × V)} (T : Txt K mg)  (F : FnZ K "least_ring" "least_ring" s_least_ring dvs kws f fd) : FnOk P w K mg base (L2.CX P w) 2 f fd ["ring"] (spC K (["ring"] : List Str).length (c_least_ring)) := by
  have hnd := sc_least_ring.nd
  refine fnD F sc_least_ring (c_least_ring) fun cdv A outer s H E B Ξ hr z => ⟨_, (dss_one (ds_ret (de_slice (de_var (i := 0)) do_none (do_some (de_find3 (de_add (de_var (i := 0)) (de_var (i := 0))) (da_cons (de_var (i := 0)) (da_cons de_int da_nil))))))), fun ds Ψ hl hc => ?_⟩
  obtain ⟨r, rfl, hr, hl, q⟩ := hc
  obtain ⟨k, k0, k1, e, hp, hcy⟩ := least_find hr
  rw [show ent (["ring"] : List Str).length [D.str ⟨r.toArray⟩] = [some (D.str ⟨r.toArray⟩)] from rfl]
  try dsimp only [List.set, getS_z, getS_s, bin2, bin2T, ltD, leD, gtD, geD, cmp_i, add_i, sub_i, min2_i, max2_i]
  refine ⟨sz2 (n := 20000) (m := 20000) (by rw [wlen]; exact hl) (by rw [wlen]; exact hl) (by decide), trivial, ?_⟩
  rw [wapp]
  try dsimp only [List.set, getS_z, getS_s, bin2, bin2T, ltD, leD, gtD, geD, cmp_i, add_i, sub_i, min2_i, max2_i]
  show slD B.M (.str ⟨r.toArray⟩) none (some (Txt.find3 ⟨(r ++ r).toArray⟩ ⟨r.toArray⟩ 1)) fun d => rtF B.M Ψ d B.M
  rw [e]
  refine ⟨Nat.le_trans (Nat.le_trans (by rw [wlen]; exact hl) (show 20000 ≤ 1000000 by decide)) big_ok, ?_⟩
  rw [cut_take]
  exact ⟨_, _, .same, q _ hp hcy (by rw [List.length_take]; omega)⟩
def c_Rowd_initd (C CW CI : Addr) : Ct := fun ds M Ψ Ξ => (∃ p, ∃ a r : List Nat, ds = [.ref p, .str ⟨a.toArray⟩, .str ⟨r.toArray⟩] ∧ M p = some (.ins C []) ∧ LR a ∧ LR r ∧ r ≠ [] ∧ a.length ≤ 20000 ∧ r.length ≤ 20000 ∧ ∀ x y, NfR a r x y → x.length ≤ a.length → y.length ≤ r.length → Ψ .non (updM M p (.ins C [("whole", .tup [.str ⟨x.toArray⟩, .str ⟨y.toArray⟩])]))) ∨
  ∃ p d e td te, ds = [.ref p, d, e] ∧ tyN M d = some td ∧ tyN M e = some te ∧ (∀ x, d = .str x → x.cps.size ≤ 1000000) ∧ (∀ x, e = .str x → x.cps.size ≤ 1000000) ∧ (wB d = false → Ξ (CW, [("given", d), ("tag", .str "InvalidWord")]) M) ∧ (wB d = true → (wB e = false ∨ e = .str "") ∧ Ξ (CI, [("given", e), ("tag", .str "InvalidRing")]) M)
theorem mk_row {C CW CI : Addr} {a r : List Nat} {e : En} {M : Sto} {Ψ : PD} {Ξ : XD → En → Sto → Prop} (h : NR a r) (la : LR a) (lr : LR r) (sa : a.length ≤ 20000) (sr : r.length ≤ 20000) (q : Ψ (row C a r) M) : mkD 2 0 (fun ds _ => ds) C (c_Rowd_initd C CW CI) Ξ [.str ⟨a.toArray⟩, .str ⟨r.toArray⟩] [] e M Ψ := by
  refine ⟨rfl, rfl, fun p hp => .inl ⟨p, a, r, rfl, updM_same, la, lr, h.prim.1, sa, sr, fun x y nf _ _ => ?_⟩⟩
  obtain ⟨e1, e2⟩ := nr_uniq nf.nr h nf.sq
  subst e1 e2
  exact ⟨rfl, _, updM_updM, q⟩
theorem mk_rowN {C CW CI : Addr} {a r : List Nat} {e : En} {M : Sto} {Ψ : PD} {Ξ : XD → En → Sto → Prop} (la : LR a) (lr : LR r) (hr : r ≠ []) (sa : a.length ≤ 20000) (sr : r.length ≤ 20000) (q : ∀ x y, NfR a r x y → x.length ≤ a.length → y.length ≤ r.length → Ψ (row C x y) M) : mkD 2 0 (fun ds _ => ds) C (c_Rowd_initd C CW CI) Ξ [.str ⟨a.toArray⟩, .str ⟨r.toArray⟩] [] e M Ψ :=
  ⟨rfl, rfl, fun p hp => .inl ⟨p, a, r, rfl, updM_same, la, lr, hr, sa, sr, fun x y nf h1 h2 => ⟨rfl, _, updM_updM, q x y nf h1 h2⟩⟩⟩
theorem ok_Rowd_initd {f : Addr} {fd : FuncData} {dvs : List V} {kws : List (Str × V)} (T : Txt K mg) (h_check_word : Gf P w K mg base "check_word" 3 (c_check_word (He.ga K "InvalidWord")) b_check_word) (h_is_word : Gf P w K mg base "is_word" 2 (c_is_word) b_is_word) (h_least_ring : Gf P w K mg base "least_ring" 2 (c_least_ring) b_least_ring) (x_InvalidRing : Xf P w K mg base "InvalidRing" (He.ga K "InvalidRing") 1 (tag2 "InvalidRing" "given")) (F : FnZ K "__init__" "Row.__init__" s_Rowd_initd dvs kws f fd) : FnOk P w K mg base (L2.CX P w) 4 f fd ["self", "lead", "ring"] (spC K (["self", "lead", "ring"] : List Str).length (c_Rowd_initd (He.ga K "Row") (He.ga K "InvalidWord") (He.ga K "InvalidRing"))) := by
  have hnd := sc_Rowd_initd.nd
  refine fnD F sc_Rowd_initd (c_Rowd_initd (He.ga K "Row") (He.ga K "InvalidWord") (He.ga K "InvalidRing")) fun cdv A outer s H E B Ξ hr z => ⟨_, (dss_cons (ds_expr (de_call h_check_word hr z (List.Mem.head _) (da_cons (de_var (i := 1)) da_nil)))
    (dss_cons (ds_if (dw_or (dt_not (dt_val (de_call h_is_word hr z (List.Mem.head _) (da_cons (de_var (i := 2)) da_nil)))) (dw_or1 (dt_eq hr (de_var (i := 2)) de_str))).pt (dss_one (ds_raise1 x_InvalidRing hr z rfl (da_cons (de_var (i := 2)) da_nil))) dss_nil)
    (dss_cons (ds_par (i := 3) (j := 4) rfl hnd (da_cons (de_call h_least_ring hr z (List.Mem.head _) (da_cons (de_var (i := 2)) da_nil)) (da_cons de_int da_nil)))
    (dss_cons (ds_while z.po (dw_and (dt_lt (de_var (i := 4)) (de_len T.n_len (da_cons (de_var (i := 1)) da_nil))) (dw_and1 (dt_eq hr (de_ix (de_var (i := 1)) (de_sub (de_neg de_int) (de_var (i := 4)))) (de_ix (de_var (i := 3)) (de_sub (de_neg de_int) (de_fmod (de_var (i := 4)) (de_len T.n_len (da_cons (de_var (i := 3)) da_nil)))))))).pt (dss_one (ds_iadd (i := 4) hnd de_int)))
    (dss_cons (ds_set (i := 5) hnd (de_sub (de_len T.n_len (da_cons (de_var (i := 3)) da_nil)) (de_fmod (de_var (i := 4)) (de_len T.n_len (da_cons (de_var (i := 3)) da_nil)))))
    (dss_one (ds_fld T.cl_Row T.na_Row_whole (de_tup (da_cons (de_slice (de_var (i := 1)) do_none (do_some (de_sub (de_len T.n_len (da_cons (de_var (i := 1)) da_nil)) (de_var (i := 4))))) (da_cons (de_add (de_slice (de_var (i := 3)) (do_some (de_var (i := 5))) do_none) (de_slice (de_var (i := 3)) do_none (do_some (de_var (i := 5))))) da_nil))) (de_var (i := 0))))))))), fun ds Ψ hl hc => ?_⟩
  rcases hc with hc | ⟨p, d, e, td, te, rfl, hd, he, zd, ze, q1, q2⟩
  rotate_left
  · rw [show ent (["self", "lead", "ring", "least", "same", "cut"] : List Str).length [D.ref p, d, e] = [some (D.ref p), some d, some e, none, none, none] from rfl]
    try dsimp only [List.set, getS_z, getS_s, bin2, bin2T, ltD, leD, gtD, geD, cmp_i, add_i, sub_i, min2_i, max2_i]
    refine ⟨rfl, rfl, d, td, rfl, hd, zd, fun wd => ?_, fun wd => ⟨_, .same, q1 wd⟩⟩
    obtain ⟨hb, q2⟩ := q2 wd
    refine ⟨rfl, rfl, e, te, rfl, he, ze, ?_⟩
    rcases hb with hb | rfl
    · rw [hb]
      refine bl_f rfl ?_
      refine ite_t rfl ?_
      exact ⟨_, .same, q2⟩
    · refine bl_t rfl ?_
      refine ite_f rfl ?_
      refine eqS ?_
      refine bl_t (decide_eq_true rfl) ?_
      refine ite_t rfl ?_
      exact ⟨_, .same, q2⟩
  obtain ⟨p, a, r, rfl, hp, la, lr, hr, sa, sr, q⟩ := hc
  rw [show ent (["self", "lead", "ring", "least", "same", "cut"] : List Str).length [D.ref p, .str ⟨a.toArray⟩, .str ⟨r.toArray⟩] = [some (D.ref p), some (.str ⟨a.toArray⟩), some (.str ⟨r.toArray⟩), none, none, none] from rfl]
  try dsimp only [List.set, getS_z, getS_s, bin2, bin2T, ltD, leD, gtD, geD, cmp_i, add_i, sub_i, min2_i, max2_i]
  have wa : ∀ {u : List Nat}, LR u → wB (.str ⟨u.toArray⟩) = true := fun h => wB_LR h
  have sz : ∀ {u : List Nat}, u.length ≤ 20000 → (⟨u.toArray⟩ : Str).length ≤ sizeLine := fun h => sz_le (n := 20000) (by rw [wlen]; exact h) (by decide)
  have tz : ∀ {u : List Nat}, u.length ≤ 20000 → (∀ x, D.str ⟨u.toArray⟩ = .str x → x.cps.size ≤ 1000000) := fun h x e => by cases e; exact Nat.le_trans (by rw [List.size_toArray]; exact h) (by decide)
  refine ⟨rfl, rfl, _, _, rfl, rfl, tz sa, fun _ => ?_, fun z => by rw [wa la] at z; cases z⟩
  refine ⟨rfl, rfl, _, _, rfl, rfl, tz sr, ?_⟩
  rw [wa lr]
  refine bl_t rfl ?_
  refine ite_f rfl ?_
  refine eqS ?_
  refine bl_f (decide_eq_false fun z => hr (weq.mp z)) ?_
  refine ite_f rfl ?_
  refine ⟨rfl, rfl, r, rfl, hr, sr, fun l pl cl sl => ?_⟩
  have l0 := pl.pos
  try dsimp only [List.set, getS_z, getS_s, bin2, bin2T, ltD, leD, gtD, geD, cmp_i, add_i, sub_i, min2_i, max2_i]
  refine ⟨fun e M' => M' = B.M ∧ ∃ j : Nat, e = [some (D.ref p), some (.str ⟨a.toArray⟩), some (.str ⟨r.toArray⟩), some (.str ⟨l.toArray⟩), some (.int j), none] ∧ j ≤ a.length ∧ ∀ u, u < j → a.getD (a.length - 1 - u) 0 = l.getD (l.length - 1 - u % l.length) 0, fun e _ => a.length - slotN e 4, .of ⟨rfl, 0, rfl, Nat.zero_le _, fun u hu => absurd hu (Nat.not_lt_zero u)⟩, fun e M' he => ?_⟩
  obtain ⟨rfl, j, rfl, hj, hm⟩ := he
  try dsimp only [List.set, getS_z, getS_s, bin2, bin2T, ltD, leD, gtD, geD, cmp_i, add_i, sub_i, min2_i, max2_i]
  have bA : a.length ≤ 400000 := by omega
  have bL : l.length ≤ 400000 := by omega
  refine len_w bA ?_
  have fin : (j = a.length ∨ a.getD (a.length - 1 - j) 0 ≠ l.getD (l.length - 1 - j % l.length) 0) → lenD B.M [D.str ⟨l.toArray⟩] fun x M1 => lenD M1 [D.str ⟨l.toArray⟩] fun y M2 => fmodD M2 (D.int j) y fun z => subD M2 x z fun z => lenD M2 [D.str ⟨a.toArray⟩] fun x M1 => subD M1 x (D.int j) fun z_4 => inK z_4 fun i => slD M1 (D.str ⟨a.toArray⟩) none (some i) fun d => inK z fun i => slD M1 (D.str ⟨l.toArray⟩) (some i) none fun d_1 => inK z fun i => slD M1 (D.str ⟨l.toArray⟩) none (some i) fun d_2 => addD M1 d_1 d_2 fun z => [d, z].length ≤ sizeLine ∧ match M1 p with
      | some (Cell.ins C' fs) => C' = He.ga K "Row" ∧ fs.length < 1000 ∧ rtF B.M Ψ D.non (updM M1 p (Cell.ins (He.ga K "Row") (putD "whole" (D.tup [d, z]) fs)))
      | _ => False := fun he => by
    have nf := (row_nf pl hj hm he).ring cl
    have hjm : j % l.length < l.length := Nat.mod_lt _ l0
    refine len_w bL (len_w bL (fmod_n l0 (sub_n (by omega) (len_w bA (sub_n hj ?_)))))
    refine inKI (sl_take bA ?_)
    refine inKI (sl_drop bL ?_)
    refine inKI (sl_take bL ?_)
    refine add_w (by rw [List.length_drop]; omega) (by rw [List.length_take]; omega) ?_
    refine ⟨ln (n := 2) rfl (by decide), ?_⟩
    rw [hp]
    refine ⟨rfl, by decide, _, _, .same, q _ _ nf (by rw [List.length_take]; omega) (by rw [← show rotL (l.length - j % l.length) l = List.drop (l.length - j % l.length) l ++ List.take (l.length - j % l.length) l from rfl, rotL_len (by omega)]; exact sl)⟩
  refine bl_c (fun e => ?_) (fun e => ?_)
  · refine ite_t rfl ?_
    have e := of_decide_eq_true e
    have ej : j < a.length := by omega
    refine ix_neg bA ej (len_w bL (fmod_n l0 (subI (ix_neg bL (Nat.mod_lt _ l0) (eq_c ?_)))))
    refine bl_c (fun e2 => ?_) (fun e2 => ?_)
    · refine ite_t rfl ?_
      have e2 := of_decide_eq_true e2
      refine .of ⟨⟨rfl, j + 1, rfl, ej, fun u hu => ?_⟩, ?_⟩
      · rcases Nat.lt_or_ge u j with z | z
        · exact hm u z
        · have : u = j := by omega
          rw [this]; exact e2
      · show a.length - (j + 1) < a.length - j
        omega
    · refine ite_f rfl ?_
      exact fin (.inr (of_decide_eq_false e2))
  · refine ite_f rfl ?_
    refine ite_f rfl ?_
    have e := of_decide_eq_false e
    exact fin (.inl (by omega))
def c__law_row (C : Addr) : Ct := fun ds M Ψ _ => ∃ (x y : List Nat), ds = [.tup [.str ⟨x.toArray⟩, .str ⟨y.toArray⟩]] ∧ NR x y ∧ LR x ∧ LR y ∧ x.length ≤ 20000 ∧ y.length ≤ 20000 ∧ Ψ (row C x y) M
theorem ok__law_row {f : Addr} {fd : FuncData} {dvs : List V} {kws : List (Str × V)} (T : Txt K mg) (c_Row : Cf P w K mg base "Row" (He.ga K "Row") 4 (c_Rowd_initd (He.ga K "Row") (He.ga K "InvalidWord") (He.ga K "InvalidRing")) b_Rowd_initd) (F : FnZ K "_law_row" "_law_row" s__law_row dvs kws f fd) : FnOk P w K mg base (L2.CX P w) 6 f fd ["_law_phrase"] (spC K (["_law_phrase"] : List Str).length (c__law_row (He.ga K "Row"))) := by
  have hnd := sc__law_row.nd
  refine fnD F sc__law_row (c__law_row (He.ga K "Row")) fun cdv A outer s H E B Ξ hr z => ⟨_, (dss_one (ds_ret (de_make c_Row hr z (List.Mem.head _) (da_cons (de_ix (de_var (i := 0)) de_int) (da_cons (de_ix (de_var (i := 0)) de_int) da_nil))))), fun ds Ψ hl hc => ?_⟩
  obtain ⟨x, y, rfl, hn, lx, ly, sx, sy, q⟩ := hc
  refine ⟨rfl, rfl, fun p hp => .inl ⟨p, x, y, rfl, updM_same, lx, ly, hn.prim.1, sx, sy, fun x' y' nf _ _ => ?_⟩⟩
  obtain ⟨e1, e2⟩ := nr_uniq nf.nr hn nf.sq
  subst e1 e2
  exact ⟨rfl, _, updM_updM, _, _, .same, q⟩
def c_Row_ring (C : Addr) : Ct := fun ds M Ψ _ => ∃ (x y : List Nat), ds = [row C x y] ∧ Ψ (.str ⟨y.toArray⟩) M
theorem ok_Row_ring {f : Addr} {fd : FuncData} {dvs : List V} {kws : List (Str × V)} (T : Txt K mg)  (F : FnZ K "ring" "Row.ring" s_Row_ring dvs kws f fd) : FnOk P w K mg base (L2.CX P w) 2 f fd ["self"] (spC K (["self"] : List Str).length (c_Row_ring (He.ga K "Row"))) := by
  have hnd := sc_Row_ring.nd
  refine fnD F sc_Row_ring (c_Row_ring (He.ga K "Row")) fun cdv A outer s H E B Ξ hr z => ⟨_, (dss_one (ds_ret (de_ix (de_fld T.cl_Row T.na_Row_whole (de_var (i := 0))) de_int))), fun ds Ψ hl hc => ?_⟩
  obtain ⟨x, y, rfl, q⟩ := hc
  exact ⟨rfl, fld_hd ⟨_, _, .same, q⟩⟩
/-- a row that tells a fraction, with its bounds -/
structure FrR (x : List Nat) (c : Nat) : Prop where
  nr : NR x [c]
  lx : LR x
  kc : c = 76 ∨ c = 82
  sx : x.length ≤ 6
theorem nf_z (t b : Int) : (nf t b 0).2.2 = 0 := by
  unfold nf
  have : Sq 0 := sq_0
  simp [this]
theorem FrR.p0 {x : List Nat} {c : Nat} (h : FrR x c) {p : T3} (e : numR x [c] = some p) : p.2.2 = 0 := by
  rw [num_col h.kc] at e
  unfold nv at e
  split at e
  · cases e
  · cases e; exact nf_z _ _
theorem FrR.lr {x : List Nat} {c : Nat} (h : FrR x c) : LR [c] := fun z hz => by simp only [List.mem_singleton] at hz; rw [hz]; exact h.kc
theorem FrR.ib {x : List Nat} {c : Nat} (h : FrR x c) {p : T3} (e : numR x [c] = some p) : Ib3 200 p := num_ib h.sx (by show 1 ≤ 8; decide) h.nr h.lr e
def isRt (y : List Nat) : Bool := decide (y ≠ [76] ∧ y ≠ [82])
theorem nin_LR {M : Sto} {y : List Nat} {φ : D → Prop} (ly : LR y) (h : φ (.bl (isRt y))) : ninD M (.str ⟨y.toArray⟩) (.tup [.str "L", .str "R"]) φ := by
  have eL : ("L" : Str) = ⟨[76].toArray⟩ := by decide +kernel
  have eR : ("R" : Str) = ⟨[82].toArray⟩ := by decide +kernel
  refine inS (M := M) (t := (⟨y.toArray⟩ : Str)) (φ := fun d => match d with | .bl b => φ (.bl (!b)) | _ => False) ["L", "R"] ?_
  show φ (.bl (!decide ((⟨y.toArray⟩ : Str) ∈ (["L", "R"] : List Str))))
  have e : (!decide ((⟨y.toArray⟩ : Str) ∈ (["L", "R"] : List Str))) = isRt y := by
    have inj : ∀ {s t : List Nat}, (⟨s.toArray⟩ : Str) = ⟨t.toArray⟩ ↔ s = t := fun {s t} => ⟨fun z => by simpa using congrArg (fun x : Str => x.cps.toList) z, fun z => by rw [z]⟩
    unfold isRt
    rw [← decide_not]
    refine decide_eq_decide.mpr ?_
    rw [eL, eR]
    simp only [List.mem_cons, List.not_mem_nil, or_false, inj, not_or, ne_eq]
  rw [e]
  exact h
theorem ne_bb {M : Sto} {a b : Bool} {φ : D → Prop} (h : φ (.bl (a != b))) : neD M (.bl a) (.bl b) φ := by
  unfold neD
  show φ (.bl (!decide (a = b)))
  rw [show (!decide (a = b)) = (a != b) by cases a <;> cases b <;> rfl]
  exact h
def c_is_root (CR : Addr) : Ct := fun ds M Ψ _ => ∃ x y, ds = [row CR x y] ∧ LR y ∧ Ψ (.bl (isRt y)) M
theorem ok_is_root {f : Addr} {fd : FuncData} {dvs : List V} {kws : List (Str × V)} (T : Txt K mg) (h_Row_ring : Pf P w K mg base (He.ga K "Row") "ring" 2 (c_Row_ring (He.ga K "Row"))) (F : FnZ K "is_root" "is_root" s_is_root dvs kws f fd) : FnOk P w K mg base (L2.CX P w) 4 f fd ["row"] (spC K (["row"] : List Str).length (c_is_root (He.ga K "Row"))) := by
  have hnd := sc_is_root.nd
  refine fnD F sc_is_root (c_is_root (He.ga K "Row")) fun cdv A outer s H E B Ξ hr z => ⟨_, (dss_one (ds_ret (de_nin hr (de_prop h_Row_ring T.cl_Row hr (de_var (i := 0))) (de_tup (da_cons de_str (da_cons de_str da_nil)))))), fun ds Ψ hl hc => ?_⟩
  obtain ⟨x, y, rfl, ly, q⟩ := hc
  rw [show ent (["row"] : List Str).length [row (He.ga K "Row") x y] = [some (row (He.ga K "Row") x y)] from rfl]
  try dsimp only [List.set, getS_z, getS_s, bin2, bin2T, ltD, leD, gtD, geD, cmp_i, add_i, sub_i, min2_i, max2_i]
  refine ⟨rfl, _, _, rfl, ?_⟩
  refine ⟨ln (n := 2) rfl (by decide), ?_⟩
  refine nin_LR ly ?_
  exact ⟨_, _, .same, q⟩
def c_is_square : Ct := fun _ _ _ _ => False
theorem ok_is_square {f : Addr} {fd : FuncData} {dvs : List V} {kws : List (Str × V)} (T : Txt K mg) (F : FnZ K "is_square" "is_square" s_is_square dvs kws f fd) : FnOk P w K mg base (L2.CX P w) 2 f fd ["number"] (spC K (["number"] : List Str).length (c_is_square)) := fn_no fun _ _ _ _ h => h
def c_Table_entries (C : Addr) : Ct := fun ds M Ψ _ => ∃ t, ds = [tab C t] ∧ Ψ (tD t) M
theorem ok_Table_entries {f : Addr} {fd : FuncData} {dvs : List V} {kws : List (Str × V)} (T : Txt K mg)  (F : FnZ K "entries" "Table.entries" s_Table_entries dvs kws f fd) : FnOk P w K mg base (L2.CX P w) 2 f fd ["self"] (spC K (["self"] : List Str).length (c_Table_entries (He.ga K "Table"))) := by
  have hnd := sc_Table_entries.nd
  refine fnD F sc_Table_entries (c_Table_entries (He.ga K "Table")) fun cdv A outer s H E B Ξ hr z => ⟨_, (dss_one (ds_ret (de_fld T.cl_Table T.na_Table_whole (de_var (i := 0))))), fun ds Ψ hl hc => ?_⟩
  obtain ⟨t, rfl, q⟩ := hc
  exact ⟨rfl, fld_hd ⟨_, _, .same, q⟩⟩
def c_is_integer : Ct := fun ds M Ψ _ => ∃ d t, ds = [d] ∧ tyN M d = some t ∧ Ψ (.bl (isIn M d)) M
theorem ok_is_integer {f : Addr} {fd : FuncData} {dvs : List V} {kws : List (Str × V)} (T : Txt K mg)  (F : FnZ K "is_integer" "is_integer" s_is_integer dvs kws f fd) : FnOk P w K mg base (L2.CX P w) 2 f fd ["value"] (spC K (["value"] : List Str).length (c_is_integer)) := by
  have hnd := sc_is_integer.nd
  refine fnD F sc_is_integer (c_is_integer) fun cdv A outer s H E B Ξ hr z => ⟨_, (dss_one (ds_ret (de_and (de_isi T.n_isinstance (da_cons (de_var (i := 0)) (da_cons (de_ty (n := "int") T.n_int (by decide +kernel)) da_nil))) (de_and1 (de_not (de_isi T.n_isinstance (da_cons (de_var (i := 0)) (da_cons (de_ty (n := "bool") T.n_bool (by decide +kernel)) da_nil)))))))), fun ds Ψ hl hc => ?_⟩
  obtain ⟨d, t, rfl, ht, q⟩ := hc
  refine ⟨by decide, t, ht, ?_⟩
  unfold isIn at q
  rw [ht] at q
  have h7 := tyN_ok ht
  simp only [okTy, List.mem_cons, List.not_mem_nil, or_false] at h7
  rcases h7 with rfl | rfl | rfl | rfl | rfl | rfl | rfl
  all_goals first
    | exact bl_f rfl ⟨_, _, .same, q⟩
    | exact bl_t rfl ⟨by decide, _, ht, bl_t rfl ⟨_, _, .same, q⟩⟩
    | exact bl_t rfl ⟨by decide, _, ht, bl_f rfl ⟨_, _, .same, q⟩⟩
def c_root_floor : Ct := fun ds M Ψ _ => ∃ u : Int, ds = [.int u] ∧ 0 ≤ u ∧ Ib 3000 u ∧ Ψ (.int (rtI u)) M
theorem ok_root_floor {f : Addr} {fd : FuncData} {dvs : List V} {kws : List (Str × V)} (T : Txt K mg)  (F : FnZ K "root_floor" "root_floor" s_root_floor dvs kws f fd) : FnOk P w K mg base (L2.CX P w) 2 f fd ["number"] (spC K (["number"] : List Str).length (c_root_floor)) := by
  have hnd := sc_root_floor.nd
  refine fnD F sc_root_floor (c_root_floor) fun cdv A outer s H E B Ξ hr z => ⟨_, (dss_cons (ds_asg (de_tup (da_cons de_int (da_cons de_int da_nil))) (dg_tup (n := 2) rfl (dgs_cons (dg_name (i := 1) hnd) (dgs_cons (dg_name (i := 2) hnd) dgs_nil))))
    (dss_cons (ds_while z.po (dt_le (de_mul (de_var (i := 2)) (de_var (i := 2))) (de_var (i := 0))) (dss_one (ds_set (i := 2) hnd (de_mul (de_var (i := 2)) de_int))))
    (dss_cons (ds_while z.po (dt_gt (de_sub (de_var (i := 2)) (de_var (i := 1))) de_int) (dss_cons (ds_set (i := 3) hnd (de_fdiv (de_add (de_var (i := 1)) (de_var (i := 2))) de_int))
    (dss_one (ds_if (dt_le (de_mul (de_var (i := 3)) (de_var (i := 3))) (de_var (i := 0))) (dss_one (ds_set (i := 1) hnd (de_var (i := 3)))) (dss_one (ds_set (i := 2) hnd (de_var (i := 3))))))))
    (dss_one (ds_ret (de_var (i := 1))))))), fun ds Ψ hl hc => ?_⟩
  obtain ⟨u, rfl, h0, hu, q⟩ := hc
  refine ⟨ln (n := 2) rfl (by decide), rfl, rfl, ?_⟩
  try dsimp only [List.set, getS_z, getS_s, bin2, bin2T, ltD, leD, gtD, geD, cmp_i, add_i, sub_i, min2_i, max2_i]
  refine ⟨fun r M' => M' = B.M ∧ ∃ h : Int, 0 < h ∧ h ≤ 2 * u + 1 ∧ r = [some (.int u), some (.int 0), some (.int h), none], fun r _ => 2 * u.natAbs + 2 - slotN r 2, .of ⟨rfl, 1, by decide, by omega, rfl⟩, fun r M' h => ?_⟩
  obtain ⟨rfl, h, h1, h2, rfl⟩ := h
  have hb := hu.dbl (Int.le_of_lt h1) h2
  refine ⟨hb.mok hb (by decide) (by decide), ?_⟩
  refine bl_c (fun e => ?_) (fun e => ?_)
  · have e := of_decide_eq_true e
    have k : h ≤ u := by
      have := Int.mul_le_mul_of_nonneg_left (show 1 ≤ h by omega) (Int.le_of_lt h1)
      omega
    refine ite_t rfl ?_
    try dsimp only [List.set, getS_z, getS_s, bin2, bin2T, ltD, leD, gtD, geD, cmp_i, add_i, sub_i, min2_i, max2_i]
    refine ⟨IntMulOk.of_right (by decide), ?_⟩
    try dsimp only [List.set, getS_z, getS_s, bin2, bin2T, ltD, leD, gtD, geD, cmp_i, add_i, sub_i, min2_i, max2_i]
    refine .of ⟨⟨rfl, h * 2, by omega, by omega, rfl⟩, ?_⟩
    show 2 * u.natAbs + 2 - (h * 2).natAbs < 2 * u.natAbs + 2 - h.natAbs
    omega
  have e := of_decide_eq_false e
  refine ite_f rfl ?_
  refine ⟨fun r M' => M' = B.M ∧ ∃ (l h : Int) (o : Option D), 0 ≤ l ∧ l < h ∧ h ≤ 2 * u + 1 ∧ l * l ≤ u ∧ u < h * h ∧ r = [some (.int u), some (.int l), some (.int h), o], fun r _ => slotN r 2 - slotN r 1, .of ⟨rfl, 0, h, none, Int.le_refl _, h1, h2, h0, by omega, rfl⟩, fun r M' h => ?_⟩
  obtain ⟨rfl, l, h, o, l0, lh, hh, q1, q2, rfl⟩ := h
  refine bl_c (fun e => ?_) (fun e => ?_)
  · have e := of_decide_eq_true e
    refine ite_t rfl ?_
    try dsimp only [List.set, getS_z, getS_s, bin2, bin2T, ltD, leD, gtD, geD, cmp_i, add_i, sub_i, min2_i, max2_i]
    refine ⟨dok_s (by decide) (by decide), ?_⟩
    try dsimp only [List.set, getS_z, getS_s, bin2, bin2T, ltD, leD, gtD, geD, cmp_i, add_i, sub_i, min2_i, max2_i]
    have m1 : l < (l + h).fdiv 2 ∧ (l + h).fdiv 2 < h := by rw [Int.fdiv_eq_ediv_of_nonneg _ (by decide)]; omega
    generalize (l + h).fdiv 2 = m at m1 ⊢
    have mb := hu.dbl (x := m) (by omega) (by omega)
    refine ⟨mb.mok mb (by decide) (by decide), ?_⟩
    refine bl_c (fun e => ?_) (fun e => ?_)
    · have e := of_decide_eq_true e
      refine ite_t rfl ?_
      try dsimp only [List.set, getS_z, getS_s, bin2, bin2T, ltD, leD, gtD, geD, cmp_i, add_i, sub_i, min2_i, max2_i]
      refine .of ⟨⟨rfl, m, h, _, by omega, by omega, hh, e, q2, rfl⟩, ?_⟩
      show h.natAbs - m.natAbs < h.natAbs - l.natAbs
      omega
    · have e := of_decide_eq_false e
      refine ite_f rfl ?_
      try dsimp only [List.set, getS_z, getS_s, bin2, bin2T, ltD, leD, gtD, geD, cmp_i, add_i, sub_i, min2_i, max2_i]
      refine .of ⟨⟨rfl, l, m, _, by omega, by omega, by omega, q1, by omega, rfl⟩, ?_⟩
      show m.natAbs - l.natAbs < h.natAbs - l.natAbs
      omega
  have e := of_decide_eq_false e
  refine ite_f rfl ?_
  have : l = rtI u := rtI_uniq l0 q1 (by rw [show l + 1 = h by omega]; exact q2)
  refine ⟨_, _, .same, ?_⟩
  rw [← this] at q
  exact q
def c_divisor_of : Ct := fun ds M Ψ _ => ∃ ns : List Int, ds = [.tup (ns.map .int)] ∧ Ψ (.int (gN ns)) M
theorem ok_divisor_of {f : Addr} {fd : FuncData} {dvs : List V} {kws : List (Str × V)} (T : Txt K mg)  (F : FnZ K "divisor_of" "divisor_of" s_divisor_of dvs kws f fd) : FnOk P w K mg base (L2.CX P w) 2 f fd ["numbers"] (spC K (["numbers"] : List Str).length (c_divisor_of)) := by
  have hnd := sc_divisor_of.nd
  refine fnD F sc_divisor_of (c_divisor_of) fun cdv A outer s H E B Ξ hr z => ⟨_, (dss_cons (ds_set (i := 1) hnd de_int)
    (dss_cons (ds_for z.po rfl (di_tup (de_var (i := 0))) (dg_name (i := 2) hnd) (dss_cons (ds_par (i := 3) (j := 4) rfl hnd (da_cons (de_var (i := 1)) (da_cons (de_abs1 T.n_abs (da_cons (de_var (i := 2)) da_nil)) da_nil)))
    (dss_cons (ds_while z.po (dt_ne hr (de_var (i := 4)) de_int) (dss_one (ds_par (i := 3) (j := 4) rfl hnd (da_cons (de_var (i := 4)) (da_cons (de_fmod (de_var (i := 3)) (de_var (i := 4))) da_nil)))))
    (dss_one (ds_set (i := 1) hnd (de_var (i := 3)))))))
    (dss_one (ds_ret (de_var (i := 1)))))), fun ds Ψ hl hc => ?_⟩
  obtain ⟨ns, rfl, q⟩ := hc
  refine forD_n (xs := ns.map .int) (S := fun _ => True) (fun K h => ⟨_, rfl, h⟩) (fun i r M' => M' = B.M ∧ ∃ o2 o3 o4, r = [some (.tup (ns.map .int)), some (.int (gN (ns.take i))), o2, o3, o4]) ⟨rfl, none, none, none, rfl⟩ (fun _ _ _ _ => trivial) (fun i d r M' hd h => ?_) (fun r M' h => ?_)
  · obtain ⟨rfl, o2, o3, o4, rfl⟩ := h
    obtain ⟨x, hx, rfl⟩ := map_get hd
    refine ⟨fun r M' => M' = B.M ∧ ∃ a b : Nat, Nat.gcd a b = Nat.gcd (gN (ns.take i)) x.natAbs ∧ r = [some (.tup (ns.map .int)), some (.int (gN (ns.take i))), some (.int x), some (.int a), some (.int b)], fun r _ => slotN r 4, .of ⟨rfl, _, _, rfl, by rw [abs_nat]; rfl⟩, fun r M' h => ?_⟩
    obtain ⟨rfl, a, b, e, rfl⟩ := h
    refine neI ?_
    refine bl_c (fun e2 => ?_) (fun e2 => ?_)
    · have hb : b ≠ 0 := by simpa using e2
      refine ⟨by omega, .of ⟨⟨rfl, b, a % b, by rw [gcd_step]; exact e, by rw [fmod_nat]; rfl⟩, ?_⟩⟩
      show (((a : Int).fmod b)).natAbs < (b : Int).natAbs
      rw [fmod_nat]
      have := Nat.mod_lt a (Nat.pos_of_ne_zero hb)
      omega
    · have hb : b = 0 := by simpa using e2
      subst hb
      exact .of ⟨rfl, some (.int x), some (.int a), some (.int 0), by rw [gN_take hx, ← e, Nat.gcd_zero_right]; rfl⟩
  · obtain ⟨rfl, o2, o3, o4, rfl⟩ := h
    refine ⟨_, _, .same, ?_⟩
    rw [List.length_map, List.take_length]
    exact q
def c_sign_of : Ct := fun ds M Ψ _ => ∃ b k : Int, ds = [.int b] ∧ (k = s3 b ∨ (b ≠ 0 ∧ k = sgI b)) ∧ Ψ (.int k) M
theorem ok_sign_of {f : Addr} {fd : FuncData} {dvs : List V} {kws : List (Str × V)} (T : Txt K mg)  (F : FnZ K "sign_of" "sign_of" s_sign_of dvs kws f fd) : FnOk P w K mg base (L2.CX P w) 2 f fd ["number"] (spC K (["number"] : List Str).length (c_sign_of)) := by
  have hnd := sc_sign_of.nd
  refine fnD F sc_sign_of (c_sign_of) fun cdv A outer s H E B Ξ hr z => ⟨_, (dss_one (ds_ret (de_sub (de_int1 T.n_int (da_cons (de_gt (de_var (i := 0)) de_int) da_nil)) (de_int1 T.n_int (da_cons (de_lt (de_var (i := 0)) de_int) da_nil))))), fun ds Ψ hl hc => ?_⟩
  obtain ⟨b, k, rfl, hk, q⟩ := hc
  have e : ((if decide (0 < b) = true then 1 else 0) - (if decide (b < 0) = true then 1 else 0) : Int) = s3 b := by
    rcases s3_cs b with ⟨h, e⟩ | ⟨h, e⟩ | ⟨h, e⟩ <;> rw [e]
    · rw [decide_eq_true h, decide_eq_false (show ¬ b < 0 by omega)]; rfl
    · subst h; rfl
    · rw [decide_eq_false (show ¬ 0 < b by omega), decide_eq_true h]; rfl
  have e2 : k = s3 b := by
    rcases hk with h | ⟨h0, h⟩
    · exact h
    · rw [h]
      unfold sgI
      rcases s3_cs b with ⟨h, e⟩ | ⟨h, e⟩ | ⟨h, e⟩ <;> rw [e]
      · rw [if_pos h]
      · exact absurd h h0
      · rw [if_neg (by omega)]
  show rtF B.M Ψ (.int ((if decide (0 < b) = true then 1 else 0) - (if decide (b < 0) = true then 1 else 0))) B.M
  rw [e, ← e2]
  exact ⟨_, _, .same, q⟩
theorem no_f {f : Str} {d : D} (h : (f == ("whole" : Str)) = false := by decide +kernel) : List.lookup f [(("whole" : Str), d)] = none := look_ne h
def num (C : Addr) (p : T3) : D := .obj C [("whole", .tup (tL3 p))]
def c_Numberd_initd (C CI : Addr) : Ct := fun ds M Ψ _ => ∃ p t b u, ds = [.ref p, .int t, .int b, .int u] ∧ M p = some (.ins C []) ∧ b ≠ 0 ∧ 0 ≤ u ∧ Ib 1000 t ∧ Ib 1000 b ∧ Ib 1000 u ∧ Ψ .non (updM M p (.ins C [("whole", .tup (tL3 (nf t b u)))]))
theorem mk_num {C CI : Addr} {t b u : Int} {n m : Nat} {g : List D → List D → List D} {ds dz : List D} {r : En} {M : Sto} {Ψ : PD} {Ξ : XD → En → Sto → Prop} (hl : ds.length = n) (hm : dz.length = m) (hg : ∀ p, g (.ref p :: ds) dz = [.ref p, .int t, .int b, .int u]) (hb : b ≠ 0) (hu : 0 ≤ u) (k1 : Ib 1000 t) (k2 : Ib 1000 b) (k3 : Ib 1000 u) (q : Ψ (num C (nf t b u)) M) : mkD n m g C (c_Numberd_initd C CI) Ξ ds dz r M Ψ :=
  ⟨hl, hm, fun p hp => ⟨p, t, b, u, hg p, updM_same, hb, hu, k1, k2, k3, rfl, _, updM_updM, q⟩⟩
theorem mk_num2 {C CI : Addr} {t b u : Int} {r : En} {M : Sto} {Ψ : PD} {Ξ : XD → En → Sto → Prop} (hb : b ≠ 0) (hu : 0 ≤ u) (k1 : Ib 1000 t) (k2 : Ib 1000 b) (k3 : Ib 1000 u) (q : Ψ (num C (nf t b u)) M) : mkD 2 1 (fun ds dz => gS [.p 0, .p 1, .p 2, .k 0] ds [.int 1] dz) C (c_Numberd_initd C CI) Ξ [.int t, .int b] [.int u] r M Ψ := mk_num rfl rfl (fun _ => rfl) hb hu k1 k2 k3 q
theorem mk_num0 {C CI : Addr} {t b u : Int} {r : En} {M : Sto} {Ψ : PD} {Ξ : XD → En → Sto → Prop} (hb : b ≠ 0) (hu : 0 ≤ u) (k1 : Ib 1000 t) (k2 : Ib 1000 b) (k3 : Ib 1000 u) (q : Ψ (num C (nf t b u)) M) : mkD 0 3 (fun ds dz => gS [.p 0, .k 1, .k 0, .k 2] ds [.int 1] dz) C (c_Numberd_initd C CI) Ξ [] [.int b, .int t, .int u] r M Ψ := mk_num rfl rfl (fun _ => rfl) hb hu k1 k2 k3 q
theorem mk_num3 {C CI : Addr} {t b : Int} {r : En} {M : Sto} {Ψ : PD} {Ξ : XD → En → Sto → Prop} (hb : b ≠ 0) (k1 : Ib 1000 t) (k2 : Ib 1000 b) (q : Ψ (num C (nf t b 0)) M) : mkD 2 0 (fun ds dz => gS [.p 0, .p 1, .p 2, .d 1] ds [.int 1, .int 0] dz) C (c_Numberd_initd C CI) Ξ [.int t, .int b] [] r M Ψ := mk_num rfl rfl (fun _ => rfl) hb (by decide) k1 k2 (Ib.c (i := 0) 1000) q
theorem mk_num1 {C CI : Addr} {t : Int} {r : En} {M : Sto} {Ψ : PD} {Ξ : XD → En → Sto → Prop} (k1 : Ib 1000 t) (q : Ψ (num C (nf t 1 0)) M) : mkD 1 0 (fun ds dz => gS [.p 0, .p 1, .d 0, .d 1] ds [.int 1, .int 0] dz) C (c_Numberd_initd C CI) Ξ [.int t] [] r M Ψ := mk_num rfl rfl (fun _ => rfl) (by decide) (by decide) k1 (Ib.c (i := 1) 1000) (Ib.c (i := 0) 1000) q
theorem ok_Numberd_initd {f : Addr} {fd : FuncData} {dvs : List V} {kws : List (Str × V)} (T : Txt K mg) (h_is_integer : Gf P w K mg base "is_integer" 2 (c_is_integer) b_is_integer) (h_root_floor : Gf P w K mg base "root_floor" 2 (c_root_floor) b_root_floor) (h_divisor_of : Gf P w K mg base "divisor_of" 2 (c_divisor_of) b_divisor_of) (h_sign_of : Gf P w K mg base "sign_of" 2 (c_sign_of) b_sign_of) (x_InvalidNumber : Xf P w K mg base "InvalidNumber" (He.ga K "InvalidNumber") 0 (tag1 "InvalidNumber")) (F : FnZ K "__init__" "Number.__init__" s_Numberd_initd dvs kws f fd) : FnOk P w K mg base (L2.CX P w) 3 f fd ["self", "top", "bottom", "under"] (spC K (["self", "top", "bottom", "under"] : List Str).length (c_Numberd_initd (He.ga K "Number") (He.ga K "InvalidNumber"))) := by
  have hnd := sc_Numberd_initd.nd
  refine fnD F sc_Numberd_initd (c_Numberd_initd (He.ga K "Number") (He.ga K "InvalidNumber")) fun cdv A outer s H E B Ξ hr z => ⟨_, (dss_cons (ds_if (dw_or (dt_not (dt_val (de_all1 rfl T.n_all (da_cons (de_lc rfl hnd (di_tup (de_tup (da_cons (de_var (i := 1)) (da_cons (de_var (i := 2)) (da_cons (de_var (i := 3)) da_nil))))) (blkOk_by (own := [("part", 9)]) (by rfl)) (tg_name (i := 9) (by decide)) (fun _ _ _ _ _ => (pg_name (i := 9) hnd rfl (by first | exact Or.inl rfl | exact Or.inr rfl) (by first | exact .inl rfl | exact .inr rfl))) (fun _ _ _ _ _ _ => dts_nil) (fun _ _ _ _ _ _ => (de_call h_is_integer hr zx_blk (List.Mem.head _) (da_cons (de_var (i := 9)) da_nil)))) da_nil)))) (dw_or (dt_eq hr (de_var (i := 2)) de_int) (dw_or1 (dt_lt (de_var (i := 3)) de_int)))).pt (dss_one (ds_raise0 x_InvalidNumber hr z rfl)) dss_nil)
    (dss_cons (ds_set (i := 4) hnd (de_call h_root_floor hr z (List.Mem.head _) (da_cons (de_var (i := 3)) da_nil)))
    (dss_one (ds_if (dt_eq hr (de_mul (de_var (i := 4)) (de_var (i := 4))) (de_var (i := 3))) (dss_cons (ds_set (i := 5) hnd (de_mul (de_call h_divisor_of hr z (List.Mem.head _) (da_cons (de_tup (da_cons (de_add (de_var (i := 1)) (de_var (i := 4))) (da_cons (de_var (i := 2)) da_nil))) da_nil)) (de_call h_sign_of hr z (List.Mem.head _) (da_cons (de_var (i := 2)) da_nil))))
    (dss_one (ds_fld T.cl_Number T.na_Number_whole (de_tup (da_cons (de_fdiv (de_add (de_var (i := 1)) (de_var (i := 4))) (de_var (i := 5))) (da_cons (de_fdiv (de_var (i := 2)) (de_var (i := 5))) (da_cons de_int da_nil)))) (de_var (i := 0))))) (dss_cons (ds_set (i := 5) hnd (de_mul (de_call h_divisor_of hr z (List.Mem.head _) (da_cons (de_tup (da_cons (de_mul (de_var (i := 2)) (de_var (i := 2))) (da_cons (de_mul (de_mul de_int (de_var (i := 1))) (de_var (i := 2))) (da_cons (de_sub (de_mul (de_var (i := 1)) (de_var (i := 1))) (de_var (i := 3))) da_nil)))) da_nil)) (de_call h_sign_of hr z (List.Mem.head _) (da_cons (de_var (i := 2)) da_nil))))
    (dss_cons (ds_par (i := 6) (j := 7) rfl hnd (da_cons (de_fdiv (de_mul (de_var (i := 2)) (de_var (i := 2))) (de_var (i := 5))) (da_cons (de_fdiv (de_mul (de_mul (de_neg de_int) (de_var (i := 1))) (de_var (i := 2))) (de_var (i := 5))) da_nil)))
    (dss_cons (ds_set (i := 8) hnd (de_fdiv (de_sub (de_mul (de_var (i := 1)) (de_var (i := 1))) (de_var (i := 3))) (de_var (i := 5))))
    (dss_one (ds_fld T.cl_Number T.na_Number_whole (de_tup (da_cons (de_neg (de_var (i := 7))) (da_cons (de_mul de_int (de_var (i := 6))) (da_cons (de_sub (de_mul (de_var (i := 7)) (de_var (i := 7))) (de_mul (de_mul de_int (de_var (i := 6))) (de_var (i := 8)))) da_nil)))) (de_var (i := 0))))))))))), fun ds Ψ hl hc => ?_⟩
  obtain ⟨p, t, b, u, rfl, hp, hb, hu, k1, k2, k3, q⟩ := hc
  refine compD_map (xs := [.int t, .int b, .int u]) (S := fun _ => True) (fun K h => ⟨ln (n := 3) rfl (by decide), _, rfl, h⟩) (fun d => .bl (isIn B.M d)) trivial (ln (n := 3) rfl (by decide)) (fun d hd Q q => ?_) ?_
  · simp only [List.mem_cons, List.not_mem_nil, or_false] at hd
    rcases hd with rfl | rfl | rfl <;> exact ⟨rfl, rfl, _, "int", rfl, rfl, q⟩
  refine ⟨[true, true, true], rfl, ?_⟩
  refine bl_t rfl ?_
  refine ite_f rfl ?_
  refine eqI ?_
  refine bl_f (decide_eq_false hb) ?_
  refine ite_f rfl ?_
  refine bl_f (decide_eq_false (by omega)) ?_
  refine ite_f rfl ?_
  refine ⟨rfl, rfl, u, rfl, hu, k3.mono (by decide), ?_⟩
  try dsimp only [List.set, getS_z, getS_s, bin2, bin2T, ltD, leD, gtD, geD, cmp_i, add_i, sub_i, min2_i, max2_i]
  refine ⟨(k3.rt hu).mok (k3.rt hu) (by decide) (by decide), ?_⟩
  refine eqI ?_
  refine bl_c (fun e => ?_) (fun e => ?_)
  · have hs : Sq u := of_decide_eq_true e
    refine ite_t rfl ?_
    refine ⟨ln (n := 2) rfl (by decide), rfl, rfl, [t + rtI u, b], rfl, ?_⟩
    refine ⟨rfl, rfl, b, _, rfl, .inr ⟨hb, rfl⟩, mok_sg, ?_⟩
    try dsimp only [List.set, getS_z, getS_s, bin2, bin2T, ltD, leD, gtD, geD, cmp_i, add_i, sub_i, min2_i, max2_i]
    obtain ⟨x, y, e1, e2, e3, e4, e5⟩ := nf_frac (t := t) hb hs
    have gd : Dok ((gN [t + rtI u, b] : Int) * sgI b) := (k2.of_l e2 hb).dok e3 (by decide)
    refine ⟨gd, gd, ln (n := 3) rfl (by decide), ?_⟩
    have e6 : nf t b u = ((t + rtI u).fdiv (gF2 t b u), b.fdiv (gF2 t b u), 0) := by unfold nf; rw [if_pos hs]
    rw [e6] at q
    show (match B.M p with | some (.ins C' fs) => _ | _ => False)
    rw [hp]
    exact ⟨rfl, by decide, _, _, .same, q⟩
  · have hs : ¬ Sq u := of_decide_eq_false e
    refine ite_f rfl ?_
    have ib := k2.mul k2
    obtain ⟨f, s', l, e1, e2, e3, e4, e5, e6⟩ := nf_irr (t := t) hb hs
    have ib2 := ((Ib.c (i := 2) 2).mul k1)
    have ib3 := k1.mul k1
    refine ⟨k2.mok k2 (by decide) (by decide), (Ib.c (i := 2) 2).mok k1 (by decide) (by decide), ib2.mok k2 (by decide) (by decide), k1.mok k1 (by decide) (by decide), ?_⟩
    refine ⟨ln (n := 3) rfl (by decide), rfl, rfl, [b * b, 2 * t * b, t * t - u], rfl, ?_⟩
    refine ⟨rfl, rfl, b, _, rfl, .inr ⟨hb, rfl⟩, mok_sg, ?_⟩
    try dsimp only [List.set, getS_z, getS_s, bin2, bin2T, ltD, leD, gtD, geD, cmp_i, add_i, sub_i, min2_i, max2_i]
    have gd : Dok ((gN [b * b, 2 * t * b, t * t - u] : Int) * sgI b) := (ib.of_l e1 (Int.mul_ne_zero hb hb)).dok e4 (by decide)
    have ib4 := ib2.mul k2
    have E1 : Ib 2500 ((b * b).fdiv (gI3 t b u)) := by rw [fdiv_of e4 e1]; exact (ib.of_mul e1 e4).mono (by decide)
    have E2 : Ib 2500 ((-2 * t * b).fdiv (gI3 t b u)) := by rw [fdiv_of e4 e2]; exact (((((Ib.c (i := -2) 2).mul k1).mul k2).of_mul e2 e4)).mono (by decide)
    have E3 : Ib 2500 ((t * t - u).fdiv (gI3 t b u)) := by rw [fdiv_of e4 e3]; exact ((ib3.sub (k3.mono (by decide))).of_mul e3 e4).mono (by decide)
    refine ⟨k2.mok k2 (by decide) (by decide), gd, (Ib.c (i := -2) 2).mok k1 (by decide) (by decide), ((Ib.c (i := -2) 2).mul k1).mok k2 (by decide) (by decide), gd, ?_⟩
    try dsimp only [List.set, getS_z, getS_s, bin2, bin2T, ltD, leD, gtD, geD, cmp_i, add_i, sub_i, min2_i, max2_i]
    refine ⟨k1.mok k1 (by decide) (by decide), gd, ?_⟩
    try dsimp only [List.set, getS_z, getS_s, bin2, bin2T, ltD, leD, gtD, geD, cmp_i, add_i, sub_i, min2_i, max2_i]
    refine ⟨(Ib.c (i := 2) 3).mok E1 (by decide) (by decide), E2.mok E2 (by decide) (by decide), (Ib.c (i := 4) 3).mok E1 (by decide) (by decide), ((Ib.c (i := 4) 3).mul E1).mok E3 (by decide) (by decide), ln (n := 3) rfl (by decide), ?_⟩
    have e7 : nf t b u = (-((-2 * t * b).fdiv (gI3 t b u)), 2 * (b * b).fdiv (gI3 t b u), (-2 * t * b).fdiv (gI3 t b u) * (-2 * t * b).fdiv (gI3 t b u) - 4 * (b * b).fdiv (gI3 t b u) * (t * t - u).fdiv (gI3 t b u)) := by unfold nf; rw [if_neg hs]
    rw [e7] at q
    show (match B.M p with | some (.ins C' fs) => _ | _ => False)
    rw [hp]
    exact ⟨rfl, by decide, _, _, .same, q⟩
theorem smi {n : Nat} {m : T4} (h : Sm n m) : Ib n m.1 ∧ Ib n m.2.1 ∧ Ib n m.2.2.1 ∧ Ib n m.2.2.2 := h
def c_Number_led (C CT : Addr) : Ct := fun ds M Ψ _ => ∃ p m, ds = [num C p, tab CT m] ∧ Ib3 200 p ∧ Sm 24 m ∧ (p.2.2 = 0 → (loL m p ≠ 0 → Ψ (num C (frV m p)) M) ∧ (loL m p = 0 → Ψ .non M)) ∧ (p.2.2 ≠ 0 → Irr p ∧ det4 m ≠ 0 ∧ Ψ (num C (ledV m p)) M)
theorem ok_Number_led {f : Addr} {fd : FuncData} {dvs : List V} {kws : List (Str × V)} (T : Txt K mg) (h_Table_entries : Mf P w K mg base (He.ga K "Table") "entries" 2 (c_Table_entries (He.ga K "Table")) b_Table_entries) (c_Number : Cf P w K mg base "Number" (He.ga K "Number") 3 (c_Numberd_initd (He.ga K "Number") (He.ga K "InvalidNumber")) b_Numberd_initd) (h_sign_of : Gf P w K mg base "sign_of" 2 (c_sign_of) b_sign_of) (F : FnZ K "led" "Number.led" s_Number_led dvs kws f fd) : FnOk P w K mg base (L2.CX P w) 5 f fd ["self", "table"] (spC K (["self", "table"] : List Str).length (c_Number_led (He.ga K "Number") (He.ga K "Table"))) := by
  have hnd := sc_Number_led.nd
  refine fnD F sc_Number_led (c_Number_led (He.ga K "Number") (He.ga K "Table")) fun cdv A outer s H E B Ξ hr z => ⟨_, (dss_cons (ds_asg (de_meth0 h_Table_entries T.cl_Table hr z (List.Mem.head _) (de_var (i := 1))) (dg_tup (n := 4) rfl (dgs_cons (dg_name (i := 2) hnd) (dgs_cons (dg_name (i := 3) hnd) (dgs_cons (dg_name (i := 4) hnd) (dgs_cons (dg_name (i := 5) hnd) dgs_nil))))))
    (dss_cons (ds_asg (de_fld T.cl_Number T.na_Number_whole (de_var (i := 0))) (dg_tup (n := 3) rfl (dgs_cons (dg_name (i := 6) hnd) (dgs_cons (dg_name (i := 7) hnd) (dgs_cons (dg_name (i := 8) hnd) dgs_nil)))))
    (dss_cons (ds_par (i := 9) (j := 10) rfl hnd (da_cons (de_add (de_mul (de_var (i := 2)) (de_var (i := 6))) (de_mul (de_var (i := 3)) (de_var (i := 7)))) (da_cons (de_add (de_mul (de_var (i := 4)) (de_var (i := 6))) (de_mul (de_var (i := 5)) (de_var (i := 7)))) da_nil)))
    (dss_cons (ds_if (dt_eq hr (de_var (i := 8)) de_int) (dss_one (ds_ret (de_if (dt_ne hr (de_var (i := 10)) de_int) (de_make c_Number hr z (List.Mem.tail _ (List.Mem.tail _ (List.Mem.head _))) (da_cons (de_var (i := 9)) (da_cons (de_var (i := 10)) da_nil))) de_non))) dss_nil)
    (dss_cons (ds_par (i := 11) (j := 12) rfl hnd (da_cons (de_sub (de_mul (de_var (i := 2)) (de_var (i := 10))) (de_mul (de_var (i := 9)) (de_var (i := 4)))) (da_cons (de_sub (de_mul (de_var (i := 10)) (de_var (i := 10))) (de_mul (de_mul (de_var (i := 4)) (de_var (i := 4))) (de_var (i := 8)))) da_nil)))
    (dss_cons (ds_set (i := 13) hnd (de_call h_sign_of hr z (List.Mem.head _) (da_cons (de_var (i := 11)) da_nil)))
    (dss_one (ds_ret (de_makeK c_Number hr z (List.Mem.tail _ (List.Mem.head _)) (da_cons (de_mul (de_var (i := 13)) (de_sub (de_mul (de_var (i := 9)) (de_var (i := 10))) (de_mul (de_mul (de_var (i := 2)) (de_var (i := 4))) (de_var (i := 8))))) (da_cons (de_mul (de_var (i := 13)) (de_var (i := 12))) da_nil)) (dk_cons (de_mul (de_mul (de_var (i := 11)) (de_var (i := 11))) (de_var (i := 8))) dk_nil)))))))))), fun ds Ψ hl hc => ?_⟩
  obtain ⟨p, m, rfl, k, hm, q1, q2⟩ := hc
  obtain ⟨a1, a2, a3, a4⟩ := smi hm
  rw [show ent [("self" : Str), "table", "a", "b", "c", "d", "top", "bottom", "under", "upper", "lower", "factor", "rest", "sign"].length [num (He.ga K "Number") p, tab (He.ga K "Table") m] = [some (num (He.ga K "Number") p), some (tab (He.ga K "Table") m), none, none, none, none, none, none, none, none, none, none, none, none] from rfl]
  refine ⟨rfl, no_entries, rfl, rfl, m, rfl, rfl, rfl, ?_⟩
  try dsimp only [List.set, getS_z, getS_s, bin2, bin2T, ltD, leD, gtD, geD, cmp_i, add_i, sub_i, min2_i, max2_i]
  refine ⟨rfl, fld_hd ⟨rfl, rfl, ?_⟩⟩
  try dsimp only [List.set, getS_z, getS_s, bin2, bin2T, ltD, leD, gtD, geD, cmp_i, add_i, sub_i, min2_i, max2_i]
  refine ⟨a1.mok k.a (by decide) (by decide), a2.mok k.b (by decide) (by decide), a3.mok k.a (by decide) (by decide), a4.mok k.b (by decide) (by decide), ?_⟩
  have iu : Ib 225 (upL m p) := (Ib.add (n := 224) (a1.mul k.a) (a2.mul k.b)).mono (by decide)
  have il : Ib 225 (loL m p) := (Ib.add (n := 224) (a3.mul k.a) (a4.mul k.b)).mono (by decide)
  try dsimp only [List.set, getS_z, getS_s, bin2, bin2T, ltD, leD, gtD, geD, cmp_i, add_i, sub_i, min2_i, max2_i]
  refine eqI ?_
  refine bl_c (fun e => ?_) (fun e => ?_)
  · have e := of_decide_eq_true e
    refine ite_t rfl ?_
    refine neI ?_
    refine bl_c (fun e2 => ?_) (fun e2 => ?_)
    · have e2 : loL m p ≠ 0 := by
        have : ¬ m.2.2.1 * p.1 + m.2.2.2 * p.2.1 = 0 := by simpa using e2
        exact this
      have q := (q1 e).1 e2
      exact mk_num3 e2 (iu.mono (by decide)) (il.mono (by decide)) ⟨_, _, .same, q⟩
    · have e2 : loL m p = 0 := by
        have : m.2.2.1 * p.1 + m.2.2.2 * p.2.1 = 0 := by simpa using e2
        exact this
      exact ⟨_, _, .same, (q1 e).2 e2⟩
  · have e := of_decide_eq_false e
    obtain ⟨ir, hd, q⟩ := q2 e
    refine ite_f rfl ?_
    have iF : Ib 260 (faL m p) := ((a1.mul il).sub (n := 249) (iu.mul a3)).mono (by decide)
    have iR : Ib 460 (reL m p) := (Ib.sub (n := 450) (il.mul il) (((a3.mul a3).mul k.c).mono (by decide))).mono (by decide)
    refine ⟨a1.mok il (by decide) (by decide), iu.mok a3 (by decide) (by decide), il.mok il (by decide) (by decide), a3.mok a3 (by decide) (by decide), (a3.mul a3).mok k.c (by decide) (by decide), ?_⟩
    try dsimp only [List.set, getS_z, getS_s, bin2, bin2T, ltD, leD, gtD, geD, cmp_i, add_i, sub_i, min2_i, max2_i]
    refine ⟨rfl, rfl, faL m p, _, rfl, .inl rfl, ?_⟩
    try dsimp only [List.set, getS_z, getS_s, bin2, bin2T, ltD, leD, gtD, geD, cmp_i, add_i, sub_i, min2_i, max2_i]
    refine ⟨iu.mok il (by decide) (by decide), a1.mok a3 (by decide) (by decide), (a1.mul a3).mok k.c (by decide) (by decide), mok_s3, mok_s3, iF.mok iF (by decide) (by decide), (iF.mul iF).mok k.c (by decide) (by decide), ?_⟩
    have hR := ir.led hd
    have s1 : Ib 2 (s3 (faL m p)) := by rcases s3_cs (faL m p) with ⟨_, e⟩ | ⟨_, e⟩ | ⟨_, e⟩ <;> rw [e] <;> (unfold Ib; decide)
    have iP : Ib 460 (upL m p * loL m p - m.1 * m.2.2.1 * p.2.2) := (Ib.sub (n := 450) (iu.mul il) (((a1.mul a3).mul k.c).mono (by decide))).mono (by decide)
    exact mk_num2 hR.ne (Int.le_of_lt hR.pos) ((s1.mul iP).mono (by decide)) ((s1.mul iR).mono (by decide)) (((iF.mul iF).mul k.c).mono (by decide)) ⟨_, _, .same, q⟩
def c_number_led (CN CT : Addr) : Ct := fun ds M Ψ _ => ∃ m, Sm 24 m ∧ ((ds = [.non, tab CT m] ∧ (m.2.2.1 ≠ 0 → Ψ (num CN (nf m.1 m.2.2.1 0)) M) ∧ (m.2.2.1 = 0 → Ψ .non M)) ∨ ∃ p, ds = [num CN p, tab CT m] ∧ Ib3 200 p ∧ (p.2.2 = 0 → (loL m p ≠ 0 → Ψ (num CN (frV m p)) M) ∧ (loL m p = 0 → Ψ .non M)) ∧ (p.2.2 ≠ 0 → Irr p ∧ det4 m ≠ 0 ∧ Ψ (num CN (ledV m p)) M))
theorem ok_number_led {f : Addr} {fd : FuncData} {dvs : List V} {kws : List (Str × V)} (T : Txt K mg) (h_Number_led : Mf P w K mg base (He.ga K "Number") "led" 5 (c_Number_led (He.ga K "Number") (He.ga K "Table")) b_Number_led) (h_Table_entries : Mf P w K mg base (He.ga K "Table") "entries" 2 (c_Table_entries (He.ga K "Table")) b_Table_entries) (c_Number : Cf P w K mg base "Number" (He.ga K "Number") 3 (c_Numberd_initd (He.ga K "Number") (He.ga K "InvalidNumber")) b_Numberd_initd) (F : FnZ K "number_led" "number_led" s_number_led dvs kws f fd) : FnOk P w K mg base (L2.CX P w) 6 f fd ["number", "table"] (spC K (["number", "table"] : List Str).length (c_number_led (He.ga K "Number") (He.ga K "Table"))) := by
  have hnd := sc_number_led.nd
  refine fnD F sc_number_led (c_number_led (He.ga K "Number") (He.ga K "Table")) fun cdv A outer s H E B Ξ hr z => ⟨_, (dss_cons (ds_if (dt_isnt (de_var (i := 0)) de_non) (dss_one (ds_ret (de_meth h_Number_led T.cl_Number hr z (List.Mem.head _) (de_var (i := 0)) (da_cons (de_var (i := 1)) da_nil)))) dss_nil)
    (dss_cons (ds_asg (de_meth0 h_Table_entries T.cl_Table hr z (List.Mem.head _) (de_var (i := 1))) (dg_tup (n := 4) rfl (dgs_cons (dg_name (i := 2) hnd) (dgs_cons (dg_name (i := 3) hnd) (dgs_cons (dg_name (i := 4) hnd) (dgs_cons (dg_name (i := 5) hnd) dgs_nil))))))
    (dss_one (ds_ret (de_if (dt_ne hr (de_var (i := 4)) de_int) (de_make c_Number hr z (List.Mem.tail _ (List.Mem.tail _ (List.Mem.head _))) (da_cons (de_var (i := 2)) (da_cons (de_var (i := 4)) da_nil))) de_non))))), fun ds Ψ hl hc => ?_⟩
  obtain ⟨m, hm, ⟨rfl, q1, q2⟩ | ⟨p, rfl, ib, q1, q2⟩⟩ := hc
  · rw [show ent (["number", "table", "a", "b", "c", "d"] : List Str).length [.non, tab (He.ga K "Table") m] = [some .non, some (tab (He.ga K "Table") m), none, none, none, none] from rfl]
    obtain ⟨a1, a2, a3, a4⟩ : Ib 24 m.1 ∧ Ib 24 m.2.1 ∧ Ib 24 m.2.2.1 ∧ Ib 24 m.2.2.2 := hm
    refine bl_f rfl (ite_f rfl ?_)
    refine ⟨rfl, no_entries, rfl, rfl, m, rfl, rfl, rfl, ?_⟩
    try dsimp only [List.set, getS_z, getS_s, bin2, bin2T, ltD, leD, gtD, geD, cmp_i, add_i, sub_i, min2_i, max2_i]
    refine neI (bl_c (fun e => ite_t rfl ?_) (fun e => ite_f rfl ?_))
    · have e : m.2.2.1 ≠ 0 := by simpa using e
      exact mk_num3 e (a1.mono (by decide)) (a3.mono (by decide)) ⟨_, _, .same, q1 e⟩
    · have e : m.2.2.1 = 0 := by simpa using e
      exact ⟨_, _, .same, q2 e⟩
  · rw [show ent (["number", "table", "a", "b", "c", "d"] : List Str).length [num (He.ga K "Number") p, tab (He.ga K "Table") m] = [some (num (He.ga K "Number") p), some (tab (He.ga K "Table") m), none, none, none, none] from rfl]
    refine bl_t rfl (ite_t rfl ?_)
    refine ⟨rfl, rfl, rfl, rfl, p, m, rfl, ib, hm, fun e => ⟨fun h => ⟨_, _, .same, (q1 e).1 h⟩, fun h => ⟨_, _, .same, (q1 e).2 h⟩⟩, fun e => ?_⟩
    obtain ⟨k1, k2, k3⟩ := q2 e
    exact ⟨k1, k2, _, _, .same, k3⟩
def c_product : Ct := fun ds M Ψ _ => ∃ s t n m, ds = [tD s, tD t] ∧ Sm n s ∧ Sm m t ∧ 0 < n ∧ 0 < m ∧ n + m ≤ 1000000 ∧ Ψ (tD (mul4 s t)) M
theorem ok_product {f : Addr} {fd : FuncData} {dvs : List V} {kws : List (Str × V)} (T : Txt K mg)  (F : FnZ K "product" "product" s_product dvs kws f fd) : FnOk P w K mg base (L2.CX P w) 2 f fd ["one", "other"] (spC K (["one", "other"] : List Str).length (c_product)) := by
  have hnd := sc_product.nd
  refine fnD F sc_product (c_product) fun cdv A outer s H E B Ξ hr z => ⟨_, (dss_cons (ds_asg (de_var (i := 0)) (dg_tup (n := 4) rfl (dgs_cons (dg_name (i := 2) hnd) (dgs_cons (dg_name (i := 3) hnd) (dgs_cons (dg_name (i := 4) hnd) (dgs_cons (dg_name (i := 5) hnd) dgs_nil))))))
    (dss_cons (ds_asg (de_var (i := 1)) (dg_tup (n := 4) rfl (dgs_cons (dg_name (i := 6) hnd) (dgs_cons (dg_name (i := 7) hnd) (dgs_cons (dg_name (i := 8) hnd) (dgs_cons (dg_name (i := 9) hnd) dgs_nil))))))
    (dss_one (ds_ret (de_tup (da_cons (de_add (de_mul (de_var (i := 2)) (de_var (i := 6))) (de_mul (de_var (i := 3)) (de_var (i := 8)))) (da_cons (de_add (de_mul (de_var (i := 2)) (de_var (i := 7))) (de_mul (de_var (i := 3)) (de_var (i := 9)))) (da_cons (de_add (de_mul (de_var (i := 4)) (de_var (i := 6))) (de_mul (de_var (i := 5)) (de_var (i := 8)))) (da_cons (de_add (de_mul (de_var (i := 4)) (de_var (i := 7))) (de_mul (de_var (i := 5)) (de_var (i := 9)))) da_nil))))))))), fun ds Ψ hl hc => ?_⟩
  obtain ⟨s, t, n, m, rfl, hs, ht, h0, h1, hz, q⟩ := hc
  have k : ∀ {i j : Int}, i.natAbs < 2 ^ n → j.natAbs < 2 ^ m → IntMulOk i j := fun a b => mok_of a b h0 h1 hz
  exact ⟨rfl, rfl, rfl, rfl, k hs.1 ht.1, k hs.2.1 ht.2.2.1, k hs.1 ht.2.1, k hs.2.1 ht.2.2.2, k hs.2.2.1 ht.1, k hs.2.2.2 ht.2.2.1, k hs.2.2.1 ht.2.1, k hs.2.2.2 ht.2.2.2, ln (n := 4) rfl (by decide), _, _, .same, q⟩
def c_word_table : Ct := fun ds M Ψ _ => ∃ x, ds = [.str x] ∧ x.cps.size ≤ 400000 ∧ Ψ (tD (wL x.cps.toList)) M
theorem ok_word_table {f : Addr} {fd : FuncData} {dvs : List V} {kws : List (Str × V)} (T : Txt K mg) (h_product : Gf P w K mg base "product" 2 (c_product) b_product) (F : FnZ K "word_table" "word_table" s_word_table dvs kws f fd) : FnOk P w K mg base (L2.CX P w) 3 f fd ["word"] (spC K (["word"] : List Str).length (c_word_table)) := by
  have hnd := sc_word_table.nd
  refine fnD F sc_word_table (c_word_table) fun cdv A outer s H E B Ξ hr z => ⟨_, (dss_cons (ds_set (i := 1) hnd (de_gtup T.k_NEUTRAL))
    (dss_cons (ds_for z.po rfl (di_str (de_var (i := 0))) (dg_name (i := 2) hnd) (dss_one (ds_set (i := 1) hnd (de_call h_product hr z (List.Mem.head _) (da_cons (de_var (i := 1)) (da_cons (de_if (dt_eq hr (de_var (i := 2)) de_str) (de_gtup T.k_RIGHT) (de_gtup T.k_LEFT)) da_nil))))))
    (dss_one (ds_ret (de_var (i := 1)))))), fun ds Ψ hl hc => ?_⟩
  obtain ⟨x, rfl, hz, q⟩ := hc
  refine forD_n (xs := Z.signs x) (fun K h => h) (fun i r M' => M' = B.M ∧ ∃ o, r = [some (.str x), some (tD (wL (x.cps.toList.take i))), o]) ⟨rfl, none, rfl⟩ (fun _ _ _ _ => trivial) (fun i d r M' hd h => ?_) (fun r M' h => ?_)
  · obtain ⟨rfl, o, rfl⟩ := h
    obtain ⟨c, hi, rfl⟩ := signs_get hd
    have hl : (x.cps.toList.take i).length ≤ 400000 := by rw [List.length_take, Array.length_toList]; omega
    have fin : c_product [tD (wL (x.cps.toList.take i)), tD (turnT c)] B.M (fun d M' => Cl B.M (fun r M' => M' = B.M ∧ ∃ o, r = [some (.str x), some (tD (wL (x.cps.toList.take (i + 1)))), o]) [some (.str x), some d, some (.str ⟨#[c]⟩)] M') (fun y M' => exF B.M Ξ y [some (.str x), some (tD (wL (x.cps.toList.take i))), some (.str ⟨#[c]⟩)] M') :=
      ⟨_, _, _, _, rfl, sm_wL _, sm_turn c, by omega, by omega, by omega, .of ⟨rfl, _, by rw [wL_take hi]⟩⟩
    unfold turnT at fin
    refine eqS ?_
    refine bl_c (fun e => ?_) (fun e => ?_)
    · rw [if_pos (of_decide_eq_true e)] at fin
      exact ⟨rfl, rfl, fin⟩
    · rw [if_neg (of_decide_eq_false e)] at fin
      exact ⟨rfl, rfl, fin⟩
  · obtain ⟨rfl, o, rfl⟩ := h
    refine ⟨_, _, .same, ?_⟩
    rw [signs_len, List.take_of_length_le (by rw [Array.length_toList]; exact Nat.le_refl _)]
    exact q
def c_Tabled_initd (C CI : Addr) : Ct := fun ds M Ψ Ξ => ∃ p a b c d, ds = [.ref p, a, b, c, d] ∧ M p = some (.ins C []) ∧ (∀ e ∈ [a, b, c, d], ∃ t, tyN M e = some t) ∧
  (∀ t : T4, [a, b, c, d] = tL t → (∃ n, 0 < n ∧ n ≤ 500000 ∧ Sm n t) ∧ (det4 t ≠ 0 → Ψ .non (updM M p (.ins C [("whole", tD t)]))) ∧ (det4 t = 0 → Ξ (CI, [("tag", .str "InvalidTable")]) M)) ∧
  ((∃ e ∈ [a, b, c, d], isIn M e = false) → Ξ (CI, [("tag", .str "InvalidTable")]) M)
theorem mk_tab {C CI : Addr} {t : T4} {r : En} {M : Sto} {Ψ : PD} {Ξ : XD → En → Sto → Prop} {n : Nat} (h0 : 0 < n) (hn : n ≤ 500000) (hs : Sm n t) (hd : det4 t ≠ 0) (q : Ψ (tab C t) M) : mkD 4 0 (fun ds _ => ds) C (c_Tabled_initd C CI) Ξ (tL t) [] r M Ψ := by
  refine ⟨rfl, rfl, fun p hp => ⟨p, _, _, _, _, rfl, updM_same, fun e he => ?_, fun t' e => ?_, fun ⟨e, he, hi⟩ => ?_⟩⟩
  · simp only [List.mem_cons, List.not_mem_nil, or_false] at he
    rcases he with rfl | rfl | rfl | rfl <;> exact ⟨_, rfl⟩
  · have et : t = t' := by
      unfold tL at e
      simp only [List.cons.injEq, D.int.injEq, and_true] at e
      obtain ⟨e1, e2, e3, e4⟩ := e
      exact Prod.ext e1 (Prod.ext e2 (Prod.ext e3 e4))
    subst et
    exact ⟨⟨n, h0, hn, hs⟩, fun _ => ⟨rfl, _, updM_updM, q⟩, fun z => absurd z hd⟩
  · simp only [List.mem_cons, List.not_mem_nil, or_false] at he
    rcases he with rfl | rfl | rfl | rfl <;> (unfold isIn at hi; simp [tyN] at hi)
theorem ok_Tabled_initd {f : Addr} {fd : FuncData} {dvs : List V} {kws : List (Str × V)} (T : Txt K mg) (h_is_integer : Gf P w K mg base "is_integer" 2 (c_is_integer) b_is_integer) (x_InvalidTable : Xf P w K mg base "InvalidTable" (He.ga K "InvalidTable") 0 (tag1 "InvalidTable")) (F : FnZ K "__init__" "Table.__init__" s_Tabled_initd dvs kws f fd) : FnOk P w K mg base (L2.CX P w) 3 f fd ["self", "a", "b", "c", "d"] (spC K (["self", "a", "b", "c", "d"] : List Str).length (c_Tabled_initd (He.ga K "Table") (He.ga K "InvalidTable"))) := by
  have hnd := sc_Tabled_initd.nd
  refine fnD F sc_Tabled_initd (c_Tabled_initd (He.ga K "Table") (He.ga K "InvalidTable")) fun cdv A outer s H E B Ξ hr z => ⟨_, (dss_cons (ds_if (dw_or (dt_not (dt_val (de_all1 rfl T.n_all (da_cons (de_lc rfl hnd (di_tup (de_tup (da_cons (de_var (i := 1)) (da_cons (de_var (i := 2)) (da_cons (de_var (i := 3)) (da_cons (de_var (i := 4)) da_nil)))))) (blkOk_by (own := [("entry", 5)]) (by rfl)) (tg_name (i := 5) (by decide)) (fun _ _ _ _ _ => (pg_name (i := 5) hnd rfl (by first | exact Or.inl rfl | exact Or.inr rfl) (by first | exact .inl rfl | exact .inr rfl))) (fun _ _ _ _ _ _ => dts_nil) (fun _ _ _ _ _ _ => (de_call h_is_integer hr zx_blk (List.Mem.head _) (da_cons (de_var (i := 5)) da_nil)))) da_nil)))) (dw_or1 (dt_eq hr (de_mul (de_var (i := 1)) (de_var (i := 4))) (de_mul (de_var (i := 2)) (de_var (i := 3)))))).pt (dss_one (ds_raise0 x_InvalidTable hr z rfl)) dss_nil)
    (dss_one (ds_fld T.cl_Table T.na_Table_whole (de_tup (da_cons (de_var (i := 1)) (da_cons (de_var (i := 2)) (da_cons (de_var (i := 3)) (da_cons (de_var (i := 4)) da_nil))))) (de_var (i := 0))))), fun ds Ψ hl hc => ?_⟩
  obtain ⟨p, a, b, c, d, rfl, hp, hty, q1, q2⟩ := hc
  refine compD_map (xs := [a, b, c, d]) (S := fun _ => True) (fun K h => ⟨ln (n := 4) rfl (by decide), [a, b, c, d], rfl, h⟩) (fun d => .bl (isIn B.M d)) trivial (ln (n := 4) rfl (by decide)) (fun d hd Q q => ?_) ?_
  · obtain ⟨t, ht⟩ := hty d hd
    exact ⟨rfl, rfl, d, t, rfl, ht, q⟩
  · refine ⟨[a, b, c, d].map fun d => isIn B.M d, rfl, ?_⟩
    refine bl_c (fun e2 => ?_) (fun e2 => ?_)
    rotate_left
    · refine ⟨_, .same, q2 ?_⟩
      rw [List.all_map] at e2
      obtain ⟨x, hx, hn⟩ := List.all_eq_false.mp e2
      exact ⟨x, hx, by simpa using hn⟩
    · rw [List.all_map] at e2
      have hi : ∀ e ∈ [a, b, c, d], ∃ i, e = .int i := fun x hx => ty_int (of_decide_eq_true (List.all_eq_true.mp e2 x hx))
      obtain ⟨i, rfl⟩ := hi a (by simp)
      obtain ⟨j, rfl⟩ := hi b (by simp)
      obtain ⟨k, rfl⟩ := hi c (by simp)
      obtain ⟨l, rfl⟩ := hi d (by simp)
      obtain ⟨⟨n, h0, hn, s1, s2, s3, s4⟩, q3, q4⟩ := q1 (i, j, k, l) rfl
      refine ⟨mok_of s1 s4 h0 h0 (by omega), mok_of s2 s3 h0 h0 (by omega), ?_⟩
      refine eqI ?_
      refine bl_c (fun e => ?_) (fun e => ?_)
      · exact ⟨_, .same, q4 (by have := of_decide_eq_true e; unfold det4; simp only; omega)⟩
      · have hd : det4 (i, j, k, l) ≠ 0 := by have := of_decide_eq_false e; unfold det4; simp only; omega
        refine ⟨ln (n := 4) rfl (by decide), ?_⟩
        have hq := q3 hd
        show (match B.M p with | some (.ins C' fs) => _ | _ => False)
        rw [hp]
        exact ⟨rfl, by decide, _, _, .same, hq⟩
def c_Table_of_word (C CW : Addr) : Ct := fun ds M Ψ Ξ => ∃ d t, ds = [d] ∧ tyN M d = some t ∧ (∀ x, d = .str x → x.cps.size ≤ 100000) ∧ (∀ x, d = .str x → wB d = true → Ψ (tab C (wL x.cps.toList)) M) ∧ (wB d = false → Ξ (CW, [("given", d), ("tag", .str "InvalidWord")]) M)
theorem ok_Table_of_word {f : Addr} {fd : FuncData} {dvs : List V} {kws : List (Str × V)} (T : Txt K mg) (h_check_word : Gf P w K mg base "check_word" 3 (c_check_word (He.ga K "InvalidWord")) b_check_word) (h_word_table : Gf P w K mg base "word_table" 3 (c_word_table) b_word_table) (c_Table : Cf P w K mg base "Table" (He.ga K "Table") 3 (c_Tabled_initd (He.ga K "Table") (He.ga K "InvalidTable")) b_Tabled_initd) (F : FnZ K "of_word" "Table.of_word" s_Table_of_word dvs kws f fd) : FnOk P w K mg base (L2.CX P w) 5 f fd ["word"] (spC K (["word"] : List Str).length (c_Table_of_word (He.ga K "Table") (He.ga K "InvalidWord"))) := by
  have hnd := sc_Table_of_word.nd
  refine fnD F sc_Table_of_word (c_Table_of_word (He.ga K "Table") (He.ga K "InvalidWord")) fun cdv A outer s H E B Ξ hr z => ⟨_, (dss_cons (ds_expr (de_call h_check_word hr z (List.Mem.head _) (da_cons (de_var (i := 0)) da_nil)))
    (dss_cons (ds_asg (de_call h_word_table hr z (List.Mem.head _) (da_cons (de_var (i := 0)) da_nil)) (dg_tup (n := 4) rfl (dgs_cons (dg_name (i := 1) hnd) (dgs_cons (dg_name (i := 2) hnd) (dgs_cons (dg_name (i := 3) hnd) (dgs_cons (dg_name (i := 4) hnd) dgs_nil))))))
    (dss_one (ds_ret (de_make c_Table hr z (List.Mem.head _) (da_cons (de_var (i := 1)) (da_cons (de_var (i := 2)) (da_cons (de_var (i := 3)) (da_cons (de_var (i := 4)) da_nil))))))))), fun ds Ψ hl hc => ?_⟩
  obtain ⟨d, t, rfl, ht, hz, q1, q2⟩ := hc
  refine ⟨rfl, rfl, d, t, rfl, ht, fun x e => Nat.le_trans (hz x e) (by decide), fun e => ?_, fun e => ⟨_, .same, q2 e⟩⟩
  obtain ⟨x, rfl⟩ : ∃ x, d = .str x := by
    cases d <;> first | exact ⟨_, rfl⟩ | cases e
  have hzx := hz x rfl
  refine ⟨rfl, rfl, x, rfl, by omega, ?_⟩
  refine ⟨rfl, rfl, ?_⟩
  exact mk_tab (n := 2 * x.cps.toList.length + 1) (by omega) (by rw [Array.length_toList]; omega) (sm_wL _) (by rw [det_wL]; decide) ⟨_, _, .same, q1 x rfl e⟩
theorem ofw {C CW : Addr} {x : Str} {w : List Nat} {M : Sto} {Ψ : PD} {Ξ : XD → Sto → Prop} (hx : x.cps.toList = w) (hw : LR w) (hl : w.length ≤ 100) (q : Ψ (tab C (wL w)) M) : c_Table_of_word C CW [.str x] M Ψ Ξ := by
  have hz : x.cps.size ≤ 100 := by rw [← Array.length_toList, hx]; exact hl
  refine ⟨.str x, "str", rfl, rfl, fun y e => ?_, fun y e _ => ?_, fun e => ?_⟩
  · cases e; omega
  · cases e; rw [hx]; exact q
  · have : wB (.str x) = true := by
      show (x.cps.toList.all fun c => decide (c ∈ ("LR" : Str).cps.toList)) = true
      rw [hx, List.all_eq_true]
      exact fun c hc => decide_eq_true (lr_mem.mpr (hw c hc))
    rw [this] at e; cases e
def c_Row_number (CR CN CT : Addr) : Ct := fun ds M Ψ _ => ∃ x y, ds = [row CR x y] ∧ NR x y ∧ LR x ∧ LR y ∧ x.length ≤ 11 ∧ y.length ≤ 11 ∧ (∀ p, numR x y = some p → Ψ (num CN p) M) ∧ (numR x y = none → Ψ .non M)
theorem ok_Row_number {f : Addr} {fd : FuncData} {dvs : List V} {kws : List (Str × V)} (T : Txt K mg) (h_number_led : Gf P w K mg base "number_led" 6 (c_number_led (He.ga K "Number") (He.ga K "Table")) b_number_led) (h_Table_of_word : Sf P w K mg base (He.ga K "Table") "of_word" 5 (c_Table_of_word (He.ga K "Table") (He.ga K "InvalidWord")) b_Table_of_word) (c_Number : Cf P w K mg base "Number" (He.ga K "Number") 3 (c_Numberd_initd (He.ga K "Number") (He.ga K "InvalidNumber")) b_Numberd_initd) (h_word_table : Gf P w K mg base "word_table" 3 (c_word_table) b_word_table) (h_Number_led : Mf P w K mg base (He.ga K "Number") "led" 5 (c_Number_led (He.ga K "Number") (He.ga K "Table")) b_Number_led) (F : FnZ K "number" "Row.number" s_Row_number dvs kws f fd) : FnOk P w K mg base (L2.CX P w) 7 f fd ["self"] (spC K (["self"] : List Str).length (c_Row_number (He.ga K "Row") (He.ga K "Number") (He.ga K "Table"))) := by
  have hnd := sc_Row_number.nd
  refine fnD F sc_Row_number (c_Row_number (He.ga K "Row") (He.ga K "Number") (He.ga K "Table")) fun cdv A outer s H E B Ξ hr z => ⟨_, (dss_cons (ds_asg (de_fld T.cl_Row T.na_Row_whole (de_var (i := 0))) (dg_tup (n := 2) rfl (dgs_cons (dg_name (i := 1) hnd) (dgs_cons (dg_name (i := 2) hnd) dgs_nil))))
    (dss_cons (ds_if (dt_eq hr (de_var (i := 2)) de_str) (dss_one (ds_ret (de_call h_number_led hr z (List.Mem.head _) (da_cons de_non (da_cons (de_sm h_Table_of_word T.gl_Table hr z (List.Mem.head _) (da_cons (de_var (i := 1)) da_nil)) da_nil))))) dss_nil)
    (dss_cons (ds_if (dt_eq hr (de_var (i := 2)) de_str) (dss_one (ds_ret (de_call h_number_led hr z (List.Mem.head _) (da_cons (de_make c_Number hr z (List.Mem.head _) (da_cons de_int da_nil)) (da_cons (de_sm h_Table_of_word T.gl_Table hr z (List.Mem.head _) (da_cons (de_var (i := 1)) da_nil)) da_nil))))) dss_nil)
    (dss_cons (ds_asg (de_call h_word_table hr z (List.Mem.head _) (da_cons (de_var (i := 2)) da_nil)) (dg_tup (n := 4) rfl (dgs_cons (dg_name (i := 3) hnd) (dgs_cons (dg_name (i := 4) hnd) (dgs_cons (dg_name (i := 5) hnd) (dgs_cons (dg_name (i := 6) hnd) dgs_nil))))))
    (dss_one (ds_ret (de_meth h_Number_led T.cl_Number hr z (List.Mem.head _) (de_makeK c_Number hr z (List.Mem.tail _ (List.Mem.head _)) (da_cons (de_sub (de_var (i := 3)) (de_var (i := 6))) (da_cons (de_mul de_int (de_var (i := 5))) da_nil)) (dk_cons (de_add (de_mul (de_sub (de_var (i := 3)) (de_var (i := 6))) (de_sub (de_var (i := 3)) (de_var (i := 6)))) (de_mul (de_mul de_int (de_var (i := 4))) (de_var (i := 5)))) dk_nil)) (da_cons (de_sm h_Table_of_word T.gl_Table hr z (List.Mem.head _) (da_cons (de_var (i := 1)) da_nil)) da_nil)))))))), fun ds Ψ hl hc => ?_⟩
  obtain ⟨x, y, rfl, nr, lx, ly, sx, sy, q1, q2⟩ := hc
  rw [show ent (["self", "lead", "ring", "a", "b", "c", "d"] : List Str).length [row (He.ga K "Row") x y] = [some (row (He.ga K "Row") x y), none, none, none, none, none, none] from rfl]
  try dsimp only [List.set, getS_z, getS_s, bin2, bin2T, ltD, leD, gtD, geD, cmp_i, add_i, sub_i, min2_i, max2_i]
  refine ⟨rfl, fld_hd ⟨rfl, rfl, ?_⟩⟩
  try dsimp only [List.set, getS_z, getS_s, bin2, bin2T, ltD, leD, gtD, geD, cmp_i, add_i, sub_i, min2_i, max2_i]
  have smx : Sm 24 (wL x) := (sm_w sx).mono (by decide)
  have smy := sm_w sy
  have ofw : ∀ (Φ : PD) (Ξ' : XD → Sto → Prop), Φ (tab (He.ga K "Table") (wL x)) B.M → c_Table_of_word (He.ga K "Table") (He.ga K "InvalidWord") [.str ⟨x.toArray⟩] B.M Φ Ξ' := fun Φ Ξ' h => ofw (w := x) rfl lx (by omega) h
  refine eq_w (s := y) (t := [82]) ?_
  refine bl_c (fun e => ite_t rfl ?_) (fun e => ite_f rfl ?_)
  · have e := of_decide_eq_true e
    have eN : numR x y = if (wL x).2.2.1 = 0 then none else some (nf (wL x).1 (wL x).2.2.1 0) := by unfold numR; rw [if_pos e]
    refine ⟨rfl, rfl, ofw _ _ ⟨rfl, rfl, wL x, smx, .inl ⟨rfl, fun h => ?_, fun h => ?_⟩⟩⟩
    · exact ⟨_, _, .same, q1 _ (by rw [eN, if_neg h])⟩
    · exact ⟨_, _, .same, q2 (by rw [eN, if_pos h])⟩
  have e1 := of_decide_eq_false e
  refine eq_w (s := y) (t := [76]) ?_
  refine bl_c (fun e => ite_t rfl ?_) (fun e => ite_f rfl ?_)
  · have e := of_decide_eq_true e
    have eN : numR x y = some (nf (wL x).2.1 (wL x).2.2.2 0) := by unfold numR; rw [if_neg e1, if_pos e]
    have dp := (wL_pos x).2
    refine mk_num1 (Ib.c (i := 0) _) ?_
    rw [nf_int]
    have lo : loL (wL x) ((0 : Int), (1 : Int), (0 : Int)) = (wL x).2.2.2 := by unfold loL; simp
    have up : upL (wL x) ((0 : Int), (1 : Int), (0 : Int)) = (wL x).2.1 := by unfold upL; simp
    refine ⟨rfl, rfl, ofw _ _ ⟨rfl, rfl, wL x, smx, .inr ⟨((0 : Int), (1 : Int), (0 : Int)), rfl, ⟨Ib.c (i := 0) _, Ib.c (i := 1) _, Ib.c (i := 0) _⟩, fun _ => ⟨fun h => ?_, fun h => ?_⟩, fun h => absurd rfl h⟩⟩⟩
    · refine ⟨_, _, .same, q1 _ ?_⟩
      rw [eN]
      unfold frV
      rw [lo, up]
    · rw [lo] at h
      omega
  have e2 := of_decide_eq_false e
  have hy := Hyp_of nr ly e1 e2
  have eN : numR x y = some (ledV (wL x) (rtP y)) := by unfold numR; rw [if_neg e1, if_neg e2]
  obtain ⟨b1, b2, b3⟩ := rt_ib smy
  have ir := hy.irr
  obtain ⟨s1, s2, s3, s4⟩ : Ib 23 (wL y).1 ∧ Ib 23 (wL y).2.1 ∧ Ib 23 (wL y).2.2.1 ∧ Ib 23 (wL y).2.2.2 := smy
  refine ⟨rfl, rfl, ⟨y.toArray⟩, rfl, by show y.toArray.size ≤ _; rw [List.size_toArray]; omega, ?_⟩
  refine ⟨rfl, rfl, ?_⟩
  try dsimp only [List.set, getS_z, getS_s, bin2, bin2T, ltD, leD, gtD, geD, cmp_i, add_i, sub_i, min2_i, max2_i]
  have i1 : Ib 24 ((wL y).1 - (wL y).2.2.2) := b1
  refine ⟨(Ib.c (i := 2) 2).mok s3 (by decide) (by decide), i1.mok i1 (by decide) (by decide), (Ib.c (i := 4) 3).mok s2 (by decide) (by decide), ((Ib.c (i := 4) 3).mul s2).mok s3 (by decide) (by decide), ?_⟩
  try dsimp only [List.set, getS_z, getS_s, bin2, bin2T, ltD, leD, gtD, geD, cmp_i, add_i, sub_i, min2_i, max2_i]
  refine mk_num2 ir.ne (Int.le_of_lt ir.pos) (b1.mono (by decide)) (b2.mono (by decide)) (b3.mono (by decide)) ?_
  refine ⟨rfl, rfl, rfl, rfl, ofw _ _ ⟨rfl, rfl, rtP y, wL x, rfl, nf_ib200 ir.ne (Int.le_of_lt ir.pos) (b1.mono (by decide)) (b2.mono (by decide)) b3, smx, fun e => absurd e (Int.ne_of_gt ir.nf.pos), fun _ => ⟨ir.nf, by rw [det_wL]; decide, ?_⟩⟩⟩
  exact ⟨_, _, .same, q1 _ eN⟩
def c_Number_under (C : Addr) : Ct := fun ds M Ψ _ => ∃ p, ds = [num C p] ∧ Ψ (.int p.2.2) M
theorem ok_Number_under {f : Addr} {fd : FuncData} {dvs : List V} {kws : List (Str × V)} (T : Txt K mg)  (F : FnZ K "under" "Number.under" s_Number_under dvs kws f fd) : FnOk P w K mg base (L2.CX P w) 2 f fd ["self"] (spC K (["self"] : List Str).length (c_Number_under (He.ga K "Number"))) := by
  have hnd := sc_Number_under.nd
  refine fnD F sc_Number_under (c_Number_under (He.ga K "Number")) fun cdv A outer s H E B Ξ hr z => ⟨_, (dss_one (ds_ret (de_ix (de_fld T.cl_Number T.na_Number_whole (de_var (i := 0))) de_int))), fun ds Ψ hl hc => ?_⟩
  obtain ⟨p, rfl, q⟩ := hc
  exact ⟨rfl, fld_hd ⟨_, _, .same, q⟩⟩
def c_are_unlike (CR : Addr) : Ct := fun ds M Ψ _ => ∃ x y u v, ds = [row CR x y, row CR u v] ∧ LR y ∧ LR v ∧ (isRt y = true → isRt v = false) ∧ Ψ (.bl (isRt y != isRt v)) M
theorem ok_are_unlike {f : Addr} {fd : FuncData} {dvs : List V} {kws : List (Str × V)} (T : Txt K mg) (h_is_root : Gf P w K mg base "is_root" 4 (c_is_root (He.ga K "Row")) b_is_root) (h_is_square : Gf P w K mg base "is_square" 2 (c_is_square) b_is_square) (h_Row_number : Mf P w K mg base (He.ga K "Row") "number" 7 (c_Row_number (He.ga K "Row") (He.ga K "Number") (He.ga K "Table")) b_Row_number) (h_Number_under : Pf P w K mg base (He.ga K "Number") "under" 2 (c_Number_under (He.ga K "Number"))) (F : FnZ K "are_unlike" "are_unlike" s_are_unlike dvs kws f fd) : FnOk P w K mg base (L2.CX P w) 8 f fd ["row", "other"] (spC K (["row", "other"] : List Str).length (c_are_unlike (He.ga K "Row"))) := by
  have hnd := sc_are_unlike.nd
  refine fnD F sc_are_unlike (c_are_unlike (He.ga K "Row")) fun cdv A outer s H E B Ξ hr z => ⟨_, (dss_cons (ds_if (dt_ne hr (de_call h_is_root hr z (List.Mem.head _) (da_cons (de_var (i := 0)) da_nil)) (de_call h_is_root hr z (List.Mem.head _) (da_cons (de_var (i := 1)) da_nil))) (dss_one (ds_ret de_bl)) dss_nil)
    (dss_one (ds_ret (de_and (de_call h_is_root hr z (List.Mem.head _) (da_cons (de_var (i := 0)) da_nil)) (de_and1 (de_not (de_call h_is_square hr z (List.Mem.head _) (da_cons (de_mul (de_prop h_Number_under T.cl_Number hr (de_meth0 h_Row_number T.cl_Row hr z (List.Mem.head _) (de_var (i := 0)))) (de_prop h_Number_under T.cl_Number hr (de_meth0 h_Row_number T.cl_Row hr z (List.Mem.head _) (de_var (i := 1))))) da_nil)))))))), fun ds Ψ hl hc => ?_⟩
  obtain ⟨x, y, u, v, rfl, ly, lv, hn, q⟩ := hc
  rw [show ent (["row", "other"] : List Str).length [row (He.ga K "Row") x y, row (He.ga K "Row") u v] = [some (row (He.ga K "Row") x y), some (row (He.ga K "Row") u v)] from rfl]
  try dsimp only [List.set, getS_z, getS_s, bin2, bin2T, ltD, leD, gtD, geD, cmp_i, add_i, sub_i, min2_i, max2_i]
  refine ⟨rfl, rfl, x, y, rfl, ly, rfl, rfl, u, v, rfl, lv, ?_⟩
  refine ne_bb ?_
  cases ey : isRt y with
  | false =>
    rw [ey] at q
    cases ev : isRt v with
    | false =>
      rw [ev] at q
      refine bl_f rfl (ite_f rfl ?_)
      refine ⟨rfl, rfl, x, y, rfl, ly, ?_⟩
      rw [ey]
      exact bl_f rfl (ite_f rfl ⟨_, _, .same, q⟩)
    | true =>
      rw [ev] at q
      exact bl_t rfl (ite_t rfl ⟨_, _, .same, q⟩)
  | true =>
    rw [ey, hn ey] at q
    rw [hn ey]
    exact bl_t rfl (ite_t rfl ⟨_, _, .same, q⟩)
def c_Unliked_initd (C : Addr) : Ct := fun ds M Ψ _ => ∃ p x y, ds = [.ref p, x, y] ∧ M p = some (.ins C []) ∧ Ψ .non (updM M p (.ins C [("own_row", x), ("own_other", y)]))
def ulD (C : Addr) (x y : D) : D := .obj C [("own_row", x), ("own_other", y)]
theorem ok_Unliked_initd {f : Addr} {fd : FuncData} {dvs : List V} {kws : List (Str × V)} (T : Txt K mg)  (F : FnZ K "__init__" "Tie.__init__" s_Unliked_initd dvs kws f fd) : FnOk P w K mg base (L2.CX P w) 2 f fd ["self", "row", "other"] (spC K (["self", "row", "other"] : List Str).length (c_Unliked_initd (He.ga K "Unlike"))) := by
  have hnd := sc_Unliked_initd.nd
  refine fnD F sc_Unliked_initd (c_Unliked_initd (He.ga K "Unlike")) fun cdv A outer s H E B Ξ hr z => ⟨_, (dss_cons (ds_fld T.cl_Unlike T.na_Unlike_own_row (de_var (i := 1)) (de_var (i := 0)))
    (dss_one (ds_fld T.cl_Unlike T.na_Unlike_own_other (de_var (i := 2)) (de_var (i := 0))))), fun ds Ψ hl hc => ?_⟩
  obtain ⟨p, x, y, rfl, hp, q⟩ := hc
  rw [show ent (["self", "row", "other"] : List Str).length [D.ref p, x, y] = [some (.ref p), some x, some y] from rfl]
  try dsimp only [List.set, getS_z, getS_s, bin2, bin2T, ltD, leD, gtD, geD, cmp_i, add_i, sub_i, min2_i, max2_i]
  rw [hp]
  refine ⟨rfl, (show 0 < 1000 by decide), ?_⟩
  try dsimp only [List.set, getS_z, getS_s, bin2, bin2T, ltD, leD, gtD, geD, cmp_i, add_i, sub_i, min2_i, max2_i]
  rw [updM_same]
  refine ⟨rfl, (show 1 < 1000 by decide), ?_⟩
  rw [updM_updM]
  exact ⟨_, _, .same, q⟩
def c_root_tables : Ct := fun _ _ _ _ => False
theorem ok_root_tables {f : Addr} {fd : FuncData} {dvs : List V} {kws : List (Str × V)} (T : Txt K mg) (F : FnZ K "root_tables" "root_tables" s_root_tables dvs kws f fd) : FnOk P w K mg base (L2.CX P w) 2 f fd ["one", "other"] (spC K (["one", "other"] : List Str).length (c_root_tables)) := fn_no fun _ _ _ _ h => h
def c_least_tables : Ct := fun _ _ _ _ => False
theorem ok_least_tables {f : Addr} {fd : FuncData} {dvs : List V} {kws : List (Str × V)} (T : Txt K mg) (F : FnZ K "least_tables" "least_tables" s_least_tables dvs kws f fd) : FnOk P w K mg base (L2.CX P w) 2 f fd ["one", "other"] (spC K (["one", "other"] : List Str).length (c_least_tables)) := fn_no fun _ _ _ _ h => h
def c_Link_base (C CR : Addr) : Ct := fun ds M Ψ _ => ∃ p x y, ds = [.ref p, x, y] ∧ M p = some (.ins C []) ∧ Ψ .non (updM M p (.ins C [("own_row", x), ("own_other", y)]))
theorem ok_Link_base {f : Addr} {fd : FuncData} {dvs : List V} {kws : List (Str × V)} (T : Txt K mg)  (F : FnZ K "__init__" "Tie.__init__" s_Link_base dvs kws f fd) : FnOk P w K mg base (L2.CX P w) 2 f fd ["self", "row", "other"] (spC K (["self", "row", "other"] : List Str).length (c_Link_base (He.ga K "Link") (He.ga K "Row"))) := by
  have hnd := sc_Link_base.nd
  refine fnD F sc_Link_base (c_Link_base (He.ga K "Link") (He.ga K "Row")) fun cdv A outer s H E B Ξ hr z => ⟨_, (dss_cons (ds_fld T.cl_Link T.na_Link_own_row (de_var (i := 1)) (de_var (i := 0)))
    (dss_one (ds_fld T.cl_Link T.na_Link_own_other (de_var (i := 2)) (de_var (i := 0))))), fun ds Ψ hl hc => ?_⟩
  obtain ⟨p, x, y, rfl, hp, q⟩ := hc
  rw [show ent (["self", "row", "other"] : List Str).length [D.ref p, x, y] = [some (.ref p), some x, some y] from rfl]
  try dsimp only [List.set, getS_z, getS_s, bin2, bin2T, ltD, leD, gtD, geD, cmp_i, add_i, sub_i, min2_i, max2_i]
  rw [hp]
  refine ⟨rfl, (show 0 < 1000 by decide), ?_⟩
  try dsimp only [List.set, getS_z, getS_s, bin2, bin2T, ltD, leD, gtD, geD, cmp_i, add_i, sub_i, min2_i, max2_i]
  rw [updM_same]
  refine ⟨rfl, (show 1 < 1000 by decide), ?_⟩
  rw [updM_updM]
  exact ⟨_, _, .same, q⟩
def c_Table_determinant (C : Addr) : Ct := fun ds M Ψ _ => ∃ t n, ds = [tab C t] ∧ 0 < n ∧ n ≤ 500000 ∧ Sm n t ∧ Ψ (.int (det4 t)) M
theorem ok_Table_determinant {f : Addr} {fd : FuncData} {dvs : List V} {kws : List (Str × V)} (T : Txt K mg)  (F : FnZ K "determinant" "Table.determinant" s_Table_determinant dvs kws f fd) : FnOk P w K mg base (L2.CX P w) 2 f fd ["self"] (spC K (["self"] : List Str).length (c_Table_determinant (He.ga K "Table"))) := by
  have hnd := sc_Table_determinant.nd
  refine fnD F sc_Table_determinant (c_Table_determinant (He.ga K "Table")) fun cdv A outer s H E B Ξ hr z => ⟨_, (dss_cons (ds_asg (de_fld T.cl_Table T.na_Table_whole (de_var (i := 0))) (dg_tup (n := 4) rfl (dgs_cons (dg_name (i := 1) hnd) (dgs_cons (dg_name (i := 2) hnd) (dgs_cons (dg_name (i := 3) hnd) (dgs_cons (dg_name (i := 4) hnd) dgs_nil))))))
    (dss_one (ds_ret (de_sub (de_mul (de_var (i := 1)) (de_var (i := 4))) (de_mul (de_var (i := 2)) (de_var (i := 3))))))), fun ds Ψ hl hc => ?_⟩
  obtain ⟨t, n, rfl, h0, hn, hs, q⟩ := hc
  refine ⟨rfl, fld_hd ⟨rfl, rfl, ?_⟩⟩
  exact ⟨mok_of hs.1 hs.2.2.2 h0 h0 (by omega), mok_of hs.2.1 hs.2.2.1 h0 h0 (by omega), _, _, .same, q⟩
def dtx : Option T4 → Str
  | none => "none"
  | some t => istr (det4 t)
theorem det_ib {t : T4} (h : Sm 24 t) : Ib 49 (det4 t) := ((show Ib 24 t.1 from h.1).mul h.2.2.2).sub ((show Ib 24 t.2.1 from h.2.1).mul h.2.2.1)
theorem dtx_len {o : Option T4} (h : ∀ t, o = some t → Sm 24 t) : (dtx o).length ≤ 1921 := by
  cases o with
  | none => decide +kernel
  | some t => exact sz_int (n := 300) ((det_ib (h t rfl)).mono (by decide)) (by decide)
def tbO (C : Addr) : Option T4 → D
  | none => .non
  | some t => tab C t
def c_determinant_text (CT : Addr) : Ct := fun ds M Ψ _ => ∃ o, ds = [tbO CT o] ∧ (∀ t, o = some t → Sm 24 t) ∧ Ψ (.str (dtx o)) M
theorem ok_determinant_text {f : Addr} {fd : FuncData} {dvs : List V} {kws : List (Str × V)} (T : Txt K mg) (h_Table_determinant : Pf P w K mg base (He.ga K "Table") "determinant" 2 (c_Table_determinant (He.ga K "Table"))) (F : FnZ K "determinant_text" "determinant_text" s_determinant_text dvs kws f fd) : FnOk P w K mg base (L2.CX P w) 4 f fd ["table"] (spC K (["table"] : List Str).length (c_determinant_text (He.ga K "Table"))) := by
  have hnd := sc_determinant_text.nd
  refine fnD F sc_determinant_text (c_determinant_text (He.ga K "Table")) fun cdv A outer s H E B Ξ hr z => ⟨_, (dss_one (ds_ret (de_if (dt_is (de_var (i := 0)) de_non) de_str (de_str1 T.n_str (da_cons (de_prop h_Table_determinant T.cl_Table hr (de_var (i := 0))) da_nil))))), fun ds Ψ hl hc => ?_⟩
  obtain ⟨o, rfl, hs, q⟩ := hc
  rw [show ent (["table"] : List Str).length [tbO (He.ga K "Table") o] = [some (tbO (He.ga K "Table") o)] from rfl]
  try dsimp only [List.set, getS_z, getS_s, bin2, bin2T, ltD, leD, gtD, geD, cmp_i, add_i, sub_i, min2_i, max2_i]
  cases o with
  | none => exact bl_t rfl (ite_t rfl ⟨_, _, .same, q⟩)
  | some t =>
    have h := hs t rfl
    refine bl_f rfl (ite_f rfl ?_)
    refine ⟨rfl, t, 24, rfl, by decide, by decide, h, ?_⟩
    have hd : Ib 49 (det4 t) := ((show Ib 24 t.1 from h.1).mul h.2.2.2).sub ((show Ib 24 t.2.1 from h.2.1).mul h.2.2.1)
    exact ⟨log_sm (n := 300) (hd.mono (by decide)) (by decide), _, _, .same, q⟩
def lkW (a b : Option T4) : Str := (((Str.empty ++ ("linked by " : Str)) ++ dtx a) ++ (" and " : Str)) ++ dtx b
def lkF (CT : Addr) (x y : D) (a b : Option T4) : List (Str × D) := [("own_row", x), ("own_other", y), ("upper", tbO CT a), ("lower", tbO CT b), ("words", .str (lkW a b))]
def lkD (C CT : Addr) (x y : D) (a b : Option T4) : D := .obj C (lkF CT x y a b)
def c_Linkd_initd (C CT : Addr) : Ct := fun ds M Ψ _ => ∃ p x y a b, ds = [.ref p, x, y, tbO CT a, tbO CT b] ∧ M p = some (.ins C []) ∧ (∀ t, a = some t → Sm 24 t) ∧ (∀ t, b = some t → Sm 24 t) ∧ Ψ .non (updM M p (.ins C (lkF CT x y a b)))
theorem ok_Linkd_initd {fd : FuncData} (T : Txt K mg) (M_Link : SupM P w K mg base (He.ga K "Link") "__init__" 2 (c_Link_base (He.ga K "Link") (He.ga K "Row")) b_Link_base) (h_determinant_text : Gf P w K mg base "determinant_text" 4 (c_determinant_text (He.ga K "Table")) b_determinant_text) (F : FnS K "__init__" "Link.__init__" s_Linkd_initd (gaM "Link" "__init__" K) fd) (PF : ((P.main.file : Str) == FILE) = true) (PT : (P.main.scope.names.lookup ("super" : Str)).isSome = false) : FnOk P w K mg base (L2.CX P w) 5 (gaM "Link" "__init__" K) fd ["self", "row", "other", "up", "down"] (spC K (["self", "row", "other", "up", "down"] : List Str).length (c_Linkd_initd (He.ga K "Link") (He.ga K "Table"))) := by
  have hnd := sc_Linkd_initd.nd
  refine fnDS (self := "self") F sc_Linkd_initd T.sup_Link PF PT T.n_super (c_Linkd_initd (He.ga K "Link") (He.ga K "Table")) fun cda cc A outer s H E B Ξ SK hr z => ⟨_, (db_sup sc_Linkd_initd SK M_Link hr z (List.Mem.head _) (da_cons (de_var (i := 1)) (da_cons (de_var (i := 2)) da_nil)) (dss_cons (ds_fld T.cl_Link T.na_Link_upper (de_var (i := 3)) (de_var (i := 0)))
    (dss_cons (ds_fld T.cl_Link T.na_Link_lower (de_var (i := 4)) (de_var (i := 0)))
    (dss_one (ds_fld T.cl_Link T.na_Link_words (de_joined (.cons de_str (.cons (de_fmt (de_call h_determinant_text hr z (List.Mem.head _) (da_cons (de_var (i := 3)) da_nil))) (.cons de_str (.cons (de_fmt (de_call h_determinant_text hr z (List.Mem.head _) (da_cons (de_var (i := 4)) da_nil))) .nil))))) (de_var (i := 0))))))), fun ds Ψ hl hc => ?_⟩
  obtain ⟨p, x, y, a, b, rfl, hp, ha, hb, q⟩ := hc
  rw [show ent (["self", "row", "other", "up", "down"] : List Str).length [D.ref p, x, y, tbO (He.ga K "Table") a, tbO (He.ga K "Table") b] = [some (.ref p), some x, some y, some (tbO (He.ga K "Table") a), some (tbO (He.ga K "Table") b)] from rfl]
  refine ⟨p, [], rfl, hp, ?_⟩
  try dsimp only [List.set, getS_z, getS_s, bin2, bin2T, ltD, leD, gtD, geD, cmp_i, add_i, sub_i, min2_i, max2_i]
  refine ⟨rfl, rfl, p, x, y, rfl, hp, ?_⟩
  try dsimp only
  rw [updM_same]
  refine ⟨rfl, (show 2 < 1000 by decide), ?_⟩
  rw [updM_updM]
  try dsimp only [List.set, getS_z, getS_s, bin2, bin2T, ltD, leD, gtD, geD, cmp_i, add_i, sub_i, min2_i, max2_i]
  rw [updM_same]
  refine ⟨rfl, (show 3 < 1000 by decide), ?_⟩
  rw [updM_updM]
  try dsimp only [List.set, getS_z, getS_s, bin2, bin2T, ltD, leD, gtD, geD, cmp_i, add_i, sub_i, min2_i, max2_i]
  have l1 : (Str.empty ++ ("linked by " : Str)).length ≤ 10 := by decide +kernel
  have l2 : (" and " : Str).length ≤ 5 := by decide +kernel
  have a1 := dtx_len ha
  have a2 := dtx_len hb
  have m1 := sz_app l1 a1
  have m2 := sz_app m1 l2
  have m3 := sz_app m2 a2
  refine ⟨sz_le l1 (by decide), rfl, rfl, a, rfl, ha, sz_le a1 (by decide), sz_le m1 (by decide), sz_le m2 (by decide), rfl, rfl, b, rfl, hb, sz_le a2 (by decide), sz_le m3 (by decide), ?_⟩
  try dsimp only [jsD]
  rw [updM_same]
  refine ⟨rfl, (show 4 < 1000 by decide), ?_⟩
  rw [updM_updM]
  exact ⟨_, _, .same, q⟩
def bk4 (t : T4) : T4 := (t.2.2.2, -t.2.1, -t.2.2.1, t.1)
theorem det_bk (t : T4) : det4 (bk4 t) = det4 t := by unfold det4 bk4; simp only; grind
theorem sm_bk {t : T4} {n : Nat} (h : Sm n t) : Sm n (bk4 t) := ⟨h.2.2.2, by rw [show (bk4 t).2.1 = -t.2.1 from rfl, Int.natAbs_neg]; exact h.2.1, by rw [show (bk4 t).2.2.1 = -t.2.2.1 from rfl, Int.natAbs_neg]; exact h.2.2.1, h.1⟩
theorem bk_bk (t : T4) : bk4 (bk4 t) = t := by unfold bk4; simp
theorem mul_bk (t : T4) : mul4 t (bk4 t) = (det4 t, 0, 0, det4 t) := by
  unfold mul4 bk4 det4
  simp only [Prod.mk.injEq]
  refine ⟨?_, ?_, ?_, ?_⟩ <;> grind
def c_Table_back (C : Addr) : Ct := fun ds M Ψ _ => ∃ t n, ds = [tab C t] ∧ 0 < n ∧ n ≤ 500000 ∧ Sm n t ∧ det4 t ≠ 0 ∧ Ψ (tab C (bk4 t)) M
theorem ok_Table_back {f : Addr} {fd : FuncData} {dvs : List V} {kws : List (Str × V)} (T : Txt K mg) (c_Table : Cf P w K mg base "Table" (He.ga K "Table") 3 (c_Tabled_initd (He.ga K "Table") (He.ga K "InvalidTable")) b_Tabled_initd) (F : FnZ K "back" "Table.back" s_Table_back dvs kws f fd) : FnOk P w K mg base (L2.CX P w) 5 f fd ["self"] (spC K (["self"] : List Str).length (c_Table_back (He.ga K "Table"))) := by
  have hnd := sc_Table_back.nd
  refine fnD F sc_Table_back (c_Table_back (He.ga K "Table")) fun cdv A outer s H E B Ξ hr z => ⟨_, (dss_cons (ds_asg (de_fld T.cl_Table T.na_Table_whole (de_var (i := 0))) (dg_tup (n := 4) rfl (dgs_cons (dg_name (i := 1) hnd) (dgs_cons (dg_name (i := 2) hnd) (dgs_cons (dg_name (i := 3) hnd) (dgs_cons (dg_name (i := 4) hnd) dgs_nil))))))
    (dss_one (ds_ret (de_make c_Table hr z (List.Mem.head _) (da_cons (de_var (i := 4)) (da_cons (de_neg (de_var (i := 2))) (da_cons (de_neg (de_var (i := 3))) (da_cons (de_var (i := 1)) da_nil)))))))), fun ds Ψ hl hc => ?_⟩
  obtain ⟨t, n, rfl, h0, hn, hs, hd, q⟩ := hc
  refine ⟨rfl, fld_hd ⟨rfl, rfl, ?_⟩⟩
  refine mk_tab (t := bk4 t) h0 hn (sm_bk hs) (by rw [det_bk]; exact hd) ?_
  exact ⟨_, _, .same, q⟩
def c_Row_lead (C : Addr) : Ct := fun ds M Ψ _ => ∃ (x y : List Nat), ds = [row C x y] ∧ Ψ (.str ⟨x.toArray⟩) M
theorem ok_Row_lead {f : Addr} {fd : FuncData} {dvs : List V} {kws : List (Str × V)} (T : Txt K mg)  (F : FnZ K "lead" "Row.lead" s_Row_lead dvs kws f fd) : FnOk P w K mg base (L2.CX P w) 2 f fd ["self"] (spC K (["self"] : List Str).length (c_Row_lead (He.ga K "Row"))) := by
  have hnd := sc_Row_lead.nd
  refine fnD F sc_Row_lead (c_Row_lead (He.ga K "Row")) fun cdv A outer s H E B Ξ hr z => ⟨_, (dss_one (ds_ret (de_ix (de_fld T.cl_Row T.na_Row_whole (de_var (i := 0))) de_int))), fun ds Ψ hl hc => ?_⟩
  obtain ⟨x, y, rfl, q⟩ := hc
  exact ⟨rfl, fld_hd ⟨_, _, .same, q⟩⟩
def c_table_with (C : Addr) : Ct := fun ds M Ψ _ => ∃ t n, ds = [tD t] ∧ 0 < n ∧ n ≤ 500000 ∧ Sm n t ∧ det4 t ≠ 0 ∧ Ψ (tab C t) M
theorem ok_table_with {f : Addr} {fd : FuncData} {dvs : List V} {kws : List (Str × V)} (T : Txt K mg) (c_Table : Cf P w K mg base "Table" (He.ga K "Table") 3 (c_Tabled_initd (He.ga K "Table") (He.ga K "InvalidTable")) b_Tabled_initd) (F : FnZ K "table_with" "table_with" s_table_with dvs kws f fd) : FnOk P w K mg base (L2.CX P w) 5 f fd ["entries"] (spC K (["entries"] : List Str).length (c_table_with (He.ga K "Table"))) := by
  have hnd := sc_table_with.nd
  refine fnD F sc_table_with (c_table_with (He.ga K "Table")) fun cdv A outer s H E B Ξ hr z => ⟨_, (dss_cons (ds_asg (de_var (i := 0)) (dg_tup (n := 4) rfl (dgs_cons (dg_name (i := 1) hnd) (dgs_cons (dg_name (i := 2) hnd) (dgs_cons (dg_name (i := 3) hnd) (dgs_cons (dg_name (i := 4) hnd) dgs_nil))))))
    (dss_one (ds_ret (de_make c_Table hr z (List.Mem.head _) (da_cons (de_var (i := 1)) (da_cons (de_var (i := 2)) (da_cons (de_var (i := 3)) (da_cons (de_var (i := 4)) da_nil)))))))), fun ds Ψ hl hc => ?_⟩
  obtain ⟨t, n, rfl, h0, hn, hs, hd, q⟩ := hc
  refine ⟨rfl, rfl, ?_⟩
  exact mk_tab h0 hn hs hd ⟨_, _, .same, q⟩
theorem sm_trn {n : Nat} {t : T4} (h : Sm n t) (c : Nat) : Sm (n + 1) (mul4 t (turnT c)) := by
  obtain ⟨a, b, c', d⟩ := t
  have k : ∀ {i : Int}, i.natAbs < 2 ^ n → i.natAbs < 2 ^ (n + 1) := fun z => Nat.lt_of_lt_of_le z (Nat.pow_le_pow_right (by decide) (by omega))
  unfold turnT
  split
  · have e : mul4 (a, b, c', d) (1, 1, 0, 1) = (a, a + b, c', c' + d) := by unfold mul4; simp only [Prod.mk.injEq]; refine ⟨?_, ?_, ?_, ?_⟩ <;> omega
    show Sm (n + 1) (mul4 _ (1, 1, 0, 1))
    rw [e]
    exact ⟨k h.1, sm_add h.1 h.2.1, k h.2.2.1, sm_add h.2.2.1 h.2.2.2⟩
  · have e : mul4 (a, b, c', d) (1, 0, 1, 1) = (a + b, b, c' + d, d) := by unfold mul4; simp only [Prod.mk.injEq]; refine ⟨?_, ?_, ?_, ?_⟩ <;> omega
    show Sm (n + 1) (mul4 _ (1, 0, 1, 1))
    rw [e]
    exact ⟨sm_add h.1 h.2.1, k h.2.1, sm_add h.2.2.1 h.2.2.2, k h.2.2.2⟩
theorem sm_wl : ∀ (n : Nat) (w : List Nat), w.length = n → Sm (n + 1) (wL w)
  | 0, w, h => by
    rw [List.length_eq_zero_iff.mp h]
    exact sm_O
  | n + 1, w, h => by
    have hw : w ≠ [] := fun z => by rw [z] at h; cases h
    rw [← List.dropLast_concat_getLast hw, wL_snoc]
    exact sm_trn (sm_wl n _ (by rw [List.length_dropLast, h]; rfl)) _
theorem bk_mul' (t : T4) : mul4 (bk4 t) t = (det4 t, 0, 0, det4 t) := by
  unfold mul4 bk4 det4
  simp only [Prod.mk.injEq]
  refine ⟨?_, ?_, ?_, ?_⟩ <;> grind
/-- the table of the link -/
def lkT (x : List Nat) (c : Nat) (u : List Nat) (e : Nat) : T4 := if c = e then mul4 (wL u) (bk4 (wL x)) else mul4 (wL u) (mul4 (0, 1, 1, 0) (bk4 (wL x)))
theorem lkT_sm {x u : List Nat} {c e : Nat} (hx : x.length ≤ 6) (hu : u.length ≤ 6) : Sm 24 (lkT x c u e) := by
  have a := (sm_wl _ x rfl).mono (show x.length + 1 ≤ 7 by omega)
  have b := (sm_wl _ u rfl).mono (show u.length + 1 ≤ 7 by omega)
  unfold lkT
  split
  · exact (b.mul (sm_bk a)).mono (by decide)
  · exact (b.mul ((show Sm 1 (0, 1, 1, 0) from ⟨by decide, by decide, by decide, by decide⟩).mul (sm_bk a))).mono (by decide)
theorem lkT_det (x : List Nat) (c : Nat) (u : List Nat) (e : Nat) : det4 (lkT x c u e) = if c = e then 1 else -1 := by
  unfold lkT
  split
  · rw [det_mul, det_bk, det_wL, det_wL]; rfl
  · rw [det_mul, det_mul, det_bk, det_wL, det_wL]; rfl
theorem mv_one (v : Int × Int) : mv (1, 0, 0, 1) v = v := by
  unfold mv
  simp
theorem lkT_led {x u : List Nat} {c e : Nat} (hx : FrR x c) (hu : FrR u e) : ledN (lkT x c u e) (numR x [c]) = numR u [e] := by
  rw [num_col hx.kc, num_col hu.kc, ledN_nv (mv_ne (by rw [det_wL]; decide) (ec_ne c))]
  have k : mv (bk4 (wL x)) (mv (wL x) (ec c)) = ec c := by
    rw [← mv_mul, bk_mul', det_wL]
    exact mv_one _
  unfold lkT
  split
  · rename_i h
    rw [mv_mul, k, h]
  · rename_i h
    rw [mv_mul, mv_mul, k]
    have : mv (0, 1, 1, 0) (ec c) = ec e := by
      rcases hx.kc with rfl | rfl <;> rcases hu.kc with rfl | rfl
      · exact absurd rfl h
      · unfold mv ec; simp
      · unfold mv ec; simp
      · exact absurd rfl h
    rw [this]
def upO (x : List Nat) (c : Nat) (u : List Nat) (e : Nat) : Option T4 := if c = e then some (lkT x c u e) else none
def dnO (x : List Nat) (c : Nat) (u : List Nat) (e : Nat) : Option T4 := if c = e then none else some (lkT x c u e)
def c_link (CL CU CR CT : Addr) : Ct := fun ds M Ψ _ => (∃ x c u e, ds = [row CR x [c], row CR u [e]] ∧ FrR x c ∧ FrR u e ∧ Ψ (lkD CL CT (row CR x [c]) (row CR u [e]) (upO x c u e) (dnO x c u e)) M) ∨
  ∃ x y u v, ds = [row CR x y, row CR u v] ∧ LR y ∧ LR v ∧ (isRt y = true → isRt v = false) ∧ isRt y ≠ isRt v ∧ Ψ (ulD CU (row CR x y) (row CR u v)) M
theorem ok_link {f : Addr} {fd : FuncData} {dvs : List V} {kws : List (Str × V)} (T : Txt K mg) (h_are_unlike : Gf P w K mg base "are_unlike" 8 (c_are_unlike (He.ga K "Row")) b_are_unlike) (c_Unlike : Cf P w K mg base "Unlike" (He.ga K "Unlike") 2 (c_Unliked_initd (He.ga K "Unlike")) b_Unliked_initd) (h_is_root : Gf P w K mg base "is_root" 4 (c_is_root (He.ga K "Row")) b_is_root) (h_root_tables : Gf P w K mg base "root_tables" 2 (c_root_tables) b_root_tables) (h_Row_number : Mf P w K mg base (He.ga K "Row") "number" 7 (c_Row_number (He.ga K "Row") (He.ga K "Number") (He.ga K "Table")) b_Row_number) (h_least_tables : Gf P w K mg base "least_tables" 2 (c_least_tables) b_least_tables) (c_Link : Cf P w K mg base "Link" (He.ga K "Link") 5 (c_Linkd_initd (He.ga K "Link") (He.ga K "Table")) b_Linkd_initd) (h_Table_entries : Mf P w K mg base (He.ga K "Table") "entries" 2 (c_Table_entries (He.ga K "Table")) b_Table_entries) (h_Table_back : Mf P w K mg base (He.ga K "Table") "back" 5 (c_Table_back (He.ga K "Table")) b_Table_back) (h_Table_of_word : Sf P w K mg base (He.ga K "Table") "of_word" 5 (c_Table_of_word (He.ga K "Table") (He.ga K "InvalidWord")) b_Table_of_word) (h_Row_lead : Pf P w K mg base (He.ga K "Row") "lead" 2 (c_Row_lead (He.ga K "Row"))) (h_Row_ring : Pf P w K mg base (He.ga K "Row") "ring" 2 (c_Row_ring (He.ga K "Row"))) (h_table_with : Gf P w K mg base "table_with" 5 (c_table_with (He.ga K "Table")) b_table_with) (h_product : Gf P w K mg base "product" 2 (c_product) b_product) (h_word_table : Gf P w K mg base "word_table" 3 (c_word_table) b_word_table) (F : FnZ K "link" "link" s_link dvs kws f fd) : FnOk P w K mg base (L2.CX P w) 9 f fd ["row", "other"] (spC K (["row", "other"] : List Str).length (c_link (He.ga K "Link") (He.ga K "Unlike") (He.ga K "Row") (He.ga K "Table"))) := by
  have hnd := sc_link.nd
  refine fnD F sc_link (c_link (He.ga K "Link") (He.ga K "Unlike") (He.ga K "Row") (He.ga K "Table")) fun cdv A outer s H E B Ξ hr z => ⟨_, (dss_cons (ds_if (dt_val (de_call h_are_unlike hr z (List.Mem.head _) (da_cons (de_var (i := 0)) (da_cons (de_var (i := 1)) da_nil)))) (dss_one (ds_ret (de_make c_Unlike hr z (List.Mem.head _) (da_cons (de_var (i := 0)) (da_cons (de_var (i := 1)) da_nil))))) dss_nil)
    (dss_cons (ds_if (dt_val (de_call h_is_root hr z (List.Mem.head _) (da_cons (de_var (i := 0)) da_nil))) (dss_cons (ds_asg (de_call h_root_tables hr z (List.Mem.head _) (da_cons (de_meth0 h_Row_number T.cl_Row hr z (List.Mem.head _) (de_var (i := 0))) (da_cons (de_meth0 h_Row_number T.cl_Row hr z (List.Mem.head _) (de_var (i := 1))) da_nil))) (dg_tup (n := 2) rfl (dgs_cons (dg_name (i := 2) hnd) (dgs_cons (dg_name (i := 3) hnd) dgs_nil))))
    (dss_cons (ds_asg (de_call h_least_tables hr z (List.Mem.head _) (da_cons (de_var (i := 2)) (da_cons (de_var (i := 3)) da_nil))) (dg_tup (n := 2) rfl (dgs_cons (dg_name (i := 4) hnd) (dgs_cons (dg_name (i := 5) hnd) dgs_nil))))
    (dss_one (ds_ret (de_make c_Link hr z (List.Mem.head _) (da_cons (de_var (i := 0)) (da_cons (de_var (i := 1)) (da_cons (de_var (i := 4)) (da_cons (de_var (i := 5)) da_nil))))))))) dss_nil)
    (dss_cons (ds_set (i := 6) hnd (de_meth0 h_Table_entries T.cl_Table hr z (List.Mem.head _) (de_meth0 h_Table_back T.cl_Table hr z (List.Mem.head _) (de_sm h_Table_of_word T.gl_Table hr z (List.Mem.head _) (da_cons (de_prop h_Row_lead T.cl_Row hr (de_var (i := 0))) da_nil)))))
    (dss_cons (ds_if (dt_eq hr (de_prop h_Row_ring T.cl_Row hr (de_var (i := 0))) (de_prop h_Row_ring T.cl_Row hr (de_var (i := 1)))) (dss_one (ds_ret (de_make c_Link hr z (List.Mem.head _) (da_cons (de_var (i := 0)) (da_cons (de_var (i := 1)) (da_cons (de_call h_table_with hr z (List.Mem.head _) (da_cons (de_call h_product hr z (List.Mem.head _) (da_cons (de_call h_word_table hr z (List.Mem.head _) (da_cons (de_prop h_Row_lead T.cl_Row hr (de_var (i := 1))) da_nil)) (da_cons (de_var (i := 6)) da_nil))) da_nil)) (da_cons de_non da_nil))))))) dss_nil)
    (dss_one (ds_ret (de_make c_Link hr z (List.Mem.head _) (da_cons (de_var (i := 0)) (da_cons (de_var (i := 1)) (da_cons de_non (da_cons (de_call h_table_with hr z (List.Mem.head _) (da_cons (de_call h_product hr z (List.Mem.head _) (da_cons (de_call h_word_table hr z (List.Mem.head _) (da_cons (de_prop h_Row_lead T.cl_Row hr (de_var (i := 1))) da_nil)) (da_cons (de_call h_product hr z (List.Mem.head _) (da_cons (de_gtup T.k_SWAP) (da_cons (de_var (i := 6)) da_nil))) da_nil))) da_nil)) da_nil))))))))))), fun ds Ψ hl hc => ?_⟩
  rcases hc with ⟨x, c, u, e, rfl, hx, hu, q⟩ | ⟨x, y, u, v, rfl, ly, lv, hn, ne, q⟩
  rotate_left
  · rw [show ent (["row", "other", "one", "late", "up", "down", "back"] : List Str).length [row (He.ga K "Row") x y, row (He.ga K "Row") u v] = [some (row (He.ga K "Row") x y), some (row (He.ga K "Row") u v), none, none, none, none, none] from rfl]
    try dsimp only [List.set, getS_z, getS_s, bin2, bin2T, ltD, leD, gtD, geD, cmp_i, add_i, sub_i, min2_i, max2_i]
    refine ⟨rfl, rfl, x, y, u, v, rfl, ly, lv, hn, ?_⟩
    rw [show (isRt y != isRt v) = true from by revert ne; cases isRt y <;> cases isRt v <;> simp]
    refine bl_t rfl (ite_t rfl ?_)
    exact ⟨rfl, rfl, fun p hp => ⟨p, _, _, rfl, updM_same, rfl, _, updM_updM, _, _, .same, q⟩⟩
  rw [show ent (["row", "other", "one", "late", "up", "down", "back"] : List Str).length [row (He.ga K "Row") x [c], row (He.ga K "Row") u [e]] = [some (row (He.ga K "Row") x [c]), some (row (He.ga K "Row") u [e]), none, none, none, none, none] from rfl]
  try dsimp only [List.set, getS_z, getS_s, bin2, bin2T, ltD, leD, gtD, geD, cmp_i, add_i, sub_i, min2_i, max2_i]
  have r1 : isRt [c] = false := by unfold isRt; rcases hx.kc with rfl | rfl <;> decide
  have r2 : isRt [e] = false := by unfold isRt; rcases hu.kc with rfl | rfl <;> decide
  refine ⟨rfl, rfl, x, [c], u, [e], rfl, hx.lr, hu.lr, fun z => (by rw [r1] at z; cases z), ?_⟩
  rw [r1, r2]
  refine bl_f rfl (ite_f rfl ?_)
  refine ⟨rfl, rfl, x, [c], rfl, hx.lr, ?_⟩
  rw [r1]
  refine bl_f rfl (ite_f rfl ?_)
  have sx := hx.sx
  have su := hu.sx
  have bx := (sm_wl _ x rfl).mono (show x.length + 1 ≤ 7 by omega)
  have bu := (sm_wl _ u rfl).mono (show u.length + 1 ≤ 7 by omega)
  have dx : det4 (wL x) ≠ 0 := by rw [det_wL]; decide
  refine ⟨rfl, x, [c], rfl, rfl, rfl, ofw (w := x) rfl hx.lx (by omega) ⟨rfl, rfl, rfl, rfl, wL x, 7, rfl, by decide, by decide, bx, dx, ?_⟩⟩
  refine ⟨rfl, rfl, rfl, rfl, _, rfl, ?_⟩
  try dsimp only [List.set, getS_z, getS_s, bin2, bin2T, ltD, leD, gtD, geD, cmp_i, add_i, sub_i, min2_i, max2_i]
  refine ⟨rfl, x, [c], rfl, rfl, u, [e], rfl, eq_w ?_⟩
  have ice : ∀ {b : Bool}, decide ([c] = [e]) = b → decide (c = e) = b := fun z => by
    rw [← z]
    exact decide_eq_decide.mpr ⟨fun y => by rw [y], fun y => by cases y; rfl⟩
  have hs := lkT_sm (c := c) (e := e) sx su
  have hd : det4 (lkT x c u e) ≠ 0 := by rw [lkT_det]; split <;> decide
  refine bl_c (fun h => ite_t rfl ?_) (fun h => ite_f rfl ?_)
  · have h := of_decide_eq_true (ice h)
    unfold upO dnO at q
    rw [if_pos h, if_pos h] at q
    have eT : lkT x c u e = mul4 (wL u) (bk4 (wL x)) := by unfold lkT; rw [if_pos h]
    rw [eT] at q hs hd
    refine ⟨rfl, u, [e], rfl, rfl, rfl, ⟨u.toArray⟩, rfl, by show u.toArray.size ≤ _; rw [List.size_toArray]; omega, ?_⟩
    refine ⟨rfl, rfl, wL u, bk4 (wL x), 7, 7, rfl, bu, sm_bk bx, by decide, by decide, by decide, ?_⟩
    refine ⟨rfl, rfl, _, 24, rfl, by decide, by decide, hs, hd, ?_⟩
    refine ⟨rfl, rfl, fun p hp => ⟨p, _, _, some _, none, rfl, updM_same, (fun t z => by cases z; exact hs), (fun t z => nomatch z), rfl, _, updM_updM, _, _, .same, q⟩⟩
  · have h := of_decide_eq_false (ice h)
    unfold upO dnO at q
    rw [if_neg h, if_neg h] at q
    have eT : lkT x c u e = mul4 (wL u) (mul4 (0, 1, 1, 0) (bk4 (wL x))) := by unfold lkT; rw [if_neg h]
    rw [eT] at q hs hd
    have s1 : Sm 1 ((0, 1, 1, 0) : T4) := ⟨by decide, by decide, by decide, by decide⟩
    refine ⟨rfl, u, [e], rfl, rfl, rfl, ⟨u.toArray⟩, rfl, by show u.toArray.size ≤ _; rw [List.size_toArray]; omega, ?_⟩
    refine ⟨rfl, rfl, (0, 1, 1, 0), bk4 (wL x), 1, 7, rfl, s1, sm_bk bx, by decide, by decide, by decide, ?_⟩
    refine ⟨rfl, rfl, wL u, mul4 (0, 1, 1, 0) (bk4 (wL x)), 7, 9, rfl, bu, (s1.mul (sm_bk bx)), by decide, by decide, by decide, ?_⟩
    refine ⟨rfl, rfl, _, 24, rfl, by decide, by decide, hs, hd, ?_⟩
    refine ⟨rfl, rfl, fun p hp => ⟨p, _, _, none, some _, rfl, updM_same, (fun t z => nomatch z), (fun t z => by cases z; exact hs), rfl, _, updM_updM, _, _, .same, q⟩⟩
def c__law_same (n : Nat) : Ct := fun ds M Ψ _ => ∃ x y, ds = [x, y] ∧ Same M n x y ∧ Ψ (.bl true) M
theorem no__law_same : ∀ ds M Ψ Ξ, ¬ c__law_same 0 ds M Ψ Ξ := fun ds M Ψ Ξ ⟨_, _, _, h, _⟩ => h
theorem ok__law_same {f : Addr} {fd : FuncData} {dvs : List V} {kws : List (Str × V)} (T : Txt K mg) {lv dp : Nat} (hlv : 1 ≤ lv) (h__law_same : Gf P w K mg base "_law_same" lv (c__law_same dp) b__law_same) (F : FnZ K "_law_same" "_law_same" s__law_same dvs kws f fd) : FnOk P w K mg base (L2.CX P w) (lv + 1) f fd ["_law_found", "_law_due"] (spC K (["_law_found", "_law_due"] : List Str).length (c__law_same (dp + 1))) := by
  have hnd := sc__law_same.nd
  refine fnD F sc__law_same (c__law_same (dp + 1)) fun cdv A outer s H E B Ξ hr z => ⟨_, (dss_cons (ds_if (dt_is (de_var (i := 1)) de_non) (dss_one (ds_ret (de_is (de_var (i := 0)) de_non))) dss_nil)
    (dss_cons (ds_if (dw_or (dt_val (de_isi T.n_isinstance (da_cons (de_var (i := 1)) (da_cons (de_ty (n := "bool") T.n_bool (by decide +kernel)) da_nil)))) (dw_or1 (dt_val (de_isi T.n_isinstance (da_cons (de_var (i := 0)) (da_cons (de_ty (n := "bool") T.n_bool (by decide +kernel)) da_nil)))))).pt (dss_one (ds_ret (de_and (de_isi T.n_isinstance (da_cons (de_var (i := 1)) (da_cons (de_ty (n := "bool") T.n_bool (by decide +kernel)) da_nil))) (de_and (de_isi T.n_isinstance (da_cons (de_var (i := 0)) (da_cons (de_ty (n := "bool") T.n_bool (by decide +kernel)) da_nil))) (de_and1 (de_eq hr (de_var (i := 0)) (de_var (i := 1)))))))) dss_nil)
    (dss_cons (ds_if (dt_val (de_isi T.n_isinstance (da_cons (de_var (i := 1)) (da_cons (de_tup (da_cons (de_ty (n := "int") T.n_int (by decide +kernel)) (da_cons (de_ty (n := "str") T.n_str (by decide +kernel)) da_nil))) da_nil)))) (dss_one (ds_ret (de_and (de_isi T.n_isinstance (da_cons (de_var (i := 0)) (da_cons (de_tup (da_cons (de_ty (n := "int") T.n_int (by decide +kernel)) (da_cons (de_ty (n := "str") T.n_str (by decide +kernel)) da_nil))) da_nil))) (de_and (de_eq hr (de_isi T.n_isinstance (da_cons (de_var (i := 0)) (da_cons (de_ty (n := "int") T.n_int (by decide +kernel)) da_nil))) (de_isi T.n_isinstance (da_cons (de_var (i := 1)) (da_cons (de_ty (n := "int") T.n_int (by decide +kernel)) da_nil)))) (de_and1 (de_eq hr (de_var (i := 0)) (de_var (i := 1)))))))) dss_nil)
    (dss_cons (ds_if (dw_or (dt_ne hr (de_isi T.n_isinstance (da_cons (de_var (i := 1)) (da_cons (de_ty (n := "list") T.n_list (by decide +kernel)) da_nil))) (de_isi T.n_isinstance (da_cons (de_var (i := 0)) (da_cons (de_ty (n := "list") T.n_list (by decide +kernel)) da_nil)))) (dw_or1 (dt_ne hr (de_isi T.n_isinstance (da_cons (de_var (i := 1)) (da_cons (de_ty (n := "tuple") T.n_tuple (by decide +kernel)) da_nil))) (de_isi T.n_isinstance (da_cons (de_var (i := 0)) (da_cons (de_ty (n := "tuple") T.n_tuple (by decide +kernel)) da_nil)))))).pt (dss_one (ds_ret de_bl)) dss_nil)
    (dss_one (ds_ret (de_and (de_eq hr (de_len T.n_len (da_cons (de_var (i := 0)) da_nil)) (de_len T.n_len (da_cons (de_var (i := 1)) da_nil))) (de_and1 (de_all1 rfl T.n_all (da_cons (de_lc rfl hnd (di_zip T.n_zip (da_cons (de_var (i := 0)) (da_cons (de_var (i := 1)) da_nil))) (blkOk_by (own := [("_law_one", 2), ("_law_two", 3)]) (by rfl)) (tg_tup2 (by decide) (by decide)) (fun _ _ _ _ _ => (pg_tup rfl (pgs_cons (pg_name (i := 2) hnd rfl (by first | exact Or.inl rfl | exact Or.inr rfl) (by first | exact .inl rfl | exact .inr rfl)) (pgs_cons (pg_name (i := 3) hnd rfl (by first | exact Or.inl rfl | exact Or.inr rfl) (by first | exact .inl rfl | exact .inr rfl)) pgs_nil)))) (fun _ _ _ _ _ _ => dts_nil) (fun _ _ _ _ _ _ => (de_call (hj := by omega) h__law_same hr zx_blk (List.Mem.head _) (da_cons (de_var (i := 2)) (da_cons (de_var (i := 3)) da_nil))))) da_nil)))))))))), fun ds Ψ hl hc => ?_⟩
  obtain ⟨x, y, rfl, hs, q⟩ := hc
  rcases hs with ⟨rfl, rfl⟩ | ⟨b, rfl, rfl⟩ | ⟨i, rfl, rfl⟩ | ⟨s, rfl, rfl⟩ | ⟨xs, ys, hxy, hl, hl2, hs⟩
  · refine bl_t rfl ?_
    exact ⟨_, _, .same, q⟩
  · refine bl_f rfl ?_
    refine ⟨by decide, "bool", rfl, ?_⟩
    refine bl_t rfl ?_
    refine ⟨by decide, "bool", rfl, ?_⟩
    refine bl_t rfl ?_
    refine ⟨by decide, "bool", rfl, ?_⟩
    refine bl_t rfl ?_
    refine eqB ?_
    refine ⟨_, _, .same, ?_⟩
    rw [decide_eq_true rfl]
    exact q
  · refine bl_f rfl ?_
    refine ⟨by decide, "int", rfl, ?_⟩
    refine bl_f rfl ?_
    refine ⟨by decide, "int", rfl, ?_⟩
    refine bl_f rfl ?_
    refine ⟨ln (n := 2) rfl (by decide), ?_⟩
    refine ⟨["int", "str"], rfl, by decide, "int", rfl, ?_⟩
    refine bl_t rfl ?_
    refine ⟨ln (n := 2) rfl (by decide), ?_⟩
    refine ⟨["int", "str"], rfl, by decide, "int", rfl, ?_⟩
    refine bl_t rfl ?_
    refine ⟨by decide, "int", rfl, ?_⟩
    refine ⟨by decide, "int", rfl, ?_⟩
    refine eqB ?_
    refine bl_t rfl ?_
    refine eqI ?_
    refine ⟨_, _, .same, ?_⟩
    rw [decide_eq_true rfl]
    exact q
  · refine bl_f rfl ?_
    refine ⟨by decide, "str", rfl, ?_⟩
    refine bl_f rfl ?_
    refine ⟨by decide, "str", rfl, ?_⟩
    refine bl_f rfl ?_
    refine ⟨ln (n := 2) rfl (by decide), ?_⟩
    refine ⟨["int", "str"], rfl, by decide, "str", rfl, ?_⟩
    refine bl_t rfl ?_
    refine ⟨ln (n := 2) rfl (by decide), ?_⟩
    refine ⟨["int", "str"], rfl, by decide, "str", rfl, ?_⟩
    refine bl_t rfl ?_
    refine ⟨by decide, "str", rfl, ?_⟩
    refine ⟨by decide, "str", rfl, ?_⟩
    refine eqB ?_
    refine bl_t rfl ?_
    refine eqS ?_
    refine ⟨_, _, .same, ?_⟩
    rw [decide_eq_true rfl]
    exact q
  · rcases hxy with ⟨hx, hy⟩ | ⟨rfl, rfl⟩
    · have tx := lst_ty hx
      have ty := lst_ty hy
      have ny : isN y = false := by rcases lst_cs hy with rfl | ⟨p, rfl, _⟩ <;> rfl
      refine bl_f ny ?_
      refine ⟨by decide, _, ty, ?_⟩
      refine bl_f rfl ?_
      refine ⟨by decide, _, tx, ?_⟩
      refine bl_f rfl ?_
      refine ⟨ln (n := 2) rfl (by decide), ?_⟩
      refine ⟨["int", "str"], rfl, by decide, _, ty, ?_⟩
      refine bl_f rfl ?_
      refine ⟨by decide, _, ty, ?_⟩
      refine ⟨by decide, _, tx, ?_⟩
      refine neB ?_
      refine bl_f rfl ?_
      refine ⟨by decide, _, ty, ?_⟩
      refine ⟨by decide, _, tx, ?_⟩
      refine neB ?_
      refine bl_f rfl ?_
      rcases lst_cs hx with rfl | ⟨p, rfl, hp⟩
      · rcases lst_cs hy with rfl | ⟨p', rfl, hp'⟩
        · refine eqI ?_
          refine bl_t (decide_eq_true (by omega)) ?_
          refine compD_map (xs := zipD xs ys) (S := fun M => lstOf M _ = some xs ∧ lstOf M _ = some ys) (fun K h => ⟨_, _, hx, hy, h⟩) (fun _ => .bl true) ⟨hx, hy⟩ (by rw [zip_len]; exact Nat.le_trans (by omega) big_ok) (fun d hd Q h => ?_) ?_
          · obtain ⟨i, a, b, e1, e2, rfl⟩ := zip_mem hd
            exact ⟨rfl, rfl, a, b, rfl, hs i a b e1 e2, h⟩
          · rw [all_bl]
            refine ⟨_, rfl, ?_⟩
            rw [all_tt]
            exact ⟨_, _, .same, q⟩
        · refine ⟨_, hy, ?_⟩
          refine eqI ?_
          refine bl_t (decide_eq_true (by omega)) ?_
          refine compD_map (xs := zipD xs ys) (S := fun M => lstOf M _ = some xs ∧ lstOf M _ = some ys) (fun K h => ⟨_, _, hx, hy, h⟩) (fun _ => .bl true) ⟨hx, hy⟩ (by rw [zip_len]; exact Nat.le_trans (by omega) big_ok) (fun d hd Q h => ?_) ?_
          · obtain ⟨i, a, b, e1, e2, rfl⟩ := zip_mem hd
            exact ⟨rfl, rfl, a, b, rfl, hs i a b e1 e2, h⟩
          · rw [all_bl]
            refine ⟨_, rfl, ?_⟩
            rw [all_tt]
            exact ⟨_, _, .same, q⟩
      · rcases lst_cs hy with rfl | ⟨p', rfl, hp'⟩
        · refine ⟨_, hx, ?_⟩
          refine eqI ?_
          refine bl_t (decide_eq_true (by omega)) ?_
          refine compD_map (xs := zipD xs ys) (S := fun M => lstOf M _ = some xs ∧ lstOf M _ = some ys) (fun K h => ⟨_, _, hx, hy, h⟩) (fun _ => .bl true) ⟨hx, hy⟩ (by rw [zip_len]; exact Nat.le_trans (by omega) big_ok) (fun d hd Q h => ?_) ?_
          · obtain ⟨i, a, b, e1, e2, rfl⟩ := zip_mem hd
            exact ⟨rfl, rfl, a, b, rfl, hs i a b e1 e2, h⟩
          · rw [all_bl]
            refine ⟨_, rfl, ?_⟩
            rw [all_tt]
            exact ⟨_, _, .same, q⟩
        · refine ⟨_, hx, _, hy, ?_⟩
          refine eqI ?_
          refine bl_t (decide_eq_true (by omega)) ?_
          refine compD_map (xs := zipD xs ys) (S := fun M => lstOf M _ = some xs ∧ lstOf M _ = some ys) (fun K h => ⟨_, _, hx, hy, h⟩) (fun _ => .bl true) ⟨hx, hy⟩ (by rw [zip_len]; exact Nat.le_trans (by omega) big_ok) (fun d hd Q h => ?_) ?_
          · obtain ⟨i, a, b, e1, e2, rfl⟩ := zip_mem hd
            exact ⟨rfl, rfl, a, b, rfl, hs i a b e1 e2, h⟩
          · rw [all_bl]
            refine ⟨_, rfl, ?_⟩
            rw [all_tt]
            exact ⟨_, _, .same, q⟩
    · refine bl_f rfl ?_
      refine ⟨by decide, "tuple", rfl, ?_⟩
      refine bl_f rfl ?_
      refine ⟨by decide, "tuple", rfl, ?_⟩
      refine bl_f rfl ?_
      refine ⟨ln (n := 2) rfl (by decide), ?_⟩
      refine ⟨["int", "str"], rfl, by decide, "tuple", rfl, ?_⟩
      refine bl_f rfl ?_
      refine ⟨by decide, "tuple", rfl, ?_⟩
      refine ⟨by decide, "tuple", rfl, ?_⟩
      refine neB ?_
      refine bl_f rfl ?_
      refine ⟨by decide, "tuple", rfl, ?_⟩
      refine ⟨by decide, "tuple", rfl, ?_⟩
      refine neB ?_
      refine bl_f rfl ?_
      refine eqI ?_
      refine bl_t (decide_eq_true (by omega)) ?_
      refine compD_map (xs := zipD xs ys) (S := fun _ => True) (fun K h => h) (fun _ => .bl true) trivial (by rw [zip_len]; exact Nat.le_trans (by omega) big_ok) (fun d hd Q h => ?_) ?_
      · obtain ⟨i, a, b, e1, e2, rfl⟩ := zip_mem hd
        exact ⟨rfl, rfl, a, b, rfl, hs i a b e1 e2, h⟩
      · rw [all_bl]
        refine ⟨_, rfl, ?_⟩
        rw [all_tt]
        exact ⟨_, _, .same, q⟩
def c_Unlike_linked (C : Addr) : Ct := fun ds M Ψ _ => ∃ d, ds = [d] ∧ Ψ (.bl false) M
theorem ok_Unlike_linked {f : Addr} {fd : FuncData} {dvs : List V} {kws : List (Str × V)} (T : Txt K mg)  (F : FnZ K "linked" "Tie.linked" s_Unlike_linked dvs kws f fd) : FnOk P w K mg base (L2.CX P w) 2 f fd ["self"] (spC K (["self"] : List Str).length (c_Unlike_linked (He.ga K "Unlike"))) := by
  have hnd := sc_Unlike_linked.nd
  refine fnD F sc_Unlike_linked (c_Unlike_linked (He.ga K "Unlike")) fun cdv A outer s H E B Ξ hr z => ⟨_, (dss_one (ds_ret de_bl)), fun ds Ψ hl hc => ?_⟩
  obtain ⟨d, rfl, q⟩ := hc
  exact ⟨_, _, .same, q⟩
def c_Link_linked (C : Addr) : Ct := fun ds M Ψ _ => ∃ d, ds = [d] ∧ Ψ (.bl true) M
theorem ok_Link_linked {f : Addr} {fd : FuncData} {dvs : List V} {kws : List (Str × V)} (T : Txt K mg)  (F : FnZ K "linked" "Link.linked" s_Link_linked dvs kws f fd) : FnOk P w K mg base (L2.CX P w) 2 f fd ["self"] (spC K (["self"] : List Str).length (c_Link_linked (He.ga K "Link"))) := by
  have hnd := sc_Link_linked.nd
  refine fnD F sc_Link_linked (c_Link_linked (He.ga K "Link")) fun cdv A outer s H E B Ξ hr z => ⟨_, (dss_one (ds_ret de_bl)), fun ds Ψ hl hc => ?_⟩
  obtain ⟨d, rfl, q⟩ := hc
  exact ⟨_, _, .same, q⟩
def c_Unlike_holds (C CR : Addr) : Ct := fun ds M Ψ _ => ∃ x y u v, ds = [ulD C (row CR x y) (row CR u v)] ∧ LR y ∧ LR v ∧ (isRt y = true → isRt v = false) ∧ Ψ (.bl (isRt y != isRt v)) M
theorem ok_Unlike_holds {f : Addr} {fd : FuncData} {dvs : List V} {kws : List (Str × V)} (T : Txt K mg) (h_are_unlike : Gf P w K mg base "are_unlike" 8 (c_are_unlike (He.ga K "Row")) b_are_unlike) (F : FnZ K "holds" "Unlike.holds" s_Unlike_holds dvs kws f fd) : FnOk P w K mg base (L2.CX P w) 9 f fd ["self"] (spC K (["self"] : List Str).length (c_Unlike_holds (He.ga K "Unlike") (He.ga K "Row"))) := by
  have hnd := sc_Unlike_holds.nd
  refine fnD F sc_Unlike_holds (c_Unlike_holds (He.ga K "Unlike") (He.ga K "Row")) fun cdv A outer s H E B Ξ hr z => ⟨_, (dss_one (ds_ret (de_call h_are_unlike hr z (List.Mem.head _) (da_cons (de_fld T.cl_Unlike T.na_Unlike_own_row (de_var (i := 0))) (da_cons (de_fld T.cl_Unlike T.na_Unlike_own_other (de_var (i := 0))) da_nil))))), fun ds Ψ hl hc => ?_⟩
  obtain ⟨x, y, u, v, rfl, ly, lv, hn, q⟩ := hc
  refine ⟨rfl, optK_of (d := row (He.ga K "Row") x y) rfl ⟨rfl, optK_of (d := row (He.ga K "Row") u v) rfl ?_⟩⟩
  exact ⟨rfl, rfl, x, y, u, v, rfl, ly, lv, hn, _, _, .same, q⟩
def c_Numberd_eqd (C : Addr) : Ct := fun ds M Ψ _ => ∃ s y, ds = [num C s, y] ∧ ((∃ t, y = num C t ∧ Ψ (.bl (decide (s = t))) M) ∨ ((∃ t, tyN M y = some t) ∧ Ψ (.bl false) M))
theorem mono_Numberd_eqd {C : Addr} : Mono (c_Numberd_eqd C) := fun ds M Ψ Ψ' Ξ Ξ' h _ ⟨s, y, e, q⟩ => ⟨s, y, e, q.imp (fun ⟨t, e, q⟩ => ⟨t, e, h _ _ q⟩) fun ⟨a, q⟩ => ⟨a, h _ _ q⟩⟩
theorem ok_Numberd_eqd {f : Addr} {fd : FuncData} {dvs : List V} {kws : List (Str × V)} (T : Txt K mg)  (F : FnZ K "__eq__" "Number.__eq__" s_Numberd_eqd dvs kws f fd) : FnOk P w K mg base (L2.CX P w) 2 f fd ["self", "other"] (spC K (["self", "other"] : List Str).length (c_Numberd_eqd (He.ga K "Number"))) := by
  have hnd := sc_Numberd_eqd.nd
  refine fnD F sc_Numberd_eqd (c_Numberd_eqd (He.ga K "Number")) fun cdv A outer s H E B Ξ hr z => ⟨_, (dss_one (ds_ret (de_and (de_isio T.n_isinstance T.io_Number (da_cons (de_var (i := 1)) (da_cons (de_glob T.gl_Number (v := .ref (He.ga _ "Number")) rfl (fun _ => .ref)) da_nil))) (de_and1 (de_eq hr (de_fld T.cl_Number T.na_Number_whole (de_var (i := 0))) (de_fld T.cl_Number T.na_Number_whole (de_var (i := 1)))))))), fun ds Ψ hl hc => ?_⟩
  obtain ⟨s, y, rfl, q⟩ := hc
  rcases q with ⟨t, rfl, q⟩ | ⟨⟨t, ht⟩, q⟩
  · refine ⟨rfl, .inl ⟨_, rfl, ?_⟩⟩
    refine bl_t rfl ?_
    exact ⟨rfl, fld_hd ⟨rfl, fld_hd (eqvT3 ⟨_, _, .same, q⟩)⟩⟩
  · refine ⟨rfl, .inr ⟨t, ht, ?_⟩⟩
    refine bl_f rfl ?_
    exact ⟨_, _, .same, q⟩
noncomputable def oN (CN : Addr) : Option T3 → D
  | none => .non
  | some p => num CN p
theorem numled_ok {CN CT : Addr} {m : T4} {o : Option T3} {M : Sto} {Ψ : PD} {Ξ : XD → Sto → Prop} (sm : Sm 24 m) (hp : ∀ p, o = some p → Ib3 200 p ∧ p.2.2 = 0) (q : Ψ (oN CN (ledN m o)) M) : c_number_led CN CT [oN CN o, tab CT m] M Ψ Ξ := by
  cases o with
  | none =>
    refine ⟨m, sm, .inl ⟨rfl, fun h => ?_, fun h => ?_⟩⟩
    · unfold ledN at q; rw [if_neg h] at q; exact q
    · unfold ledN at q; rw [if_pos h] at q; exact q
  | some p =>
    obtain ⟨ib, p0⟩ := hp p rfl
    refine ⟨m, sm, .inr ⟨p, rfl, ib, fun _ => ⟨fun h => ?_, fun h => ?_⟩, fun h => absurd p0 h⟩⟩
    · unfold ledN at q; dsimp only at q; rw [if_pos p0, if_neg h] at q; exact q
    · unfold ledN at q; dsimp only at q; rw [if_pos p0, if_pos h] at q; exact q
theorem rown_ok {CR CN CT : Addr} {x : List Nat} {c : Nat} {M : Sto} {Ψ : PD} {Ξ : XD → Sto → Prop} (h : FrR x c) (q : Ψ (oN CN (numR x [c])) M) : c_Row_number CR CN CT [row CR x [c]] M Ψ Ξ :=
  ⟨x, [c], rfl, h.nr, h.lx, h.lr, by have := h.sx; omega, by show 1 ≤ 11; decide, fun p e => by rw [e] at q; exact q, fun e => by rw [e] at q; exact q⟩
def c_leads (CT CR CN : Addr) : Ct := fun ds M Ψ _ => ∃ m x c u e, ds = [tab CT m, row CR x [c], row CR u [e]] ∧ Sm 24 m ∧ det4 m ≠ 0 ∧ FrR x c ∧ FrR u e ∧ ledN m (numR x [c]) = numR u [e] ∧ Ψ (.bl (decide (c = e) == decide (0 < det4 m))) M
theorem ok_leads {f : Addr} {fd : FuncData} {dvs : List V} {kws : List (Str × V)} (T : Txt K mg) (h_number_led : Gf P w K mg base "number_led" 6 (c_number_led (He.ga K "Number") (He.ga K "Table")) b_number_led) (h_Row_number : Mf P w K mg base (He.ga K "Row") "number" 7 (c_Row_number (He.ga K "Row") (He.ga K "Number") (He.ga K "Table")) b_Row_number) (h_Numberd_eqd : Mf P w K mg base (He.ga K "Number") "__eq__" 2 (c_Numberd_eqd (He.ga K "Number")) b_Numberd_eqd) (h_is_root : Gf P w K mg base "is_root" 4 (c_is_root (He.ga K "Row")) b_is_root) (h_Row_ring : Pf P w K mg base (He.ga K "Row") "ring" 2 (c_Row_ring (He.ga K "Row"))) (h_Table_determinant : Pf P w K mg base (He.ga K "Table") "determinant" 2 (c_Table_determinant (He.ga K "Table"))) (F : FnZ K "leads" "leads" s_leads dvs kws f fd) : FnOk P w K mg base (L2.CX P w) 8 f fd ["table", "row", "other"] (spC K (["table", "row", "other"] : List Str).length (c_leads (He.ga K "Table") (He.ga K "Row") (He.ga K "Number"))) := by
  have hnd := sc_leads.nd
  refine fnD F sc_leads (c_leads (He.ga K "Table") (He.ga K "Row") (He.ga K "Number")) fun cdv A outer s H E B Ξ hr z => ⟨_, (dss_cons (ds_if (dw_or (dt_ne hr (de_call h_is_root hr z (List.Mem.head _) (da_cons (de_var (i := 1)) da_nil)) (de_call h_is_root hr z (List.Mem.head _) (da_cons (de_var (i := 2)) da_nil))) (dw_or1 (dt_alt (dt_ownNe h_Numberd_eqd T.cf_Number mono_Numberd_eqd hr (List.Mem.head _) (de_call h_number_led hr z (List.Mem.head _) (da_cons (de_meth0 h_Row_number T.cl_Row hr z (List.Mem.head _) (de_var (i := 1))) (da_cons (de_var (i := 0)) da_nil))) (de_meth0 h_Row_number T.cl_Row hr z (List.Mem.head _) (de_var (i := 2)))) (dt_ne hr (de_call h_number_led hr z (List.Mem.head _) (da_cons (de_meth0 h_Row_number T.cl_Row hr z (List.Mem.head _) (de_var (i := 1))) (da_cons (de_var (i := 0)) da_nil))) (de_meth0 h_Row_number T.cl_Row hr z (List.Mem.head _) (de_var (i := 2))))))).pt (dss_one (ds_ret de_bl)) dss_nil)
    (dss_one (ds_ret (de_or (de_call h_is_root hr z (List.Mem.head _) (da_cons (de_var (i := 1)) da_nil)) (de_and1 (de_eq hr (de_eq hr (de_prop h_Row_ring T.cl_Row hr (de_var (i := 1))) (de_prop h_Row_ring T.cl_Row hr (de_var (i := 2)))) (de_gt (de_prop h_Table_determinant T.cl_Table hr (de_var (i := 0))) de_int))))))), fun ds Ψ hl hc => ?_⟩
  obtain ⟨m, x, c, u, e, rfl, sm, hd, hx, hu, hl, q⟩ := hc
  rw [show ent (["table", "row", "other"] : List Str).length [tab (He.ga K "Table") m, row (He.ga K "Row") x [c], row (He.ga K "Row") u [e]] = [some (tab (He.ga K "Table") m), some (row (He.ga K "Row") x [c]), some (row (He.ga K "Row") u [e])] from rfl]
  try dsimp only [List.set, getS_z, getS_s, bin2, bin2T, ltD, leD, gtD, geD, cmp_i, add_i, sub_i, min2_i, max2_i]
  have l1 : LR [c] := fun z hz => by simp only [List.mem_singleton] at hz; rw [hz]; exact hx.kc
  have l2 : LR [e] := fun z hz => by simp only [List.mem_singleton] at hz; rw [hz]; exact hu.kc
  have r1 : isRt [c] = false := by unfold isRt; rcases hx.kc with rfl | rfl <;> decide
  have r2 : isRt [e] = false := by unfold isRt; rcases hu.kc with rfl | rfl <;> decide
  refine ⟨rfl, rfl, x, [c], rfl, l1, rfl, rfl, u, [e], rfl, l2, ?_⟩
  rw [r1, r2]
  refine ne_bb ?_
  refine bl_f rfl (ite_f rfl ?_)
  have hp : ∀ p, numR x [c] = some p → Ib3 200 p ∧ p.2.2 = 0 := fun p e => ⟨hx.ib e, hx.p0 e⟩
  cases hL : numR u [e] with
  | none =>
    refine .inr ⟨rfl, rfl, rfl, rfl, rown_ok hx ⟨rfl, rfl, numled_ok sm hp ?_⟩⟩
    rw [hl, hL]
    refine ⟨rfl, rfl, rfl, rfl, rown_ok hu ?_⟩
    rw [hL]
    refine neSelf (n := 0) .non ?_
    refine bl_f rfl (ite_f rfl ?_)
    refine ⟨rfl, rfl, x, [c], rfl, l1, ?_⟩
    rw [r1]
    refine bl_f rfl (ite_f rfl ?_)
    refine ⟨rfl, x, [c], rfl, rfl, u, [e], rfl, ?_⟩
    refine eq_w ?_
    refine ⟨rfl, m, 24, rfl, by decide, by decide, sm, ?_⟩
    refine eqB ?_
    rw [show (decide ([c] = [e])) = decide (c = e) from decide_eq_decide.mpr ⟨fun z => by cases z; rfl, fun z => by rw [z]⟩]
    exact ⟨_, _, .same, q⟩
  | some p2 =>
    refine .inl ⟨rfl, rfl, rfl, rfl, rown_ok hx ⟨rfl, rfl, numled_ok sm hp ?_⟩⟩
    rw [hl, hL]
    refine ⟨rfl, rfl, rfl, rfl, rown_ok hu ?_⟩
    rw [hL]
    refine ⟨rfl, .inl ⟨_, rfl⟩, _, _, rfl, .inl ⟨_, rfl, ?_⟩⟩
    refine bl_t (by simp) ?_
    refine bl_f rfl (ite_f rfl ?_)
    refine ⟨rfl, rfl, x, [c], rfl, l1, ?_⟩
    rw [r1]
    refine bl_f rfl (ite_f rfl ?_)
    refine ⟨rfl, x, [c], rfl, rfl, u, [e], rfl, ?_⟩
    refine eq_w ?_
    refine ⟨rfl, m, 24, rfl, by decide, by decide, sm, ?_⟩
    refine eqB ?_
    rw [show (decide ([c] = [e])) = decide (c = e) from decide_eq_decide.mpr ⟨fun z => by cases z; rfl, fun z => by rw [z]⟩]
    exact ⟨_, _, .same, q⟩
def c_Link_holds (C CR CT : Addr) : Ct := fun ds M Ψ _ => ∃ x c u e, ds = [lkD C CT (row CR x [c]) (row CR u [e]) (upO x c u e) (dnO x c u e)] ∧ FrR x c ∧ FrR u e ∧ Ψ (.bl true) M
theorem ok_Link_holds {f : Addr} {fd : FuncData} {dvs : List V} {kws : List (Str × V)} (T : Txt K mg) (h_leads : Gf P w K mg base "leads" 8 (c_leads (He.ga K "Table") (He.ga K "Row") (He.ga K "Number")) b_leads) (h_Table_determinant : Pf P w K mg base (He.ga K "Table") "determinant" 2 (c_Table_determinant (He.ga K "Table"))) (F : FnZ K "holds" "Link.holds" s_Link_holds dvs kws f fd) : FnOk P w K mg base (L2.CX P w) 9 f fd ["self"] (spC K (["self"] : List Str).length (c_Link_holds (He.ga K "Link") (He.ga K "Row") (He.ga K "Table"))) := by
  have hnd := sc_Link_holds.nd
  refine fnD F sc_Link_holds (c_Link_holds (He.ga K "Link") (He.ga K "Row") (He.ga K "Table")) fun cdv A outer s H E B Ξ hr z => ⟨_, (dss_cons (ds_for z.po rfl (di_tup (de_tup (da_cons (de_tup (da_cons (de_fld T.cl_Link T.na_Link_upper (de_var (i := 0))) (da_cons de_int da_nil))) (da_cons (de_tup (da_cons (de_fld T.cl_Link T.na_Link_lower (de_var (i := 0))) (da_cons (de_neg de_int) da_nil))) da_nil)))) (dg_tup (n := 2) rfl (dgs_cons (dg_name (i := 1) hnd) (dgs_cons (dg_name (i := 2) hnd) dgs_nil))) (dss_one (ds_if (dw_and (dt_isnt (de_var (i := 1)) de_non) (dw_and1 (dw_or (dt_lt (de_mul (de_prop h_Table_determinant T.cl_Table hr (de_var (i := 1))) (de_var (i := 2))) de_int) (dw_or1 (dt_not (dt_val (de_call h_leads hr z (List.Mem.head _) (da_cons (de_var (i := 1)) (da_cons (de_fld T.cl_Link T.na_Link_own_row (de_var (i := 0))) (da_cons (de_fld T.cl_Link T.na_Link_own_other (de_var (i := 0))) da_nil)))))))).pt)).pt (dss_one (ds_ret de_bl)) dss_nil)))
    (dss_one (ds_ret (de_or (de_isnt (de_fld T.cl_Link T.na_Link_upper (de_var (i := 0))) de_non) (de_and1 (de_isnt (de_fld T.cl_Link T.na_Link_lower (de_var (i := 0))) de_non)))))), fun ds Ψ hl hc => ?_⟩
  obtain ⟨x, c, u, e, rfl, hx, hu, q⟩ := hc
  rw [show ent (["self", "table", "sign"] : List Str).length [lkD (He.ga K "Link") (He.ga K "Table") (row (He.ga K "Row") x [c]) (row (He.ga K "Row") u [e]) (upO x c u e) (dnO x c u e)] = [some (lkD (He.ga K "Link") (He.ga K "Table") (row (He.ga K "Row") x [c]) (row (He.ga K "Row") u [e]) (upO x c u e) (dnO x c u e)), none, none] from rfl]
  have hs := lkT_sm (c := c) (e := e) hx.sx hu.sx
  have hl := lkT_led hx hu
  have hd := lkT_det x c u e
  have hup : ∀ t, upO x c u e = some t → Sm 24 t := fun t z => by unfold upO at z; split at z <;> cases z; exact hs
  have one : ∀ (o : Option T4) (sg : Int) (i : Nat) (o1 o2 : Option D) (Φ : En → Sto → Prop), (o = none ∨ (o = some (lkT x c u e) ∧ sg = if c = e then 1 else -1)) → True := fun _ _ _ _ _ _ _ => trivial
  clear one hup
  refine forD_n (xs := [.tup [tbO (He.ga K "Table") (upO x c u e), .int 1], .tup [tbO (He.ga K "Table") (dnO x c u e), .int (-1)]]) (S := _) (fun K h => ⟨rfl, optK_of (d := tbO (He.ga _ "Table") (upO x c u e)) rfl ⟨ln (n := 2) rfl (by decide), rfl, optK_of (d := tbO (He.ga _ "Table") (dnO x c u e)) rfl ⟨ln (n := 2) rfl (by decide), ln (n := 2) rfl (by decide), _, rfl, h⟩⟩⟩) (fun i r M' => M' = B.M ∧ ∃ o1 o2, r = [some (lkD (He.ga K "Link") (He.ga K "Table") (row (He.ga K "Row") x [c]) (row (He.ga K "Row") u [e]) (upO x c u e) (dnO x c u e)), o1, o2]) ⟨rfl, _, _, rfl⟩ (fun _ _ _ _ => trivial) (fun i d r M' hd' hI => ?_) (fun r M' h => ?_)
  rotate_left
  · obtain ⟨rfl, o1, o2, rfl⟩ := h
    try dsimp only [List.set, getS_z, getS_s, bin2, bin2T, ltD, leD, gtD, geD, cmp_i, add_i, sub_i, min2_i, max2_i]
    refine ⟨rfl, optK_of (d := tbO (He.ga K "Table") (upO x c u e)) rfl ?_⟩
    by_cases h : c = e
    · unfold upO
      rw [if_pos h]
      exact bl_t rfl (ite_t rfl ⟨_, _, .same, q⟩)
    · unfold upO
      rw [if_neg h]
      refine bl_f rfl (ite_f rfl ?_)
      refine ⟨rfl, optK_of (d := tbO (He.ga K "Table") (dnO x c u e)) rfl ?_⟩
      unfold dnO
      rw [if_neg h]
      exact ⟨_, _, .same, q⟩
  obtain ⟨rfl, o1, o2, rfl⟩ := hI
  have hitem : ∃ o sg, d = .tup [tbO (He.ga K "Table") o, .int sg] ∧ (o = none ∨ (o = some (lkT x c u e) ∧ sg = if c = e then 1 else -1)) := by
    have hm := lmem hd'
    simp only [List.mem_cons, List.not_mem_nil, or_false] at hm
    unfold upO dnO at hm
    rcases hm with rfl | rfl
    · refine ⟨_, _, rfl, ?_⟩
      split
      · exact .inr ⟨rfl, rfl⟩
      · exact .inl rfl
    · refine ⟨_, _, rfl, ?_⟩
      split
      · exact .inl rfl
      · exact .inr ⟨rfl, rfl⟩
  obtain ⟨o, sg, rfl, ho⟩ := hitem
  show (tupN 2 _ (.tup [tbO (He.ga K "Table") o, .int sg]) _ _ _)
  dsimp only [tupN]
  refine ⟨rfl, rfl, ?_⟩
  try dsimp only [List.set, getS_z, getS_s, bin2, bin2T, ltD, leD, gtD, geD, cmp_i, add_i, sub_i, min2_i, max2_i]
  rcases ho with rfl | ⟨rfl, rfl⟩
  · exact bl_f rfl (ite_f rfl (.of ⟨rfl, _, _, rfl⟩))
  refine bl_t rfl (ite_t rfl ?_)
  have hnz : det4 (lkT x c u e) ≠ 0 := by rw [hd]; split <;> decide
  refine ⟨rfl, _, 24, rfl, by decide, by decide, hs, ?_⟩
  try dsimp only
  rw [hd]
  have hmul : (if c = e then (1 : Int) else -1) * (if c = e then 1 else -1) = 1 := by split <;> rfl
  refine ⟨by split <;> exact IntMulOk.of_left (by decide), ?_⟩
  rw [hmul]
  refine bl_f (by decide) (ite_f rfl ?_)
  refine ⟨rfl, optK_of (d := row (He.ga K "Row") x [c]) rfl ⟨rfl, optK_of (d := row (He.ga K "Row") u [e]) rfl ?_⟩⟩
  refine ⟨rfl, rfl, _, x, c, u, e, rfl, hs, hnz, hx, hu, hl, ?_⟩
  have hb : (decide (c = e) == decide (0 < det4 (lkT x c u e))) = true := by
    rw [hd]
    by_cases h : c = e
    · rw [if_pos h]; simp [h]
    · rw [if_neg h]; simp [h]
  rw [hb]
  exact bl_t rfl (ite_f rfl (.of ⟨rfl, _, _, rfl⟩))
def c_Unlike_told (C : Addr) : Ct := fun ds M Ψ _ => ∃ d, ds = [d] ∧ Ψ (.str "unlike") M
theorem ok_Unlike_told {f : Addr} {fd : FuncData} {dvs : List V} {kws : List (Str × V)} (T : Txt K mg)  (F : FnZ K "told" "Unlike.told" s_Unlike_told dvs kws f fd) : FnOk P w K mg base (L2.CX P w) 2 f fd ["self"] (spC K (["self"] : List Str).length (c_Unlike_told (He.ga K "Unlike"))) := by
  have hnd := sc_Unlike_told.nd
  refine fnD F sc_Unlike_told (c_Unlike_told (He.ga K "Unlike")) fun cdv A outer s H E B Ξ hr z => ⟨_, (dss_one (ds_ret de_str)), fun ds Ψ hl hc => ?_⟩
  obtain ⟨d, rfl, q⟩ := hc
  exact ⟨_, _, .same, q⟩
def c_Link_up (C CT : Addr) : Ct := fun ds M Ψ _ => ∃ x y a b, ds = [lkD C CT x y a b] ∧ Ψ (tbO CT a) M
theorem ok_Link_up {f : Addr} {fd : FuncData} {dvs : List V} {kws : List (Str × V)} (T : Txt K mg)  (F : FnZ K "up" "Link.up" s_Link_up dvs kws f fd) : FnOk P w K mg base (L2.CX P w) 2 f fd ["self"] (spC K (["self"] : List Str).length (c_Link_up (He.ga K "Link") (He.ga K "Table"))) := by
  have hnd := sc_Link_up.nd
  refine fnD F sc_Link_up (c_Link_up (He.ga K "Link") (He.ga K "Table")) fun cdv A outer s H E B Ξ hr z => ⟨_, (dss_one (ds_ret (de_fld T.cl_Link T.na_Link_upper (de_var (i := 0))))), fun ds Ψ hl hc => ?_⟩
  obtain ⟨x, y, a, b, rfl, q⟩ := hc
  exact ⟨rfl, optK_of (d := tbO (He.ga K "Table") a) rfl ⟨_, _, .same, q⟩⟩
def c_Link_down (C CT : Addr) : Ct := fun ds M Ψ _ => ∃ x y a b, ds = [lkD C CT x y a b] ∧ Ψ (tbO CT b) M
theorem ok_Link_down {f : Addr} {fd : FuncData} {dvs : List V} {kws : List (Str × V)} (T : Txt K mg)  (F : FnZ K "down" "Link.down" s_Link_down dvs kws f fd) : FnOk P w K mg base (L2.CX P w) 2 f fd ["self"] (spC K (["self"] : List Str).length (c_Link_down (He.ga K "Link") (He.ga K "Table"))) := by
  have hnd := sc_Link_down.nd
  refine fnD F sc_Link_down (c_Link_down (He.ga K "Link") (He.ga K "Table")) fun cdv A outer s H E B Ξ hr z => ⟨_, (dss_one (ds_ret (de_fld T.cl_Link T.na_Link_lower (de_var (i := 0))))), fun ds Ψ hl hc => ?_⟩
  obtain ⟨x, y, a, b, rfl, q⟩ := hc
  exact ⟨rfl, optK_of (d := tbO (He.ga K "Table") b) rfl ⟨_, _, .same, q⟩⟩
def c_Link_told (C CT : Addr) : Ct := fun ds M Ψ _ => ∃ x y a b, ds = [lkD C CT x y a b] ∧ Ψ (.str (lkW a b)) M
theorem ok_Link_told {f : Addr} {fd : FuncData} {dvs : List V} {kws : List (Str × V)} (T : Txt K mg)  (F : FnZ K "told" "Link.told" s_Link_told dvs kws f fd) : FnOk P w K mg base (L2.CX P w) 2 f fd ["self"] (spC K (["self"] : List Str).length (c_Link_told (He.ga K "Link") (He.ga K "Table"))) := by
  have hnd := sc_Link_told.nd
  refine fnD F sc_Link_told (c_Link_told (He.ga K "Link") (He.ga K "Table")) fun cdv A outer s H E B Ξ hr z => ⟨_, (dss_one (ds_ret (de_fld T.cl_Link T.na_Link_words (de_var (i := 0))))), fun ds Ψ hl hc => ?_⟩
  obtain ⟨x, y, a, b, rfl, q⟩ := hc
  exact ⟨rfl, optK_of (d := .str (lkW a b)) rfl ⟨_, _, .same, q⟩⟩
theorem frr_of {a x y : List Nat} {c0 : Nat} (nf : NfR a [c0] x y) (hc : c0 = 76 ∨ c0 = 82) (la : LR a) (sa : a.length ≤ 6) (hx : x.length ≤ a.length) (hy : y.length ≤ 1) : ∃ c, y = [c] ∧ FrR x c := by
  have l0 : LR [c0] := fun z hz => by simp only [List.mem_singleton] at hz; rw [hz]; exact hc
  have lr := nf.lr la l0 (show 0 < 1 by decide)
  have hp := nf.nr.prim.pos
  obtain ⟨c, rfl⟩ : ∃ c, y = [c] := List.length_eq_one_iff.mp (by omega)
  exact ⟨c, rfl, nf.nr, lr.1, lr.2 c (by simp), by omega⟩
def c_law : Ct := fun ds M Ψ _ => ∃ ns, ds = [scr ns] ∧ ns.length ≤ 63 ∧ M = noM ∧ ∀ M', Ψ (.bl true) M'
theorem ok_law {f : Addr} {fd : FuncData} {dvs : List V} {kws : List (Str × V)} (T : Txt K mg) (h__law_hand : Gf P w K mg base "_law_hand" 2 (c__law_hand) b__law_hand) (h__law_normal : Gf P w K mg base "_law_normal" 2 (c__law_normal) b__law_normal) (h__law_word : Gf P w K mg base "_law_word" 4 (c__law_word) b__law_word) (h__law_of : Gf P w K mg base "_law_of" 3 (c__law_of) b__law_of) (h__law_root_line : Gf P w K mg base "_law_root_line" 5 (c__law_root_line) b__law_root_line) (h__law_row : Gf P w K mg base "_law_row" 6 (c__law_row (He.ga K "Row")) b__law_row) (h_link : Gf P w K mg base "link" 9 (c_link (He.ga K "Link") (He.ga K "Unlike") (He.ga K "Row") (He.ga K "Table")) b_link) (h__law_same : Gf P w K mg base "_law_same" 5 (c__law_same 4) b__law_same) (h_Unlike_linked : Pf P w K mg base (He.ga K "Unlike") "linked" 2 (c_Unlike_linked (He.ga K "Unlike"))) (h_Link_linked : Pf P w K mg base (He.ga K "Link") "linked" 2 (c_Link_linked (He.ga K "Link"))) (h_Unlike_holds : Mf P w K mg base (He.ga K "Unlike") "holds" 9 (c_Unlike_holds (He.ga K "Unlike") (He.ga K "Row")) b_Unlike_holds) (h_Link_holds : Mf P w K mg base (He.ga K "Link") "holds" 9 (c_Link_holds (He.ga K "Link") (He.ga K "Row") (He.ga K "Table")) b_Link_holds) (h_Unlike_told : Mf P w K mg base (He.ga K "Unlike") "told" 2 (c_Unlike_told (He.ga K "Unlike")) b_Unlike_told) (h_Link_up : Pf P w K mg base (He.ga K "Link") "up" 2 (c_Link_up (He.ga K "Link") (He.ga K "Table"))) (h_Link_down : Pf P w K mg base (He.ga K "Link") "down" 2 (c_Link_down (He.ga K "Link") (He.ga K "Table"))) (h_leads : Gf P w K mg base "leads" 8 (c_leads (He.ga K "Table") (He.ga K "Row") (He.ga K "Number")) b_leads) (h_Table_determinant : Pf P w K mg base (He.ga K "Table") "determinant" 2 (c_Table_determinant (He.ga K "Table"))) (h_Link_told : Mf P w K mg base (He.ga K "Link") "told" 2 (c_Link_told (He.ga K "Link") (He.ga K "Table")) b_Link_told) (F : FnZ K "law" "law" s_law dvs kws f fd) : FnOk P w K mg base (L2.CX P w) 10 f fd ["_law_script"] (spC K (["_law_script"] : List Str).length (c_law)) := by
  have hnd := sc_law.nd
  refine fnD F sc_law (c_law) fun cdv A outer s H E B Ξ hr z => ⟨_, (dss_cons (ds_set (i := 1) hnd (de_call h__law_hand hr z (List.Mem.head _) (da_cons (de_var (i := 0)) da_nil)))
    (dss_cons (ds_for z.po rfl (di_range1 T.n_range (da_cons de_int da_nil)) (dg_name (i := 2) hnd) (dss_cons (ds_set (i := 3) hnd (de_call h__law_normal hr z (List.Mem.head _) (da_cons (de_call h__law_word hr z (List.Mem.head _) (da_cons (de_var (i := 1)) (da_cons de_int da_nil))) (da_cons (de_call h__law_of hr z (List.Mem.head _) (da_cons (de_var (i := 1)) (da_cons de_str da_nil))) da_nil))))
    (dss_cons (ds_set (i := 4) hnd (de_call h__law_of hr z (List.Mem.head _) (da_cons (de_var (i := 1)) (da_cons (de_lst (da_cons (de_call h__law_normal hr z (List.Mem.head _) (da_cons (de_call h__law_word hr z (List.Mem.head _) (da_cons (de_var (i := 1)) (da_cons de_int da_nil))) (da_cons (de_call h__law_of hr z (List.Mem.head _) (da_cons (de_var (i := 1)) (da_cons de_str da_nil))) da_nil))) (da_cons (de_call h__law_root_line hr z (List.Mem.head _) (da_cons (de_var (i := 1)) (da_cons de_int da_nil))) da_nil))) da_nil))))
    (dss_cons (ds_par (i := 5) (j := 6) rfl hnd (da_cons (de_call h__law_row hr z (List.Mem.head _) (da_cons (de_var (i := 3)) da_nil)) (da_cons (de_call h__law_row hr z (List.Mem.head _) (da_cons (de_var (i := 4)) da_nil)) da_nil)))
    (dss_cons (ds_set (i := 7) hnd (de_callK0 h_link hr z (List.Mem.head _) (dk_cons (de_var (i := 6)) (dk_cons (de_var (i := 5)) dk_nil))))
    (dss_cons (ds_if (dt_nin hr (de_ix (de_var (i := 4)) de_int) (de_tup (da_cons de_str (da_cons de_str da_nil)))) (dss_cons (ds_if (dt_not (dt_val (de_call h__law_same hr z (List.Mem.head _) (da_cons (de_lst (da_cons (de_alt (de_prop h_Unlike_linked T.cl_Unlike hr (de_var (i := 7))) (de_prop h_Link_linked T.cl_Link hr (de_var (i := 7)))) (da_cons (de_alt (de_meth0 h_Unlike_holds T.cl_Unlike hr z (List.Mem.head _) (de_var (i := 7))) (de_meth0 h_Link_holds T.cl_Link hr z (List.Mem.head _) (de_var (i := 7)))) (da_cons (de_meth0 h_Unlike_told T.cl_Unlike hr z (List.Mem.head _) (de_call h_link hr z (List.Mem.tail _ (List.Mem.head _)) (da_cons (de_var (i := 6)) (da_cons (de_var (i := 5)) da_nil)))) da_nil)))) (da_cons (de_lst (da_cons de_bl (da_cons de_bl (da_cons de_str da_nil)))) da_nil))))) (dss_one (ds_ret de_bl)) dss_nil)
    (dss_one ds_cont)) dss_nil)
    (dss_cons (ds_set (i := 8) hnd (de_eq hr (de_ix (de_var (i := 3)) de_int) (de_ix (de_var (i := 4)) de_int)))
    (dss_cons (ds_if (dt_not (dt_val (de_call h__law_same hr z (List.Mem.head _) (da_cons (de_lst (da_cons (de_alt (de_prop h_Unlike_linked T.cl_Unlike hr (de_var (i := 7))) (de_prop h_Link_linked T.cl_Link hr (de_var (i := 7)))) (da_cons (de_alt (de_meth0 h_Unlike_holds T.cl_Unlike hr z (List.Mem.head _) (de_var (i := 7))) (de_meth0 h_Link_holds T.cl_Link hr z (List.Mem.head _) (de_var (i := 7)))) (da_cons (de_is (de_prop h_Link_up T.cl_Link hr (de_var (i := 7))) de_non) (da_cons (de_is (de_prop h_Link_down T.cl_Link hr (de_var (i := 7))) de_non) da_nil))))) (da_cons (de_lst (da_cons de_bl (da_cons de_bl (da_cons (de_not (de_var (i := 8))) (da_cons (de_var (i := 8)) da_nil))))) da_nil))))) (dss_one (ds_ret de_bl)) dss_nil)
    (dss_cons (ds_set (i := 9) hnd (de_if (dt_val (de_var (i := 8))) (de_prop h_Link_up T.cl_Link hr (de_var (i := 7))) (de_prop h_Link_down T.cl_Link hr (de_var (i := 7)))))
    (dss_cons (ds_if (dw_or (dt_ne hr (de_prop h_Table_determinant T.cl_Table hr (de_var (i := 9))) (de_if (dt_val (de_var (i := 8))) de_int (de_neg de_int))) (dw_or1 (dt_not (dt_val (de_call h_leads hr z (List.Mem.head _) (da_cons (de_var (i := 9)) (da_cons (de_var (i := 5)) (da_cons (de_var (i := 6)) da_nil)))))))).pt (dss_one (ds_ret de_bl)) dss_nil)
    (dss_one (ds_if (dt_not (dt_val (de_call h__law_same hr z (List.Mem.head _) (da_cons (de_meth0 h_Link_told T.cl_Link hr z (List.Mem.head _) (de_var (i := 7))) (da_cons (de_if (dt_val (de_var (i := 8))) de_str de_str) da_nil))))) (dss_one (ds_ret de_bl)) dss_nil))))))))))))
    (dss_one (ds_ret de_bl)))), fun ds Ψ hl hc => ?_⟩
  obtain ⟨ns, rfl, hl, hM, q⟩ := hc
  rw [show ent (["_law_script", "_law_hand_here", "_law_step", "_law_phrase", "_law_rival", "_law_path", "_law_goal", "_law_found", "_law_same_here", "_law_grid"] : List Str).length [scr ns] = [some (scr ns), none, none, none, none, none, none, none, none, none] from rfl]
  refine ⟨rfl, rfl, ns, rfl, hl, fun p h hp hc0 hi0 => ?_⟩
  have h0 : HandAt (updM B.M p (hd h)) p := ⟨h, updM_same, hc0, hi0⟩
  try dsimp only [List.set, getS_z, getS_s, bin2, bin2T, ltD, leD, gtD, geD, cmp_i, add_i, sub_i, min2_i, max2_i]
  refine forD_n (xs := rngD 0 8) (S := fun _ => True) (fun K h => ⟨⟨by decide, by decide⟩, h⟩) (fun i r M' => HandAt M' p ∧ ∃ o2 o3 o4 o5 o6 o7 o8 o9, r = [some (scr ns), some (.ref p), o2, o3, o4, o5, o6, o7, o8, o9]) ⟨h0, _, _, _, _, _, _, _, _, rfl⟩ (fun _ _ _ _ => trivial) (fun i d r M' hd hI => ?_) (fun r M' h => ?_)
  rotate_left
  · exact ⟨_, _, .same, q _⟩
  obtain ⟨hh, o2, o3, o4, o5, o6, o7, o8, o9, rfl⟩ := hI
  try dsimp only [List.set, getS_z, getS_s, bin2, bin2T, ltD, leD, gtD, geD, cmp_i, add_i, sub_i, min2_i, max2_i]
  have draw : ∀ {z : D}, z ∈ Z.signs "LR" → ∃ c, z = .str ⟨[c].toArray⟩ ∧ (c = 76 ∨ c = 82) := fun {z} hz => by
    obtain ⟨c, hc, rfl⟩ := signs_mem hz
    have : c ∈ ([76, 82] : List Nat) := hc
    simp only [List.mem_cons, List.not_mem_nil, or_false] at this
    exact ⟨c, rfl, this⟩
  refine ⟨rfl, rfl, p, 6, rfl, hh, by decide, by decide, fun a M1 la sa d1 => ?_⟩
  refine ⟨rfl, rfl, p, _, _, rfl, d1.1, rfl, by decide, by decide, fun z M2 hz d2 => ?_⟩
  obtain ⟨c0, rfl, hc0⟩ := draw hz
  have d2 := d1.trans d2
  refine ⟨rfl, rfl, a, [c0], rfl, by simp, by omega, by show 1 ≤ 20000; decide, fun x y nf hx hy => ?_⟩
  obtain ⟨c, rfl, hfx⟩ := frr_of nf hc0 la (by omega) hx hy
  try dsimp only [List.set, getS_z, getS_s, bin2, bin2T, ltD, leD, gtD, geD, cmp_i, add_i, sub_i, min2_i, max2_i]
  refine ⟨rfl, rfl, p, 6, rfl, d2.1, by decide, by decide, fun a2 M3 la2 sa2 d3 => ?_⟩
  have d3 := d2.trans d3
  refine ⟨rfl, rfl, p, _, _, rfl, d3.1, rfl, by decide, by decide, fun z2 M4 hz2 d4 => ?_⟩
  obtain ⟨e0, rfl, he0⟩ := draw hz2
  have d4 := d3.trans d4
  refine ⟨rfl, rfl, a2, [e0], rfl, by simp, by omega, by show 1 ≤ 20000; decide, fun u v nf2 hu hv => ?_⟩
  obtain ⟨e, rfl, hfu⟩ := frr_of nf2 he0 la2 (by omega) hu hv
  refine ⟨rfl, rfl, p, 4, rfl, d4.1, by decide, by decide, fun u2 v2 M5 lu2 lv2 nr2 su2 sv2 rt d5 => ?_⟩
  have d5 := d4.trans d5
  refine ⟨ln (n := 2) rfl (by decide), rfl, rfl, p, _, _, rfl, d5.1, rfl, (show 0 < 2 by decide), (show 2 ≤ 1000000 by decide), fun rv M6 hrv d6 => ?_⟩
  have d6 := d5.trans d6
  try dsimp only [List.set, getS_z, getS_s, bin2, bin2T, ltD, leD, gtD, geD, cmp_i, add_i, sub_i, min2_i, max2_i]
  refine ⟨rfl, rfl, x, [c], rfl, hfx.nr, hfx.lx, hfx.lr, by have := hfx.sx; omega, by show 1 ≤ 20000; decide, ?_⟩
  simp only [List.mem_cons, List.not_mem_nil, or_false] at hrv
  rcases hrv with rfl | rfl
  · refine ⟨rfl, rfl, u, [e], rfl, hfu.nr, hfu.lx, hfu.lr, by have := hfu.sx; omega, by show 1 ≤ 20000; decide, ?_⟩
    try dsimp only [List.set, getS_z, getS_s, bin2, bin2T, ltD, leD, gtD, geD, cmp_i, add_i, sub_i, min2_i, max2_i]
    refine ⟨rfl, rfl, .inl ⟨x, c, u, e, rfl, hfx, hfu, ?_⟩⟩
    try dsimp only [List.set, getS_z, getS_s, bin2, bin2T, ltD, leD, gtD, geD, cmp_i, add_i, sub_i, min2_i, max2_i]
    refine ⟨ln (n := 2) rfl (by decide), nin_LR hfu.lr ?_⟩
    have r2 : isRt [e] = false := by unfold isRt; rcases hfu.kc with rfl | rfl <;> decide
    rw [r2]
    refine bl_f rfl (ite_f rfl ?_)
    refine eq_w (s := [c]) (t := [e]) ?_
    try dsimp only [List.set, getS_z, getS_s, bin2, bin2T, ltD, leD, gtD, geD, cmp_i, add_i, sub_i, min2_i, max2_i]
    have ice : decide ([c] = [e]) = decide (c = e) := decide_eq_decide.mpr ⟨fun y => by cases y; rfl, fun y => by rw [y]⟩
    rw [ice]
    refine .inr ⟨rfl, _, rfl, ?_⟩
    refine .inr ⟨rfl, rfl, rfl, rfl, x, c, u, e, rfl, hfx, hfu, ?_⟩
    by_cases h : c = e
    · have eu : upO x c u e = some (lkT x c u e) := by unfold upO; rw [if_pos h]
      have ed : dnO x c u e = none := by unfold dnO; rw [if_pos h]
      have eq_ : decide (c = e) = true := decide_eq_true h
      have edt : det4 (lkT x c u e) = 1 := by rw [lkT_det, if_pos h]
      have hsT := lkT_sm (c := c) (e := e) hfx.sx hfu.sx
      have hll := lkT_led hfx hfu
      rw [eu, ed, eq_]
      refine ⟨rfl, _, _, some (lkT x c u e), none, rfl, ?_⟩
      refine ⟨rfl, _, _, some (lkT x c u e), none, rfl, ?_⟩
      refine ⟨ln (n := 4) rfl (by decide), ?_⟩
      refine bl_t rfl ?_
      refine ⟨ln (n := 4) rfl (by decide), rfl, rfl, _, _, rfl, Same.l (.cons (Same.b _) (.cons (Same.b _) (.cons (Same.b _) (.cons (Same.b _) .nil)))) (show 4 ≤ 1000000 by decide), ?_⟩
      refine bl_t rfl (ite_f rfl ?_)
      refine bl_t rfl ?_
      refine ite_t rfl ?_
      refine ⟨rfl, _, _, some (lkT x c u e), none, rfl, ?_⟩
      try dsimp only [List.set, getS_z, getS_s, bin2, bin2T, ltD, leD, gtD, geD, cmp_i, add_i, sub_i, min2_i, max2_i]
      refine ⟨rfl, _, 24, rfl, by decide, by decide, hsT, ?_⟩
      try dsimp only
      rw [edt]
      refine bl_t rfl (ite_t rfl ?_)
      refine neI (bl_f (by decide) (ite_f rfl ?_))
      refine ⟨rfl, rfl, _, x, c, u, e, rfl, hsT, (by rw [edt]; decide), hfx, hfu, hll, ?_⟩
      rw [edt, show (decide (c = e) == decide ((0 : Int) < 1)) = true from by rw [eq_]; rfl]
      refine bl_t rfl (ite_f rfl ?_)
      refine ⟨rfl, rfl, rfl, rfl, _, _, some (lkT x c u e), none, rfl, ?_⟩
      refine bl_t rfl (ite_t rfl ?_)
      have et : lkW (some (lkT x c u e)) none = "linked by 1 and none" := by
        unfold lkW
        rw [show dtx (some (lkT x c u e)) = istr 1 from by show istr (det4 (lkT x c u e)) = _; rw [edt]]
        decide +kernel
      rw [et]
      refine ⟨rfl, rfl, _, _, rfl, Same.s _, ?_⟩
      refine bl_t rfl (ite_f rfl ?_)
      exact .of ⟨d6.1, _, _, _, _, _, _, _, _, rfl⟩
    · have eu : upO x c u e = none := by unfold upO; rw [if_neg h]
      have ed : dnO x c u e = some (lkT x c u e) := by unfold dnO; rw [if_neg h]
      have eq_ : decide (c = e) = false := decide_eq_false h
      have edt : det4 (lkT x c u e) = -1 := by rw [lkT_det, if_neg h]
      have hsT := lkT_sm (c := c) (e := e) hfx.sx hfu.sx
      have hll := lkT_led hfx hfu
      rw [eu, ed, eq_]
      refine ⟨rfl, _, _, none, some (lkT x c u e), rfl, ?_⟩
      refine ⟨rfl, _, _, none, some (lkT x c u e), rfl, ?_⟩
      refine ⟨ln (n := 4) rfl (by decide), ?_⟩
      refine bl_f rfl ?_
      refine ⟨ln (n := 4) rfl (by decide), rfl, rfl, _, _, rfl, Same.l (.cons (Same.b _) (.cons (Same.b _) (.cons (Same.b _) (.cons (Same.b _) .nil)))) (show 4 ≤ 1000000 by decide), ?_⟩
      refine bl_t rfl (ite_f rfl ?_)
      refine bl_f rfl ?_
      refine ite_f rfl ?_
      refine ⟨rfl, _, _, none, some (lkT x c u e), rfl, ?_⟩
      try dsimp only [List.set, getS_z, getS_s, bin2, bin2T, ltD, leD, gtD, geD, cmp_i, add_i, sub_i, min2_i, max2_i]
      refine ⟨rfl, _, 24, rfl, by decide, by decide, hsT, ?_⟩
      try dsimp only
      rw [edt]
      refine bl_f rfl (ite_f rfl ?_)
      refine neI (bl_f (by decide) (ite_f rfl ?_))
      refine ⟨rfl, rfl, _, x, c, u, e, rfl, hsT, (by rw [edt]; decide), hfx, hfu, hll, ?_⟩
      rw [edt, show (decide (c = e) == decide ((0 : Int) < -1)) = true from by rw [eq_]; rfl]
      refine bl_t rfl (ite_f rfl ?_)
      refine ⟨rfl, rfl, rfl, rfl, _, _, none, some (lkT x c u e), rfl, ?_⟩
      refine bl_f rfl (ite_f rfl ?_)
      have et : lkW none (some (lkT x c u e)) = "linked by none and -1" := by
        unfold lkW
        rw [show dtx (some (lkT x c u e)) = istr (-1) from by show istr (det4 (lkT x c u e)) = _; rw [edt]]
        decide +kernel
      rw [et]
      refine ⟨rfl, rfl, _, _, rfl, Same.s _, ?_⟩
      refine bl_t rfl (ite_f rfl ?_)
      exact .of ⟨d6.1, _, _, _, _, _, _, _, _, rfl⟩
  · refine ⟨rfl, rfl, u2, v2, rfl, nr2, lu2, lv2, by omega, by omega, ?_⟩
    try dsimp only [List.set, getS_z, getS_s, bin2, bin2T, ltD, leD, gtD, geD, cmp_i, add_i, sub_i, min2_i, max2_i]
    have rx : isRt [c] = false := by unfold isRt; rcases hfx.kc with rfl | rfl <;> decide
    have ru : isRt v2 = true := decide_eq_true rt
    have nru : isRt [c] ≠ isRt v2 := by rw [rx, ru]; decide
    refine ⟨rfl, rfl, .inr ⟨x, [c], u2, v2, rfl, hfx.lr, lv2, (fun z => by rw [rx] at z; cases z), nru, ?_⟩⟩
    try dsimp only [List.set, getS_z, getS_s, bin2, bin2T, ltD, leD, gtD, geD, cmp_i, add_i, sub_i, min2_i, max2_i]
    refine ⟨ln (n := 2) rfl (by decide), nin_LR lv2 ?_⟩
    rw [ru]
    refine bl_t rfl (ite_t rfl ?_)
    refine .inl ⟨rfl, _, rfl, ?_⟩
    refine .inl ⟨rfl, rfl, rfl, rfl, x, [c], u2, v2, rfl, hfx.lr, lv2, (fun z => by rw [rx] at z; cases z), ?_⟩
    rw [show (isRt [c] != isRt v2) = true from by rw [rx, ru]; rfl]
    refine ⟨rfl, rfl, .inr ⟨u2, v2, x, [c], rfl, lv2, hfx.lr, (fun _ => rx), nru.symm, ?_⟩⟩
    refine ⟨rfl, rfl, rfl, rfl, _, rfl, ?_⟩
    refine ⟨ln (n := 3) rfl (by decide), ln (n := 3) rfl (by decide), rfl, rfl, _, _, rfl, Same.l (.cons (Same.b _) (.cons (Same.b _) (.cons (Same.s _) .nil))) (show 3 ≤ 1000000 by decide), ?_⟩
    refine bl_t rfl (ite_f rfl ?_)
    exact .of ⟨d6.1, _, _, _, _, _, _, _, _, rfl⟩
end
def fn : List DefZ := [⟨.g "_law_hand", "_law_hand", "_law_hand", s__law_hand, [], [], false⟩,
  ⟨.g "_law_normal", "_law_normal", "_law_normal", s__law_normal, [], [], false⟩,
  ⟨.g "_law_pick", "_law_pick", "_law_pick", s__law_pick, [], [], false⟩,
  ⟨.g "_law_of", "_law_of", "_law_of", s__law_of, [], [], false⟩,
  ⟨.g "_law_word", "_law_word", "_law_word", s__law_word, [], [], false⟩,
  ⟨.g "_law_root_line", "_law_root_line", "_law_root_line", s__law_root_line, [], [], false⟩,
  ⟨.g "is_word", "is_word", "is_word", s_is_word, [], [], false⟩,
  ⟨.g "check_word", "check_word", "check_word", s_check_word, [], [], false⟩,
  ⟨.g "least_ring", "least_ring", "least_ring", s_least_ring, [], [], false⟩,
  ⟨.mt "Row" "__init__", "__init__", "Row.__init__", s_Rowd_initd, [], [], false⟩,
  ⟨.g "_law_row", "_law_row", "_law_row", s__law_row, [], [], false⟩,
  ⟨.pr "Row" "ring", "ring", "Row.ring", s_Row_ring, [], [], false⟩,
  ⟨.g "is_root", "is_root", "is_root", s_is_root, [], [], false⟩,
  ⟨.g "is_square", "is_square", "is_square", s_is_square, [], [], false⟩,
  ⟨.mt "Table" "entries", "entries", "Table.entries", s_Table_entries, [], [], false⟩,
  ⟨.g "is_integer", "is_integer", "is_integer", s_is_integer, [], [], false⟩,
  ⟨.g "root_floor", "root_floor", "root_floor", s_root_floor, [], [], false⟩,
  ⟨.g "divisor_of", "divisor_of", "divisor_of", s_divisor_of, [], [], false⟩,
  ⟨.g "sign_of", "sign_of", "sign_of", s_sign_of, [], [], false⟩,
  ⟨.mt "Number" "__init__", "__init__", "Number.__init__", s_Numberd_initd, [.int 1], [("under", .int 0)], false⟩,
  ⟨.mt "Number" "led", "led", "Number.led", s_Number_led, [], [], false⟩,
  ⟨.g "number_led", "number_led", "number_led", s_number_led, [], [], false⟩,
  ⟨.g "product", "product", "product", s_product, [], [], false⟩,
  ⟨.g "word_table", "word_table", "word_table", s_word_table, [], [], false⟩,
  ⟨.mt "Table" "__init__", "__init__", "Table.__init__", s_Tabled_initd, [], [], false⟩,
  ⟨.sm "Table" "of_word", "of_word", "Table.of_word", s_Table_of_word, [], [], false⟩,
  ⟨.mt "Row" "number", "number", "Row.number", s_Row_number, [], [], false⟩,
  ⟨.pr "Number" "under", "under", "Number.under", s_Number_under, [], [], false⟩,
  ⟨.g "are_unlike", "are_unlike", "are_unlike", s_are_unlike, [], [], false⟩,
  ⟨.mt "Unlike" "__init__", "__init__", "Tie.__init__", s_Unliked_initd, [], [], false⟩,
  ⟨.g "root_tables", "root_tables", "root_tables", s_root_tables, [], [], false⟩,
  ⟨.g "least_tables", "least_tables", "least_tables", s_least_tables, [], [], false⟩,
  ⟨.mt "Tie" "__init__", "__init__", "Tie.__init__", s_Link_base, [], [], false⟩,
  ⟨.pr "Table" "determinant", "determinant", "Table.determinant", s_Table_determinant, [], [], false⟩,
  ⟨.g "determinant_text", "determinant_text", "determinant_text", s_determinant_text, [], [], false⟩,
  ⟨.mt "Link" "__init__", "__init__", "Link.__init__", s_Linkd_initd, [], [], true⟩,
  ⟨.mt "Table" "back", "back", "Table.back", s_Table_back, [], [], false⟩,
  ⟨.pr "Row" "lead", "lead", "Row.lead", s_Row_lead, [], [], false⟩,
  ⟨.g "table_with", "table_with", "table_with", s_table_with, [], [], false⟩,
  ⟨.g "link", "link", "link", s_link, [], [], false⟩,
  ⟨.g "_law_same", "_law_same", "_law_same", s__law_same, [], [], false⟩,
  ⟨.pr "Unlike" "linked", "linked", "Tie.linked", s_Unlike_linked, [], [], false⟩,
  ⟨.pr "Link" "linked", "linked", "Link.linked", s_Link_linked, [], [], false⟩,
  ⟨.mt "Unlike" "holds", "holds", "Unlike.holds", s_Unlike_holds, [], [], false⟩,
  ⟨.mt "Number" "__eq__", "__eq__", "Number.__eq__", s_Numberd_eqd, [], [], false⟩,
  ⟨.g "leads", "leads", "leads", s_leads, [], [], false⟩,
  ⟨.mt "Link" "holds", "holds", "Link.holds", s_Link_holds, [], [], false⟩,
  ⟨.mt "Unlike" "told", "told", "Unlike.told", s_Unlike_told, [], [], false⟩,
  ⟨.pr "Link" "up", "up", "Link.up", s_Link_up, [], [], false⟩,
  ⟨.pr "Link" "down", "down", "Link.down", s_Link_down, [], [], false⟩,
  ⟨.mt "Link" "told", "told", "Link.told", s_Link_told, [], [], false⟩,
  ⟨.g "law", "law", "law", s_law, [], [], false⟩,
  ⟨.mt "InvalidNumber" "__init__", "__init__", "InvalidNumber.__init__", s_InvalidNumber, [], [], false⟩,
  ⟨.mt "InvalidRing" "__init__", "__init__", "InvalidRing.__init__", s_InvalidRing, [], [], false⟩,
  ⟨.mt "InvalidTable" "__init__", "__init__", "InvalidTable.__init__", s_InvalidTable, [], [], false⟩,
  ⟨.mt "InvalidWord" "__init__", "__init__", "InvalidWord.__init__", s_InvalidWord, [], [], false⟩]
def fa : List FF := [isF (.free "range"),
  isF (.cls "Unlike"),
  isF (.cls "Link"),
  isF (.cls "Table"),
  isF (.noat "Link" "words"),
  isF (.noat "Table" "whole"),
  isF (.cls "Row"),
  cmpF "Number",
  isF (.noat "Row" "whole"),
  isF (.cls "Number"),
  isF (.noat "Number" "whole"),
  isF (.free "isinstance"),
  ownF "Number",
  isF (.glo "Number"),
  isF (.glo "Table"),
  isF (.free "int"),
  isF (.free "all"),
  isF (.free "abs"),
  isF (.free "bool"),
  tupF "NEUTRAL" [.int 1,.int 0,.int 0,.int 1],
  tupF "RIGHT" [.int 1,.int 1,.int 0,.int 1],
  tupF "LEFT" [.int 1,.int 0,.int 1,.int 1],
  isF (.str "TURNS" "LR"),
  isF (.free "str"),
  isF (.noat "Link" "lower"),
  isF (.noat "Link" "upper"),
  isF (.noat "Link" "own_row"),
  isF (.noat "Link" "own_other"),
  isF (.noat "Unlike" "own_row"),
  isF (.noat "Unlike" "own_other"),
  isF (.free "tuple"),
  isF (.free "list"),
  isF (.free "zip"),
  isF (.free "len"),
  tupF "SWAP" [.int 0,.int 1,.int 1,.int 0],
  isF (.free "super"),
  supF FILE "Link" "Tie",
  isF (.glo "law"),
  excF "InvalidNumber",
  isF (.glo "InvalidNumber"),
  isF (.meth "InvalidNumber" "__init__"),
  isF (.noat "InvalidNumber" "tag"),
  excF "InvalidRing",
  isF (.glo "InvalidRing"),
  isF (.meth "InvalidRing" "__init__"),
  isF (.noat "InvalidRing" "tag"),
  isF (.noat "InvalidRing" "given"),
  excF "InvalidTable",
  isF (.glo "InvalidTable"),
  isF (.meth "InvalidTable" "__init__"),
  isF (.noat "InvalidTable" "tag"),
  excF "InvalidWord",
  isF (.glo "InvalidWord"),
  isF (.meth "InvalidWord" "__init__"),
  isF (.noat "InvalidWord" "tag"),
  isF (.noat "InvalidWord" "given"),
  isF (.glo "_law_hand"),
  isF (.glo "_law_normal"),
  isF (.glo "_law_pick"),
  isF (.glo "_law_of"),
  isF (.glo "_law_word"),
  isF (.glo "_law_root_line"),
  isF (.glo "is_word"),
  isF (.glo "check_word"),
  isF (.glo "least_ring"),
  isF (.glo "Row"),
  isF (.mkr "Row"),
  isF (.glo "_law_row"),
  prF "Row" "ring",
  isF (.glo "is_root"),
  isF (.glo "is_square"),
  isF (.meth "Table" "entries"),
  isF (.glo "is_integer"),
  isF (.glo "root_floor"),
  isF (.glo "divisor_of"),
  isF (.glo "sign_of"),
  isF (.mkr "Number"),
  isF (.meth "Number" "led"),
  isF (.glo "number_led"),
  isF (.glo "product"),
  isF (.glo "word_table"),
  isF (.mkr "Table"),
  smF "Table" "of_word",
  isF (.meth "Row" "number"),
  prF "Number" "under",
  isF (.glo "are_unlike"),
  isF (.glo "Unlike"),
  isF (.mkr "Unlike"),
  isF (.glo "root_tables"),
  isF (.glo "least_tables"),
  prF "Table" "determinant",
  isF (.glo "determinant_text"),
  isF (.glo "Link"),
  isF (.mkr "Link"),
  isF (.meth "Table" "back"),
  prF "Row" "lead",
  isF (.glo "table_with"),
  isF (.glo "link"),
  isF (.glo "_law_same"),
  prF "Unlike" "linked",
  prF "Link" "linked",
  isF (.meth "Unlike" "holds"),
  isF (.meth "Number" "__eq__"),
  isF (.glo "leads"),
  isF (.meth "Link" "holds"),
  isF (.meth "Unlike" "told"),
  prF "Link" "up",
  prF "Link" "down",
  isF (.meth "Link" "told")]
structure Xx (l : PySem.W.OpenLaw) (w : World) (K : PySem.W.Frag) (h : Heap) (mg : Str → Option Value) (base : Heap) : Prop where
  KX : K.In h
  G : h.Ns mainGlobals mg
  c : SaysZ fa fn K
  PFX : l.prog = PySem.Challenge.pw_turnmill_k54_links_of_fractions
section
variable {l : PySem.W.OpenLaw} {w : World} {K : PySem.W.Frag} {h : Heap} {mg : Str → Option Value} {base : Heap}
theorem N_T (X : Xx l w K h mg base) : Txt K mg := {n_range := He.free_ok X.KX X.G (X.c.fact 0), cl_Unlike := He.cls_ok (X.c.fact 1), cl_Link := He.cls_ok (X.c.fact 2), cl_Table := He.cls_ok (X.c.fact 3), na_Link_words := He.noat_ok (X.c.fact 4), na_Table_whole := He.noat_ok (X.c.fact 5), cl_Row := He.cls_ok (X.c.fact 6), cf_Number := cmpF_ok (X.c.fact 7), na_Row_whole := He.noat_ok (X.c.fact 8), cl_Number := He.cls_ok (X.c.fact 9), na_Number_whole := He.noat_ok (X.c.fact 10), n_isinstance := He.free_ok X.KX X.G (X.c.fact 11), io_Number := ownF_ok (X.c.fact 12), gl_Number := He.glo_ok X.KX X.G (X.c.fact 13), gl_Table := He.glo_ok X.KX X.G (X.c.fact 14), n_int := He.free_ok X.KX X.G (X.c.fact 15), n_all := He.free_ok X.KX X.G (X.c.fact 16), n_abs := He.free_ok X.KX X.G (X.c.fact 17), n_bool := He.free_ok X.KX X.G (X.c.fact 18), k_NEUTRAL := tupF_ok X.KX X.G (X.c.fact 19) (.cons .int (.cons .int (.cons .int (.cons .int .nil)))), k_RIGHT := tupF_ok X.KX X.G (X.c.fact 20) (.cons .int (.cons .int (.cons .int (.cons .int .nil)))), k_LEFT := tupF_ok X.KX X.G (X.c.fact 21) (.cons .int (.cons .int (.cons .int (.cons .int .nil)))), k_TURNS := He.str_ok X.KX X.G (X.c.fact 22), n_str := He.free_ok X.KX X.G (X.c.fact 23), na_Link_lower := He.noat_ok (X.c.fact 24), na_Link_upper := He.noat_ok (X.c.fact 25), na_Link_own_row := He.noat_ok (X.c.fact 26), na_Link_own_other := He.noat_ok (X.c.fact 27), na_Unlike_own_row := He.noat_ok (X.c.fact 28), na_Unlike_own_other := He.noat_ok (X.c.fact 29), n_tuple := He.free_ok X.KX X.G (X.c.fact 30), n_list := He.free_ok X.KX X.G (X.c.fact 31), n_zip := He.free_ok X.KX X.G (X.c.fact 32), n_len := He.free_ok X.KX X.G (X.c.fact 33), k_SWAP := tupF_ok X.KX X.G (X.c.fact 34) (.cons .int (.cons .int (.cons .int (.cons .int .nil)))), n_super := He.free_ok X.KX X.G (X.c.fact 35), sup_Link := supF_ok (X.c.fact 36)}
theorem N_x_InvalidNumber (X : Xx l w K h mg base) : Xf l.prog w K mg base "InvalidNumber" (He.ga K "InvalidNumber") 0 (tag1 "InvalidNumber") := by
  obtain ⟨fd_InvalidNumber, F_InvalidNumber⟩ := X.c.def_ 52 (by rfl)
  exact ⟨excF_ok (X.c.fact 38), He.glo_ok X.KX X.G (X.c.fact 39), _, fd_InvalidNumber, _, (methF_ok (X.c.fact 40)).at_, beq_iff_eq.mp (methF_ok (X.c.fact 40)).fn, (x0_ok (fun_of F_InvalidNumber) (excF_ok (X.c.fact 38)) (He.noat_ok (X.c.fact 41)) rfl rfl sc_InvalidNumber rfl), (FunD.bindsN F_InvalidNumber (fun _ _ _ _ _ _ us h => match us, h with | [_], _ => rfl)), rfl⟩
theorem N_x_InvalidRing (X : Xx l w K h mg base) : Xf l.prog w K mg base "InvalidRing" (He.ga K "InvalidRing") 1 (tag2 "InvalidRing" "given") := by
  obtain ⟨fd_InvalidRing, F_InvalidRing⟩ := X.c.def_ 53 (by rfl)
  exact ⟨excF_ok (X.c.fact 42), He.glo_ok X.KX X.G (X.c.fact 43), _, fd_InvalidRing, _, (methF_ok (X.c.fact 44)).at_, beq_iff_eq.mp (methF_ok (X.c.fact 44)).fn, (x1_ok (fun_of F_InvalidRing) (excF_ok (X.c.fact 42)) (He.noat_ok (X.c.fact 45)) (He.noat_ok (X.c.fact 46)) rfl rfl sc_InvalidRing rfl rfl (by decide) (by decide)), (FunD.bindsN F_InvalidRing (fun _ _ _ _ _ _ us h => match us, h with | [_, _], _ => rfl)), rfl⟩
theorem N_x_InvalidTable (X : Xx l w K h mg base) : Xf l.prog w K mg base "InvalidTable" (He.ga K "InvalidTable") 0 (tag1 "InvalidTable") := by
  obtain ⟨fd_InvalidTable, F_InvalidTable⟩ := X.c.def_ 54 (by rfl)
  exact ⟨excF_ok (X.c.fact 47), He.glo_ok X.KX X.G (X.c.fact 48), _, fd_InvalidTable, _, (methF_ok (X.c.fact 49)).at_, beq_iff_eq.mp (methF_ok (X.c.fact 49)).fn, (x0_ok (fun_of F_InvalidTable) (excF_ok (X.c.fact 47)) (He.noat_ok (X.c.fact 50)) rfl rfl sc_InvalidTable rfl), (FunD.bindsN F_InvalidTable (fun _ _ _ _ _ _ us h => match us, h with | [_], _ => rfl)), rfl⟩
theorem N_x_InvalidWord (X : Xx l w K h mg base) : Xf l.prog w K mg base "InvalidWord" (He.ga K "InvalidWord") 1 (tag2 "InvalidWord" "given") := by
  obtain ⟨fd_InvalidWord, F_InvalidWord⟩ := X.c.def_ 55 (by rfl)
  exact ⟨excF_ok (X.c.fact 51), He.glo_ok X.KX X.G (X.c.fact 52), _, fd_InvalidWord, _, (methF_ok (X.c.fact 53)).at_, beq_iff_eq.mp (methF_ok (X.c.fact 53)).fn, (x1_ok (fun_of F_InvalidWord) (excF_ok (X.c.fact 51)) (He.noat_ok (X.c.fact 54)) (He.noat_ok (X.c.fact 55)) rfl rfl sc_InvalidWord rfl rfl (by decide) (by decide)), (FunD.bindsN F_InvalidWord (fun _ _ _ _ _ _ us h => match us, h with | [_, _], _ => rfl)), rfl⟩
theorem N_h__law_hand (X : Xx l w K h mg base) : Gf l.prog w K mg base "_law_hand" 2 (c__law_hand) b__law_hand := by
  obtain ⟨fd__law_hand, F__law_hand⟩ := X.c.def_ 0 (by rfl)
  exact gf_mk (He.glo_ok X.KX X.G (X.c.fact 56)) F__law_hand (ok__law_hand (N_T X) F__law_hand) (all_cons (bind0 F__law_hand 1 rfl (fun _ _ _ _ _ _ us h => match us, h with | [_], _ => rfl)) all_nil)
theorem N_h__law_normal (X : Xx l w K h mg base) : Gf l.prog w K mg base "_law_normal" 2 (c__law_normal) b__law_normal := by
  obtain ⟨fd__law_normal, F__law_normal⟩ := X.c.def_ 1 (by rfl)
  exact gf_mk (He.glo_ok X.KX X.G (X.c.fact 57)) F__law_normal (ok__law_normal (N_T X) F__law_normal) (all_cons (bind0 F__law_normal 2 rfl (fun _ _ _ _ _ _ us h => match us, h with | [_, _], _ => rfl)) all_nil)
theorem N_h__law_pick (X : Xx l w K h mg base) : Gf l.prog w K mg base "_law_pick" 2 (c__law_pick) b__law_pick := by
  obtain ⟨fd__law_pick, F__law_pick⟩ := X.c.def_ 2 (by rfl)
  exact gf_mk (He.glo_ok X.KX X.G (X.c.fact 58)) F__law_pick (ok__law_pick (N_T X) F__law_pick) (all_cons (bind0 F__law_pick 2 rfl (fun _ _ _ _ _ _ us h => match us, h with | [_, _], _ => rfl)) all_nil)
theorem N_h__law_of (X : Xx l w K h mg base) : Gf l.prog w K mg base "_law_of" 3 (c__law_of) b__law_of := by
  obtain ⟨fd__law_of, F__law_of⟩ := X.c.def_ 3 (by rfl)
  exact gf_mk (He.glo_ok X.KX X.G (X.c.fact 59)) F__law_of (ok__law_of (N_T X) (N_h__law_pick X) F__law_of) (all_cons (bind0 F__law_of 2 rfl (fun _ _ _ _ _ _ us h => match us, h with | [_, _], _ => rfl)) all_nil)
theorem N_h__law_word (X : Xx l w K h mg base) : Gf l.prog w K mg base "_law_word" 4 (c__law_word) b__law_word := by
  obtain ⟨fd__law_word, F__law_word⟩ := X.c.def_ 4 (by rfl)
  exact gf_mk (He.glo_ok X.KX X.G (X.c.fact 60)) F__law_word (ok__law_word (N_T X) (N_h__law_pick X) (N_h__law_of X) F__law_word) (all_cons (bind0 F__law_word 2 rfl (fun _ _ _ _ _ _ us h => match us, h with | [_, _], _ => rfl)) all_nil)
theorem N_h__law_root_line (X : Xx l w K h mg base) : Gf l.prog w K mg base "_law_root_line" 5 (c__law_root_line) b__law_root_line := by
  obtain ⟨fd__law_root_line, F__law_root_line⟩ := X.c.def_ 5 (by rfl)
  exact gf_mk (He.glo_ok X.KX X.G (X.c.fact 61)) F__law_root_line (ok__law_root_line (N_T X) (N_h__law_normal X) (N_h__law_word X) (N_h__law_of X) F__law_root_line) (all_cons (bind0 F__law_root_line 2 rfl (fun _ _ _ _ _ _ us h => match us, h with | [_, _], _ => rfl)) all_nil)
theorem N_h_is_word (X : Xx l w K h mg base) : Gf l.prog w K mg base "is_word" 2 (c_is_word) b_is_word := by
  obtain ⟨fd_is_word, F_is_word⟩ := X.c.def_ 6 (by rfl)
  exact gf_mk (He.glo_ok X.KX X.G (X.c.fact 62)) F_is_word (ok_is_word (N_T X) F_is_word) (all_cons (bind0 F_is_word 1 rfl (fun _ _ _ _ _ _ us h => match us, h with | [_], _ => rfl)) all_nil)
theorem N_h_check_word (X : Xx l w K h mg base) : Gf l.prog w K mg base "check_word" 3 (c_check_word (He.ga K "InvalidWord")) b_check_word := by
  obtain ⟨fd_check_word, F_check_word⟩ := X.c.def_ 7 (by rfl)
  exact gf_mk (He.glo_ok X.KX X.G (X.c.fact 63)) F_check_word (ok_check_word (N_T X) (N_h_is_word X) (N_x_InvalidWord X) F_check_word) (all_cons (bind0 F_check_word 1 rfl (fun _ _ _ _ _ _ us h => match us, h with | [_], _ => rfl)) all_nil)
theorem N_h_least_ring (X : Xx l w K h mg base) : Gf l.prog w K mg base "least_ring" 2 (c_least_ring) b_least_ring := by
  obtain ⟨fd_least_ring, F_least_ring⟩ := X.c.def_ 8 (by rfl)
  exact gf_mk (He.glo_ok X.KX X.G (X.c.fact 64)) F_least_ring (ok_least_ring (N_T X) F_least_ring) (all_cons (bind0 F_least_ring 1 rfl (fun _ _ _ _ _ _ us h => match us, h with | [_], _ => rfl)) all_nil)
theorem N_c_Row (X : Xx l w K h mg base) : Cf l.prog w K mg base "Row" (He.ga K "Row") 4 (c_Rowd_initd (He.ga K "Row") (He.ga K "InvalidWord") (He.ga K "InvalidRing")) b_Rowd_initd := by
  obtain ⟨fd_Rowd_initd, F_Rowd_initd⟩ := X.c.def_ 9 (by rfl)
  exact cf_mk (He.glo_ok X.KX X.G (X.c.fact 65)) (mkrF_ok (X.c.fact 66)) (ok_Rowd_initd (N_T X) (N_h_check_word X) (N_h_is_word X) (N_h_least_ring X) (N_x_InvalidRing X) F_Rowd_initd) (all_cons (bind0 F_Rowd_initd 3 rfl (fun _ _ _ _ _ _ us h => match us, h with | [_, _, _], _ => rfl)) all_nil)
theorem N_h__law_row (X : Xx l w K h mg base) : Gf l.prog w K mg base "_law_row" 6 (c__law_row (He.ga K "Row")) b__law_row := by
  obtain ⟨fd__law_row, F__law_row⟩ := X.c.def_ 10 (by rfl)
  exact gf_mk (He.glo_ok X.KX X.G (X.c.fact 67)) F__law_row (ok__law_row (N_T X) (N_c_Row X) F__law_row) (all_cons (bind0 F__law_row 1 rfl (fun _ _ _ _ _ _ us h => match us, h with | [_], _ => rfl)) all_nil)
theorem N_h_Row_ring (X : Xx l w K h mg base) : Pf l.prog w K mg base (He.ga K "Row") "ring" 2 (c_Row_ring (He.ga K "Row")) := by
  obtain ⟨fd_Row_ring, F_Row_ring⟩ := X.c.def_ 11 (by rfl)
  exact pf_mk (prF_ok (X.c.fact 68)) (ok_Row_ring (N_T X) F_Row_ring) (bind0 F_Row_ring 1 rfl (fun _ _ _ _ _ _ us h => match us, h with | [_], _ => rfl))
theorem N_h_is_root (X : Xx l w K h mg base) : Gf l.prog w K mg base "is_root" 4 (c_is_root (He.ga K "Row")) b_is_root := by
  obtain ⟨fd_is_root, F_is_root⟩ := X.c.def_ 12 (by rfl)
  exact gf_mk (He.glo_ok X.KX X.G (X.c.fact 69)) F_is_root (ok_is_root (N_T X) (N_h_Row_ring X) F_is_root) (all_cons (bind0 F_is_root 1 rfl (fun _ _ _ _ _ _ us h => match us, h with | [_], _ => rfl)) all_nil)
theorem N_h_is_square (X : Xx l w K h mg base) : Gf l.prog w K mg base "is_square" 2 (c_is_square) b_is_square := by
  obtain ⟨fd_is_square, F_is_square⟩ := X.c.def_ 13 (by rfl)
  exact gf_mk (He.glo_ok X.KX X.G (X.c.fact 70)) F_is_square (ok_is_square (N_T X) F_is_square) (all_cons (bind0 F_is_square 1 rfl (fun _ _ _ _ _ _ us h => match us, h with | [_], _ => rfl)) all_nil)
theorem N_h_Table_entries (X : Xx l w K h mg base) : Mf l.prog w K mg base (He.ga K "Table") "entries" 2 (c_Table_entries (He.ga K "Table")) b_Table_entries := by
  obtain ⟨fd_Table_entries, F_Table_entries⟩ := X.c.def_ 14 (by rfl)
  exact mf_mk (methF_ok (X.c.fact 71)) (ok_Table_entries (N_T X) F_Table_entries) (all_cons (bind0 F_Table_entries 1 rfl (fun _ _ _ _ _ _ us h => match us, h with | [_], _ => rfl)) all_nil)
theorem N_h_is_integer (X : Xx l w K h mg base) : Gf l.prog w K mg base "is_integer" 2 (c_is_integer) b_is_integer := by
  obtain ⟨fd_is_integer, F_is_integer⟩ := X.c.def_ 15 (by rfl)
  exact gf_mk (He.glo_ok X.KX X.G (X.c.fact 72)) F_is_integer (ok_is_integer (N_T X) F_is_integer) (all_cons (bind0 F_is_integer 1 rfl (fun _ _ _ _ _ _ us h => match us, h with | [_], _ => rfl)) all_nil)
theorem N_h_root_floor (X : Xx l w K h mg base) : Gf l.prog w K mg base "root_floor" 2 (c_root_floor) b_root_floor := by
  obtain ⟨fd_root_floor, F_root_floor⟩ := X.c.def_ 16 (by rfl)
  exact gf_mk (He.glo_ok X.KX X.G (X.c.fact 73)) F_root_floor (ok_root_floor (N_T X) F_root_floor) (all_cons (bind0 F_root_floor 1 rfl (fun _ _ _ _ _ _ us h => match us, h with | [_], _ => rfl)) all_nil)
theorem N_h_divisor_of (X : Xx l w K h mg base) : Gf l.prog w K mg base "divisor_of" 2 (c_divisor_of) b_divisor_of := by
  obtain ⟨fd_divisor_of, F_divisor_of⟩ := X.c.def_ 17 (by rfl)
  exact gf_mk (He.glo_ok X.KX X.G (X.c.fact 74)) F_divisor_of (ok_divisor_of (N_T X) F_divisor_of) (all_cons (bind0 F_divisor_of 1 rfl (fun _ _ _ _ _ _ us h => match us, h with | [_], _ => rfl)) all_nil)
theorem N_h_sign_of (X : Xx l w K h mg base) : Gf l.prog w K mg base "sign_of" 2 (c_sign_of) b_sign_of := by
  obtain ⟨fd_sign_of, F_sign_of⟩ := X.c.def_ 18 (by rfl)
  exact gf_mk (He.glo_ok X.KX X.G (X.c.fact 75)) F_sign_of (ok_sign_of (N_T X) F_sign_of) (all_cons (bind0 F_sign_of 1 rfl (fun _ _ _ _ _ _ us h => match us, h with | [_], _ => rfl)) all_nil)
theorem N_c_Number (X : Xx l w K h mg base) : Cf l.prog w K mg base "Number" (He.ga K "Number") 3 (c_Numberd_initd (He.ga K "Number") (He.ga K "InvalidNumber")) b_Numberd_initd := by
  obtain ⟨fd_Numberd_initd, F_Numberd_initd⟩ := X.c.def_ 19 (by rfl)
  exact cf_mk (He.glo_ok X.KX X.G (X.c.fact 13)) (mkrF_ok (X.c.fact 76)) (ok_Numberd_initd (N_T X) (N_h_is_integer X) (N_h_root_floor X) (N_h_divisor_of X) (N_h_sign_of X) (N_x_InvalidNumber X) F_Numberd_initd) (all_cons (bindk F_Numberd_initd 2 [] _ [.int 1] [.int 0] [("under", .int 0)] (fun G => (.cons .int .nil)) (fun G => (.cons .int .nil)) (List.cons_ne_nil _ _) (List.cons_ne_nil _ _) (fun q h => h) (fun us its ws h1 h2 h3 => match us, its, ws, h1, h2, h3 with | [_, _], [_, _], [], _, _, _ => rfl) (fun _ _ _ _ _ _ _ us its mv ws h1 h2 h3 h4 => match us, its, mv, ws, h1, h2, h3, h4 with | [_, _], [_], [_], [], _, _, _, _ => ⟨_, rfl, ⟨_, _, _, _, _, _, rfl, rfl, rfl⟩⟩)) (all_cons (bindk F_Numberd_initd 3 ["under"] _ [.int 1] [] [] (fun G => (.cons .int .nil)) (fun G => .nil) (List.cons_ne_nil _ _) (List.cons_ne_nil _ _) (fun q h => nomatch h) (fun us its ws h1 h2 h3 => match us, its, ws, h1, h2, h3 with | [_, _, _], [_], [_], _, _, _ => rfl) (fun _ _ _ _ _ _ _ us its mv ws h1 h2 h3 h4 => match us, its, mv, ws, h1, h2, h3, h4 with | [_, _, _], [_], [], [_], _, _, _, _ => ⟨_, rfl, rfl⟩)) (all_cons (bindk F_Numberd_initd 3 [] _ [.int 1] [.int 0] [("under", .int 0)] (fun G => (.cons .int .nil)) (fun G => (.cons .int .nil)) (List.cons_ne_nil _ _) (List.cons_ne_nil _ _) (fun q h => h) (fun us its ws h1 h2 h3 => match us, its, ws, h1, h2, h3 with | [_, _, _], [_, _], [], _, _, _ => rfl) (fun _ _ _ _ _ _ _ us its mv ws h1 h2 h3 h4 => match us, its, mv, ws, h1, h2, h3, h4 with | [_, _, _], [_], [_], [], _, _, _, _ => ⟨_, rfl, ⟨_, _, _, _, _, _, rfl, rfl, rfl⟩⟩)) all_nil)))
theorem N_h_Number_led (X : Xx l w K h mg base) : Mf l.prog w K mg base (He.ga K "Number") "led" 5 (c_Number_led (He.ga K "Number") (He.ga K "Table")) b_Number_led := by
  obtain ⟨fd_Number_led, F_Number_led⟩ := X.c.def_ 20 (by rfl)
  exact mf_mk (methF_ok (X.c.fact 77)) (ok_Number_led (N_T X) (N_h_Table_entries X) (N_c_Number X) (N_h_sign_of X) F_Number_led) (all_cons (bind0 F_Number_led 2 rfl (fun _ _ _ _ _ _ us h => match us, h with | [_, _], _ => rfl)) all_nil)
theorem N_h_number_led (X : Xx l w K h mg base) : Gf l.prog w K mg base "number_led" 6 (c_number_led (He.ga K "Number") (He.ga K "Table")) b_number_led := by
  obtain ⟨fd_number_led, F_number_led⟩ := X.c.def_ 21 (by rfl)
  exact gf_mk (He.glo_ok X.KX X.G (X.c.fact 78)) F_number_led (ok_number_led (N_T X) (N_h_Number_led X) (N_h_Table_entries X) (N_c_Number X) F_number_led) (all_cons (bind0 F_number_led 2 rfl (fun _ _ _ _ _ _ us h => match us, h with | [_, _], _ => rfl)) all_nil)
theorem N_h_product (X : Xx l w K h mg base) : Gf l.prog w K mg base "product" 2 (c_product) b_product := by
  obtain ⟨fd_product, F_product⟩ := X.c.def_ 22 (by rfl)
  exact gf_mk (He.glo_ok X.KX X.G (X.c.fact 79)) F_product (ok_product (N_T X) F_product) (all_cons (bind0 F_product 2 rfl (fun _ _ _ _ _ _ us h => match us, h with | [_, _], _ => rfl)) all_nil)
theorem N_h_word_table (X : Xx l w K h mg base) : Gf l.prog w K mg base "word_table" 3 (c_word_table) b_word_table := by
  obtain ⟨fd_word_table, F_word_table⟩ := X.c.def_ 23 (by rfl)
  exact gf_mk (He.glo_ok X.KX X.G (X.c.fact 80)) F_word_table (ok_word_table (N_T X) (N_h_product X) F_word_table) (all_cons (bind0 F_word_table 1 rfl (fun _ _ _ _ _ _ us h => match us, h with | [_], _ => rfl)) all_nil)
theorem N_c_Table (X : Xx l w K h mg base) : Cf l.prog w K mg base "Table" (He.ga K "Table") 3 (c_Tabled_initd (He.ga K "Table") (He.ga K "InvalidTable")) b_Tabled_initd := by
  obtain ⟨fd_Tabled_initd, F_Tabled_initd⟩ := X.c.def_ 24 (by rfl)
  exact cf_mk (He.glo_ok X.KX X.G (X.c.fact 14)) (mkrF_ok (X.c.fact 81)) (ok_Tabled_initd (N_T X) (N_h_is_integer X) (N_x_InvalidTable X) F_Tabled_initd) (all_cons (bind0 F_Tabled_initd 5 rfl (fun _ _ _ _ _ _ us h => match us, h with | [_, _, _, _, _], _ => rfl)) all_nil)
theorem N_h_Table_of_word (X : Xx l w K h mg base) : Sf l.prog w K mg base (He.ga K "Table") "of_word" 5 (c_Table_of_word (He.ga K "Table") (He.ga K "InvalidWord")) b_Table_of_word := by
  obtain ⟨fd_Table_of_word, F_Table_of_word⟩ := X.c.def_ 25 (by rfl)
  exact sf_mk (X.c.fact 82) F_Table_of_word (ok_Table_of_word (N_T X) (N_h_check_word X) (N_h_word_table X) (N_c_Table X) F_Table_of_word) (all_cons (bind0 F_Table_of_word 1 rfl (fun _ _ _ _ _ _ us h => match us, h with | [_], _ => rfl)) all_nil)
theorem N_h_Row_number (X : Xx l w K h mg base) : Mf l.prog w K mg base (He.ga K "Row") "number" 7 (c_Row_number (He.ga K "Row") (He.ga K "Number") (He.ga K "Table")) b_Row_number := by
  obtain ⟨fd_Row_number, F_Row_number⟩ := X.c.def_ 26 (by rfl)
  exact mf_mk (methF_ok (X.c.fact 83)) (ok_Row_number (N_T X) (N_h_number_led X) (N_h_Table_of_word X) (N_c_Number X) (N_h_word_table X) (N_h_Number_led X) F_Row_number) (all_cons (bind0 F_Row_number 1 rfl (fun _ _ _ _ _ _ us h => match us, h with | [_], _ => rfl)) all_nil)
theorem N_h_Number_under (X : Xx l w K h mg base) : Pf l.prog w K mg base (He.ga K "Number") "under" 2 (c_Number_under (He.ga K "Number")) := by
  obtain ⟨fd_Number_under, F_Number_under⟩ := X.c.def_ 27 (by rfl)
  exact pf_mk (prF_ok (X.c.fact 84)) (ok_Number_under (N_T X) F_Number_under) (bind0 F_Number_under 1 rfl (fun _ _ _ _ _ _ us h => match us, h with | [_], _ => rfl))
theorem N_h_are_unlike (X : Xx l w K h mg base) : Gf l.prog w K mg base "are_unlike" 8 (c_are_unlike (He.ga K "Row")) b_are_unlike := by
  obtain ⟨fd_are_unlike, F_are_unlike⟩ := X.c.def_ 28 (by rfl)
  exact gf_mk (He.glo_ok X.KX X.G (X.c.fact 85)) F_are_unlike (ok_are_unlike (N_T X) (N_h_is_root X) (N_h_is_square X) (N_h_Row_number X) (N_h_Number_under X) F_are_unlike) (all_cons (bind0 F_are_unlike 2 rfl (fun _ _ _ _ _ _ us h => match us, h with | [_, _], _ => rfl)) all_nil)
theorem N_c_Unlike (X : Xx l w K h mg base) : Cf l.prog w K mg base "Unlike" (He.ga K "Unlike") 2 (c_Unliked_initd (He.ga K "Unlike")) b_Unliked_initd := by
  obtain ⟨fd_Unliked_initd, F_Unliked_initd⟩ := X.c.def_ 29 (by rfl)
  exact cf_mk (He.glo_ok X.KX X.G (X.c.fact 86)) (mkrF_ok (X.c.fact 87)) (ok_Unliked_initd (N_T X) F_Unliked_initd) (all_cons (bind0 F_Unliked_initd 3 rfl (fun _ _ _ _ _ _ us h => match us, h with | [_, _, _], _ => rfl)) all_nil)
theorem N_h_root_tables (X : Xx l w K h mg base) : Gf l.prog w K mg base "root_tables" 2 (c_root_tables) b_root_tables := by
  obtain ⟨fd_root_tables, F_root_tables⟩ := X.c.def_ 30 (by rfl)
  exact gf_mk (He.glo_ok X.KX X.G (X.c.fact 88)) F_root_tables (ok_root_tables (N_T X) F_root_tables) (all_cons (bind0 F_root_tables 2 rfl (fun _ _ _ _ _ _ us h => match us, h with | [_, _], _ => rfl)) all_nil)
theorem N_h_least_tables (X : Xx l w K h mg base) : Gf l.prog w K mg base "least_tables" 2 (c_least_tables) b_least_tables := by
  obtain ⟨fd_least_tables, F_least_tables⟩ := X.c.def_ 31 (by rfl)
  exact gf_mk (He.glo_ok X.KX X.G (X.c.fact 89)) F_least_tables (ok_least_tables (N_T X) F_least_tables) (all_cons (bind0 F_least_tables 2 rfl (fun _ _ _ _ _ _ us h => match us, h with | [_, _], _ => rfl)) all_nil)
theorem N_SX_Link (X : Xx l w K h mg base) : SupX K FILE "Link" "Tie" := supF_ok (X.c.fact 36)
theorem N_M_Link (X : Xx l w K h mg base) : SupM l.prog w K mg base (He.ga K "Link") "__init__" 2 (c_Link_base (He.ga K "Link") (He.ga K "Row")) b_Link_base := by
  obtain ⟨fd_Link_base, F_Link_base⟩ := X.c.def_ 32 (by rfl)
  exact ⟨(N_SX_Link X).sub, _, fd_Link_base, _, (N_SX_Link X).up, (N_SX_Link X).ty, (N_SX_Link X).fn, (ok_Link_base (N_T X) F_Link_base), (all_cons (bind0 F_Link_base 3 rfl (fun _ _ _ _ _ _ us h => match us, h with | [_, _, _], _ => rfl)) all_nil)⟩
theorem N_h_Table_determinant (X : Xx l w K h mg base) : Pf l.prog w K mg base (He.ga K "Table") "determinant" 2 (c_Table_determinant (He.ga K "Table")) := by
  obtain ⟨fd_Table_determinant, F_Table_determinant⟩ := X.c.def_ 33 (by rfl)
  exact pf_mk (prF_ok (X.c.fact 90)) (ok_Table_determinant (N_T X) F_Table_determinant) (bind0 F_Table_determinant 1 rfl (fun _ _ _ _ _ _ us h => match us, h with | [_], _ => rfl))
theorem N_h_determinant_text (X : Xx l w K h mg base) : Gf l.prog w K mg base "determinant_text" 4 (c_determinant_text (He.ga K "Table")) b_determinant_text := by
  obtain ⟨fd_determinant_text, F_determinant_text⟩ := X.c.def_ 34 (by rfl)
  exact gf_mk (He.glo_ok X.KX X.G (X.c.fact 91)) F_determinant_text (ok_determinant_text (N_T X) (N_h_Table_determinant X) F_determinant_text) (all_cons (bind0 F_determinant_text 1 rfl (fun _ _ _ _ _ _ us h => match us, h with | [_], _ => rfl)) all_nil)
theorem N_c_Link (X : Xx l w K h mg base) : Cf l.prog w K mg base "Link" (He.ga K "Link") 5 (c_Linkd_initd (He.ga K "Link") (He.ga K "Table")) b_Linkd_initd := by
  obtain ⟨fd_Linkd_initd, F_Linkd_initd⟩ := X.c.defS 35 (by rfl)
  exact cf_mk (He.glo_ok X.KX X.G (X.c.fact 92)) (mkrF_ok (X.c.fact 93)) (ok_Linkd_initd (N_T X) (N_M_Link X) (N_h_determinant_text X) F_Linkd_initd (by rw [X.PFX]; kernel_rfl) (by rw [X.PFX]; kernel_rfl)) (all_cons (bind0S F_Linkd_initd 5 rfl (fun _ _ _ _ _ _ _ us h => match us, h with | [_, _, _, _, _], _ => rfl)) all_nil)
theorem N_h_Table_back (X : Xx l w K h mg base) : Mf l.prog w K mg base (He.ga K "Table") "back" 5 (c_Table_back (He.ga K "Table")) b_Table_back := by
  obtain ⟨fd_Table_back, F_Table_back⟩ := X.c.def_ 36 (by rfl)
  exact mf_mk (methF_ok (X.c.fact 94)) (ok_Table_back (N_T X) (N_c_Table X) F_Table_back) (all_cons (bind0 F_Table_back 1 rfl (fun _ _ _ _ _ _ us h => match us, h with | [_], _ => rfl)) all_nil)
theorem N_h_Row_lead (X : Xx l w K h mg base) : Pf l.prog w K mg base (He.ga K "Row") "lead" 2 (c_Row_lead (He.ga K "Row")) := by
  obtain ⟨fd_Row_lead, F_Row_lead⟩ := X.c.def_ 37 (by rfl)
  exact pf_mk (prF_ok (X.c.fact 95)) (ok_Row_lead (N_T X) F_Row_lead) (bind0 F_Row_lead 1 rfl (fun _ _ _ _ _ _ us h => match us, h with | [_], _ => rfl))
theorem N_h_table_with (X : Xx l w K h mg base) : Gf l.prog w K mg base "table_with" 5 (c_table_with (He.ga K "Table")) b_table_with := by
  obtain ⟨fd_table_with, F_table_with⟩ := X.c.def_ 38 (by rfl)
  exact gf_mk (He.glo_ok X.KX X.G (X.c.fact 96)) F_table_with (ok_table_with (N_T X) (N_c_Table X) F_table_with) (all_cons (bind0 F_table_with 1 rfl (fun _ _ _ _ _ _ us h => match us, h with | [_], _ => rfl)) all_nil)
theorem N_h_link (X : Xx l w K h mg base) : Gf l.prog w K mg base "link" 9 (c_link (He.ga K "Link") (He.ga K "Unlike") (He.ga K "Row") (He.ga K "Table")) b_link := by
  obtain ⟨fd_link, F_link⟩ := X.c.def_ 39 (by rfl)
  exact gf_mk (He.glo_ok X.KX X.G (X.c.fact 97)) F_link (ok_link (N_T X) (N_h_are_unlike X) (N_c_Unlike X) (N_h_is_root X) (N_h_root_tables X) (N_h_Row_number X) (N_h_least_tables X) (N_c_Link X) (N_h_Table_entries X) (N_h_Table_back X) (N_h_Table_of_word X) (N_h_Row_lead X) (N_h_Row_ring X) (N_h_table_with X) (N_h_product X) (N_h_word_table X) F_link) (all_cons (bind0k F_link 0 ["other", "row"] _ (fun us its ws h1 h2 h3 => match us, its, ws, h1, h2, h3 with | [], [], [_, _], _, _, _ => rfl) (fun _ _ _ _ _ _ us ws h1 h2 => match us, ws, h1, h2 with | [], [_, _], _, _ => rfl)) (all_cons (bind0 F_link 2 rfl (fun _ _ _ _ _ _ us h => match us, h with | [_, _], _ => rfl)) all_nil))
theorem N_h__law_same_0 (X : Xx l w K h mg base) : Gf l.prog w K mg base "_law_same" 1 (c__law_same 0) b__law_same := by
  obtain ⟨fd__law_same, F__law_same⟩ := X.c.def_ 40 (by rfl)
  exact gf_mk (ps := ["_law_found", "_law_due"]) (He.glo_ok X.KX X.G (X.c.fact 98)) F__law_same (fn_no no__law_same) (all_cons (bind0 F__law_same 2 rfl (fun _ _ _ _ _ _ us h => match us, h with | [_, _], _ => rfl)) all_nil)
theorem N_h__law_same_1 (X : Xx l w K h mg base) : Gf l.prog w K mg base "_law_same" 2 (c__law_same 1) b__law_same := by
  obtain ⟨fd__law_same, F__law_same⟩ := X.c.def_ 40 (by rfl)
  exact gf_mk (ps := ["_law_found", "_law_due"]) (He.glo_ok X.KX X.G (X.c.fact 98)) F__law_same (ok__law_same (N_T X) (by decide) (N_h__law_same_0 X) F__law_same) (all_cons (bind0 F__law_same 2 rfl (fun _ _ _ _ _ _ us h => match us, h with | [_, _], _ => rfl)) all_nil)
theorem N_h__law_same_2 (X : Xx l w K h mg base) : Gf l.prog w K mg base "_law_same" 3 (c__law_same 2) b__law_same := by
  obtain ⟨fd__law_same, F__law_same⟩ := X.c.def_ 40 (by rfl)
  exact gf_mk (ps := ["_law_found", "_law_due"]) (He.glo_ok X.KX X.G (X.c.fact 98)) F__law_same (ok__law_same (N_T X) (by decide) (N_h__law_same_1 X) F__law_same) (all_cons (bind0 F__law_same 2 rfl (fun _ _ _ _ _ _ us h => match us, h with | [_, _], _ => rfl)) all_nil)
theorem N_h__law_same_3 (X : Xx l w K h mg base) : Gf l.prog w K mg base "_law_same" 4 (c__law_same 3) b__law_same := by
  obtain ⟨fd__law_same, F__law_same⟩ := X.c.def_ 40 (by rfl)
  exact gf_mk (ps := ["_law_found", "_law_due"]) (He.glo_ok X.KX X.G (X.c.fact 98)) F__law_same (ok__law_same (N_T X) (by decide) (N_h__law_same_2 X) F__law_same) (all_cons (bind0 F__law_same 2 rfl (fun _ _ _ _ _ _ us h => match us, h with | [_, _], _ => rfl)) all_nil)
theorem N_h__law_same_4 (X : Xx l w K h mg base) : Gf l.prog w K mg base "_law_same" 5 (c__law_same 4) b__law_same := by
  obtain ⟨fd__law_same, F__law_same⟩ := X.c.def_ 40 (by rfl)
  exact gf_mk (ps := ["_law_found", "_law_due"]) (He.glo_ok X.KX X.G (X.c.fact 98)) F__law_same (ok__law_same (N_T X) (by decide) (N_h__law_same_3 X) F__law_same) (all_cons (bind0 F__law_same 2 rfl (fun _ _ _ _ _ _ us h => match us, h with | [_, _], _ => rfl)) all_nil)
theorem N_h_Unlike_linked (X : Xx l w K h mg base) : Pf l.prog w K mg base (He.ga K "Unlike") "linked" 2 (c_Unlike_linked (He.ga K "Unlike")) := by
  obtain ⟨fd_Unlike_linked, F_Unlike_linked⟩ := X.c.def_ 41 (by rfl)
  exact pf_mk (prF_ok (X.c.fact 99)) (ok_Unlike_linked (N_T X) F_Unlike_linked) (bind0 F_Unlike_linked 1 rfl (fun _ _ _ _ _ _ us h => match us, h with | [_], _ => rfl))
theorem N_h_Link_linked (X : Xx l w K h mg base) : Pf l.prog w K mg base (He.ga K "Link") "linked" 2 (c_Link_linked (He.ga K "Link")) := by
  obtain ⟨fd_Link_linked, F_Link_linked⟩ := X.c.def_ 42 (by rfl)
  exact pf_mk (prF_ok (X.c.fact 100)) (ok_Link_linked (N_T X) F_Link_linked) (bind0 F_Link_linked 1 rfl (fun _ _ _ _ _ _ us h => match us, h with | [_], _ => rfl))
theorem N_h_Unlike_holds (X : Xx l w K h mg base) : Mf l.prog w K mg base (He.ga K "Unlike") "holds" 9 (c_Unlike_holds (He.ga K "Unlike") (He.ga K "Row")) b_Unlike_holds := by
  obtain ⟨fd_Unlike_holds, F_Unlike_holds⟩ := X.c.def_ 43 (by rfl)
  exact mf_mk (methF_ok (X.c.fact 101)) (ok_Unlike_holds (N_T X) (N_h_are_unlike X) F_Unlike_holds) (all_cons (bind0 F_Unlike_holds 1 rfl (fun _ _ _ _ _ _ us h => match us, h with | [_], _ => rfl)) all_nil)
theorem N_h_Numberd_eqd (X : Xx l w K h mg base) : Mf l.prog w K mg base (He.ga K "Number") "__eq__" 2 (c_Numberd_eqd (He.ga K "Number")) b_Numberd_eqd := by
  obtain ⟨fd_Numberd_eqd, F_Numberd_eqd⟩ := X.c.def_ 44 (by rfl)
  exact mf_mk (methF_ok (X.c.fact 102)) (ok_Numberd_eqd (N_T X) F_Numberd_eqd) (all_cons (bind0 F_Numberd_eqd 2 rfl (fun _ _ _ _ _ _ us h => match us, h with | [_, _], _ => rfl)) all_nil)
theorem N_h_leads (X : Xx l w K h mg base) : Gf l.prog w K mg base "leads" 8 (c_leads (He.ga K "Table") (He.ga K "Row") (He.ga K "Number")) b_leads := by
  obtain ⟨fd_leads, F_leads⟩ := X.c.def_ 45 (by rfl)
  exact gf_mk (He.glo_ok X.KX X.G (X.c.fact 103)) F_leads (ok_leads (N_T X) (N_h_number_led X) (N_h_Row_number X) (N_h_Numberd_eqd X) (N_h_is_root X) (N_h_Row_ring X) (N_h_Table_determinant X) F_leads) (all_cons (bind0 F_leads 3 rfl (fun _ _ _ _ _ _ us h => match us, h with | [_, _, _], _ => rfl)) all_nil)
theorem N_h_Link_holds (X : Xx l w K h mg base) : Mf l.prog w K mg base (He.ga K "Link") "holds" 9 (c_Link_holds (He.ga K "Link") (He.ga K "Row") (He.ga K "Table")) b_Link_holds := by
  obtain ⟨fd_Link_holds, F_Link_holds⟩ := X.c.def_ 46 (by rfl)
  exact mf_mk (methF_ok (X.c.fact 104)) (ok_Link_holds (N_T X) (N_h_leads X) (N_h_Table_determinant X) F_Link_holds) (all_cons (bind0 F_Link_holds 1 rfl (fun _ _ _ _ _ _ us h => match us, h with | [_], _ => rfl)) all_nil)
theorem N_h_Unlike_told (X : Xx l w K h mg base) : Mf l.prog w K mg base (He.ga K "Unlike") "told" 2 (c_Unlike_told (He.ga K "Unlike")) b_Unlike_told := by
  obtain ⟨fd_Unlike_told, F_Unlike_told⟩ := X.c.def_ 47 (by rfl)
  exact mf_mk (methF_ok (X.c.fact 105)) (ok_Unlike_told (N_T X) F_Unlike_told) (all_cons (bind0 F_Unlike_told 1 rfl (fun _ _ _ _ _ _ us h => match us, h with | [_], _ => rfl)) all_nil)
theorem N_h_Link_up (X : Xx l w K h mg base) : Pf l.prog w K mg base (He.ga K "Link") "up" 2 (c_Link_up (He.ga K "Link") (He.ga K "Table")) := by
  obtain ⟨fd_Link_up, F_Link_up⟩ := X.c.def_ 48 (by rfl)
  exact pf_mk (prF_ok (X.c.fact 106)) (ok_Link_up (N_T X) F_Link_up) (bind0 F_Link_up 1 rfl (fun _ _ _ _ _ _ us h => match us, h with | [_], _ => rfl))
theorem N_h_Link_down (X : Xx l w K h mg base) : Pf l.prog w K mg base (He.ga K "Link") "down" 2 (c_Link_down (He.ga K "Link") (He.ga K "Table")) := by
  obtain ⟨fd_Link_down, F_Link_down⟩ := X.c.def_ 49 (by rfl)
  exact pf_mk (prF_ok (X.c.fact 107)) (ok_Link_down (N_T X) F_Link_down) (bind0 F_Link_down 1 rfl (fun _ _ _ _ _ _ us h => match us, h with | [_], _ => rfl))
theorem N_h_Link_told (X : Xx l w K h mg base) : Mf l.prog w K mg base (He.ga K "Link") "told" 2 (c_Link_told (He.ga K "Link") (He.ga K "Table")) b_Link_told := by
  obtain ⟨fd_Link_told, F_Link_told⟩ := X.c.def_ 50 (by rfl)
  exact mf_mk (methF_ok (X.c.fact 108)) (ok_Link_told (N_T X) F_Link_told) (all_cons (bind0 F_Link_told 1 rfl (fun _ _ _ _ _ _ us h => match us, h with | [_], _ => rfl)) all_nil)
end
theorem all {l : PySem.W.OpenLaw} {w : World} {K : PySem.W.Frag} {h : Heap} {mg : Str → Option Value} {f : Addr} (KX : K.In h) (G : h.Ns mainGlobals mg) (hfa : mg ("law" : Str) = some (.ref f)) (c : SaysZ fa fn K) (PFX : l.prog = PySem.Challenge.pw_turnmill_k54_links_of_fractions) : LamX.LawAtS l w K (L2.CX l.prog w) 10 63 "_law_script" mg f h := by
  obtain ⟨fd_law, F_law⟩ := c.def_ 51 (by rfl)
  have e0 := hfa.symm.trans (He.glo_ok KX G (c.fact 37))
  cases e0
  refine law_at (c := c_law) (fd := fd_law) (fun s u => FunD.bindsA (ps := ["_law_script"]) F_law (fun _ _ _ _ _ _ us h => match us, h with | [_], _ => rfl) s [u] rfl) (fun base _ _ => ?_) (fun ns hl _ => ⟨ns, rfl, hl, rfl, fun _ => rfl⟩)
  have X : Xx l w K h mg base := ⟨KX, G, c, PFX⟩
  exact ok_law (N_T X) (N_h__law_hand X) (N_h__law_normal X) (N_h__law_word X) (N_h__law_of X) (N_h__law_root_line X) (N_h__law_row X) (N_h_link X) ((N_h__law_same_4 X)) (N_h_Unlike_linked X) (N_h_Link_linked X) (N_h_Unlike_holds X) (N_h_Link_holds X) (N_h_Unlike_told X) (N_h_Link_up X) (N_h_Link_down X) (N_h_leads X) (N_h_Table_determinant X) (N_h_Link_told X) F_law
def nms : List Str := (["_wall", "__name__", "MillError", "InvalidWord", "InvalidTable", "InvalidNumber", "InvalidRing", "InvalidCount", "InvalidIndex", "TooLong", "ParseError", "TURNS", "MOST_TURNS", "LEFT", "RIGHT", "NEUTRAL"] : List Str) ++ (["is_integer", "is_within", "is_word", "check_word", "divisor_of", "product", "word_table", "divided", "least_times", "runs_taken", "word_taken", "Table", "table_with", "root_floor", "is_square", "sign_of"] : List Str) ++ (["root_sign", "Number", "number_led", "SWAP", "is_root", "are_unlike", "leads", "Tie", "Link", "determinant_text", "Unlike", "solutions", "reduced", "root_tables", "determinants", "stepped"] : List Str) ++ (["least_tables", "link", "FAR", "MOST_RUNS", "least_ring", "Row", "_law_hand", "_law_pick", "_law_of", "_law_same", "_law_word", "_law_normal", "_law_root_line", "_law_row"] : List Str)
abbrev R : PySem.W.OpenRow := PySem.W.OpenLaw.row PySem.Challenge.rw_turnmill_k54_links_of_fractions
def adrs : List PySem.Addr := [3, 2, 31, 51, 70, 89, 108, 187, 188, 189, 196, 208, 215, 222, 229, 236, 376, 387, 394, 401, 408, 513, 524, 525, 532, 539, 546, 615, 676, 685, 709, 728, 747, 754, 761, 888, 897, 904, 911, 916, 921, 928, 935, 942, 949, 30, 50, 69, 88, 107, 195, 207, 214, 221, 228, 235, 375, 386, 393, 400, 407, 512, 523, 531, 538, 545, 614, 675, 684, 708, 727, 746, 753, 760, 887, 896, 903, 910, 915, 920, 927, 934, 941, 948, 48, 67, 86, 105, 270, 279, 288, 319, 333, 429, 453, 496, 503, 560, 584, 635, 643, 651, 659, 666, 673, 699, 706, 775, 793, 801, 871, 47, 66, 85, 104, 269, 277, 287, 318, 332, 428, 423, 424, 452, 495, 502, 559, 583, 634, 623, 642, 650, 658, 665, 672, 698, 705, 774, 792, 800, 870, 276, 286, 451, 582, 641, 649, 657, 791, 799]
abbrev hk : PySem.W.Hook := hookE adrs fa fn
def ob (s : PySem.W.SharedT) : He.AlD := obsE adrs fa fn (HandSHeadRun.getT s)
theorem ob_eq (s : PySem.W.SharedT) : ob s = hk.obs s.abs := obsE_eq (HandSHeadRun.getT_eq s)
noncomputable section
open Z
open PySem PySem.W PySem.Calls PyProof.Rows HandSHeadRun
abbrev kH := PyData.keyHash
abbrev eT (P : Params) (s : Str) (n : Nat) (v : Value) : DictEntry := .mk (PyData.keyHash P s) (.str s n) v
abbrev Q0 := Obj
abbrev eO : Obj := .mk .none none (.fields #[]) #[]
abbrev tO (l : List Value) : Obj := .mk (.type "tuple") none (.seq l.toArray 0) #[]
abbrev dO (l : List DictEntry) (n : Nat) : Obj := .mk (.type "dict") none (.dict l.toArray n) #[]
abbrev fO (a b : Str) (s : Stmt) (k : Nat) : Obj := ⟨.none, none, .func ⟨a, b, L2.defArgs s, .stmts (L2.defBody s), L2.defScope s, k, [], .none, .none, .none, .none, none, .none, .none, 0⟩, #[]⟩
abbrev gO (a b : Str) (s : Stmt) (k : Nat) (m : Str) (n r : Nat) : Obj := ⟨.type "function", none, .func ⟨a, b, L2.defArgs s, .stmts (L2.defBody s), L2.defScope s, k, [], .none, .none, .none, .str m n, none, .ref r, .none, 0⟩, #[]⟩
abbrev cO (a b : Str) (n x1 x2 x3 x4 x5 r : Nat) (t : Bool) (y h : Nat) (A B C : Value) (i j k : Nat) : Obj := .mk (.type "code") none (.fields #[.str a n, .str b (n + 1), .str "/claim/cut.py" (n + 2), .int x1 0, .int x2 0, .int x3 0, .int x4 0, .int x5 0, .ref r, .bool t, .int y 0, .ref h, .none, A, B, C, .int i 0, .int j 0, .str "/claim/cut.py" k]) #[]
abbrev rO (a b c : Nat) (m : Str) (n d : Nat) : Obj := .mk (.type "frame") none .plain #[some (.ref a), some (.ref b), some (.ref c), none, some (.str m n), none, some (.ref d)]
abbrev kO (b : Value) (r : List Value) (m : Str) (d a n1 n2 : Nat) (w : String) : Obj := .mk (.type "type") none (.cls (.mk m [b] r d m true [] [] false none false)) #[some (.ref a), none, some (.str m n1), some (.str m n2), some (.builtin w), some (.bool true)]
abbrev bO (s : String) (v : Value) : Obj := .mk (.type "builtin_function_or_method") none (.fields #[.builtin s, v]) #[]
abbrev nO (o : Obj) (a b : BT) : BT := .node o a b
abbrev lO (o : Obj) : BT := .node o .nil .nil
def o1_3 (P : Params) : Q0 := dO [(eT P "__name__" 165 (.str "turnmill.tables" 418)), (eT P "__doc__" 166 .none), (eT P "__package__" 167 .none), (eT P "__loader__" 168 (.builtin "__main__.__loader__#opaque")), (eT P "__spec__" 169 .none), (eT P "__annotations__" 170 (.ref 6)), (eT P "__builtins__" 171 (.ref 4)), (eT P "__file__" 173 (.str "/claim/cut.py" 172)), (eT P "__cached__" 174 .none), (eT P "_wall" 193 (.ref 21)), (eT P "MillError" 213 (.ref 31)), (eT P "InvalidWord" 239 (.ref 51)), (eT P "InvalidTable" 263 (.ref 70)), (eT P "InvalidNumber" 287 (.ref 89)), (eT P "InvalidRing" 313 (.ref 108)), (eT P "InvalidCount" 339 (.ref 127)), (eT P "InvalidIndex" 365 (.ref 146)), (eT P "TooLong" 391 (.ref 165)), (eT P "ParseError" 417 (.ref 184)), (eT P "TURNS" 421 (.str "LR" 420)), (eT P "MOST_TURNS" 423 (.int 4000 422)), (eT P "LEFT" 428 (.ref 187)), (eT P "RIGHT" 433 (.ref 188)), (eT P "NEUTRAL" 438 (.ref 189)), (eT P "is_integer" 445 (.ref 196)), (eT P "is_within" 454 (.ref 203)), (eT P "is_word" 460 (.ref 208)), (eT P "check_word" 467 (.ref 215)), (eT P "divisor_of" 478 (.ref 222)), (eT P "product" 494 (.ref 229)), (eT P "word_table" 503 (.ref 236)), (eT P "divided" 509 (.ref 241)), (eT P "least_times" 515 (.ref 246)), (eT P "runs_taken" 529 (.ref 253)), (eT P "word_taken" 535 (.ref 258)), (eT P "Table" 698 (.ref 376))] 36
def o1_11 : Q0 := tO []
def o1_12 : Q0 := (.mk .none none (.fields #[(.int 1 0), (.int 0 0), (.ref 20), (.int 5 0), (.int 0 0), (.ref 27), (.int 7 0), (.int 0 0), (.ref 40), (.int 12 0), (.int 0 0), (.ref 59), (.int 16 0), (.int 0 0), (.ref 78), (.int 20 0), (.int 0 0), (.ref 97), (.int 25 0), (.int 0 0), (.ref 116), (.int 30 0), (.int 0 0), (.ref 135), (.int 35 0), (.int 0 0), (.ref 154), (.int 40 0), (.int 0 0), (.ref 173), (.int 51 0), (.int 0 0), (.ref 195), (.int 53 0), (.int 0 0), (.ref 202), (.int 55 0), (.int 0 0), (.ref 207), (.int 57 0), (.int 0 0), (.ref 214), (.int 60 0), (.int 0 0), (.ref 221), (.int 68 0), (.int 0 0), (.ref 228), (.int 72 0), (.int 0 0), (.ref 235), (.int 77 0), (.int 0 0), (.ref 240), (.int 80 0), (.int 0 0), (.ref 245), (.int 82 0), (.int 0 0), (.ref 252), (.int 99 0), (.int 0 0), (.ref 257), (.int 104 0), (.int 0 0), (.ref 264)]) #[])
def o1_13 : Q0 := cO "<module>" "<module>" 182 1 0 0 0 0 11 false 181 12 .none .none .none 185 1 186
def o1_14 : Q0 := rO 13 3 3 "__main__" 164 0
def o1_15 : Q0 := tO []
def o1_16 : Q0 := eO
def o1_17 : Q0 := tO [(.str "k" 190)]
def o1_18 : Q0 := tO []
def o1_19 : Q0 := fO "_wall" "_wall" (top 0) 0
def o1_20 : Q0 := cO "_wall" "_wall" 187 1 1 0 0 3 15 true 181 16 (.ref 17) (.ref 18) (.ref 19) 191 1 192
def o1_21 : Q0 := gO "_wall" "_wall" (top 0) 3 "__main__" 164 20
def o1_22 : Q0 := tO [(.type "ValueError")]
def o1_23 : Q0 := bO "type.__prepare__" (.type "type")
def o1_24 (P : Params) : Q0 := dO [(eT P "__module__" 203 (.str "turnmill.errors" 194)), (eT P "__qualname__" 205 (.str "MillError" 204)), (eT P "__firstlineno__" 207 (.int 5 206)), (eT P "__static_attributes__" 208 (.ref 29))] 4
def o1_25 : Q0 := tO []
def o1_26 : Q0 := eO
def o1_27 : Q0 := cO "MillError" "MillError" 198 5 0 0 0 0 25 false 181 26 .none .none .none 201 5 202
def o1_28 : Q0 := rO 27 3 24 "turnmill.errors" 194 0
def o1_29 : Q0 := tO []
def o1_30 (P : Params) : Q0 := dO [(eT P "__module__" 203 (.str "turnmill.errors" 194)), (eT P "__firstlineno__" 207 (.int 5 206)), (eT P "__static_attributes__" 208 (.ref 29)), (eT P "__weakref__" 210 (.ref 32)), (eT P "__doc__" 211 .none)] 3
def o1_31 : Q0 := (.mk (.type "type") none (.cls (.mk "MillError" [(.type "ValueError")] [(.ref 31), (.type "ValueError"), (.type "Exception"), (.type "BaseException"), (.type "object")] 30 "MillError" true [] [(.ref 51), (.ref 70), (.ref 89), (.ref 108), (.ref 127), (.ref 146), (.ref 165), (.ref 184)] false none false)) #[(some (.ref 22)), none, (some (.str "MillError" 196)), (some (.str "MillError" 204)), (some (.builtin "ValueError.__new__")), (some (.bool true))])
def o1_32 : Q0 := (.mk (.type "getset_descriptor") none (.fields #[(.str "__weakref__" 209), (.ref 31), (.builtin "ExceptionGroup.__weakref__"), .none]) #[])
def o1_33 : Q0 := (.mk (.type "super") none (.fields #[(.ref 31), (.ref 31), (.ref 31)]) #[])
def o1_34 : Q0 := bO "object.__init_subclass__" (.ref 31)
def o1_35 : Q0 := tO [(.ref 31)]
def o1_36 : Q0 := bO "type.__prepare__" (.type "type")
def o1_37 (P : Params) : Q0 := dO [(eT P "__module__" 221 (.str "turnmill.errors" 194)), (eT P "__qualname__" 223 (.str "InvalidWord" 222)), (eT P "__firstlineno__" 225 (.int 7 224)), (eT P "__init__" 233 (.ref 48)), (eT P "__static_attributes__" 236 (.ref 49))] 5
def o1_38 : Q0 := tO []
def o1_39 : Q0 := (.mk .none none (.fields #[(.int 9 0), (.int 4 0), (.ref 47)]) #[])
def o1_40 : Q0 := cO "InvalidWord" "InvalidWord" 216 7 0 0 0 0 38 false 181 39 .none .none .none 219 7 220
def o1_41 : Q0 := rO 40 3 37 "turnmill.errors" 194 0
def o1_42 : Q0 := tO []
def o1_43 : Q0 := eO
def o1_44 : Q0 := tO [(.str "self" 229), (.str "given" 230)]
def o1_45 : Q0 := tO []
def o1_46 : Q0 := fO "__init__" "InvalidWord.__init__" (L2.inClass (top 3) 0) 0
def o1_47 : Q0 := cO "__init__" "InvalidWord.__init__" 226 9 2 0 0 3 42 true 181 43 (.ref 44) (.ref 45) (.ref 46) 231 9 232
def o1_48 : Q0 := gO "__init__" "InvalidWord.__init__" (L2.inClass (top 3) 0) 3 "turnmill.errors" 194 47
def o1_49 : Q0 := tO [(.str "given" 234), (.str "tag" 235)]
def o1_50 (P : Params) : Q0 := dO [(eT P "__module__" 221 (.str "turnmill.errors" 194)), (eT P "__firstlineno__" 225 (.int 7 224)), (eT P "__init__" 233 (.ref 48)), (eT P "__static_attributes__" 236 (.ref 49)), (eT P "__doc__" 237 .none)] 2
def o1_51 : Q0 := kO (.ref 31) [(.ref 51), (.ref 31), (.type "ValueError"), (.type "Exception"), (.type "BaseException"), (.type "object")] "InvalidWord" 50 35 214 222 "ValueError.__new__"
def o1_52 : Q0 := (.mk (.type "super") none (.fields #[(.ref 51), (.ref 51), (.ref 51)]) #[])
def o1_53 : Q0 := bO "object.__init_subclass__" (.ref 51)
def o1_54 : Q0 := tO [(.ref 31)]
def o1_55 : Q0 := bO "type.__prepare__" (.type "type")
def o1_56 (P : Params) : Q0 := dO [(eT P "__module__" 247 (.str "turnmill.errors" 194)), (eT P "__qualname__" 249 (.str "InvalidTable" 248)), (eT P "__firstlineno__" 251 (.int 12 250)), (eT P "__init__" 258 (.ref 67)), (eT P "__static_attributes__" 260 (.ref 68))] 5
def o1_57 : Q0 := tO []
def o1_58 : Q0 := (.mk .none none (.fields #[(.int 14 0), (.int 4 0), (.ref 66)]) #[])
def o1_59 : Q0 := cO "InvalidTable" "InvalidTable" 242 12 0 0 0 0 57 false 181 58 .none .none .none 245 12 246
def o1_60 : Q0 := rO 59 3 56 "turnmill.errors" 194 0
def o1_61 : Q0 := tO []
def o1_62 : Q0 := eO
def o1_63 : Q0 := tO [(.str "self" 255)]
def o1_64 : Q0 := tO []
def o1_65 : Q0 := fO "__init__" "InvalidTable.__init__" (L2.inClass (top 4) 0) 0
def o1_66 : Q0 := cO "__init__" "InvalidTable.__init__" 252 14 1 0 0 3 61 true 181 62 (.ref 63) (.ref 64) (.ref 65) 256 14 257
def o1_67 : Q0 := gO "__init__" "InvalidTable.__init__" (L2.inClass (top 4) 0) 3 "turnmill.errors" 194 66
def o1_68 : Q0 := tO [(.str "tag" 259)]
def o1_69 (P : Params) : Q0 := dO [(eT P "__module__" 247 (.str "turnmill.errors" 194)), (eT P "__firstlineno__" 251 (.int 12 250)), (eT P "__init__" 258 (.ref 67)), (eT P "__static_attributes__" 260 (.ref 68)), (eT P "__doc__" 261 .none)] 2
def o1_70 : Q0 := kO (.ref 31) [(.ref 70), (.ref 31), (.type "ValueError"), (.type "Exception"), (.type "BaseException"), (.type "object")] "InvalidTable" 69 54 240 248 "ValueError.__new__"
def o1_71 : Q0 := (.mk (.type "super") none (.fields #[(.ref 70), (.ref 70), (.ref 70)]) #[])
def o1_72 : Q0 := bO "object.__init_subclass__" (.ref 70)
def o1_73 : Q0 := tO [(.ref 31)]
def o1_74 : Q0 := bO "type.__prepare__" (.type "type")
def o1_75 (P : Params) : Q0 := dO [(eT P "__module__" 271 (.str "turnmill.errors" 194)), (eT P "__qualname__" 273 (.str "InvalidNumber" 272)), (eT P "__firstlineno__" 275 (.int 16 274)), (eT P "__init__" 282 (.ref 86)), (eT P "__static_attributes__" 284 (.ref 87))] 5
def o1_76 : Q0 := tO []
def o1_77 : Q0 := (.mk .none none (.fields #[(.int 18 0), (.int 4 0), (.ref 85)]) #[])
def o1_78 : Q0 := cO "InvalidNumber" "InvalidNumber" 266 16 0 0 0 0 76 false 181 77 .none .none .none 269 16 270
def o1_79 : Q0 := rO 78 3 75 "turnmill.errors" 194 0
def o1_80 : Q0 := tO []
def o1_81 : Q0 := eO
def o1_82 : Q0 := tO [(.str "self" 279)]
def o1_83 : Q0 := tO []
def o1_84 : Q0 := fO "__init__" "InvalidNumber.__init__" (L2.inClass (top 5) 0) 0
def o1_85 : Q0 := cO "__init__" "InvalidNumber.__init__" 276 18 1 0 0 3 80 true 181 81 (.ref 82) (.ref 83) (.ref 84) 280 18 281
def o1_86 : Q0 := gO "__init__" "InvalidNumber.__init__" (L2.inClass (top 5) 0) 3 "turnmill.errors" 194 85
def o1_87 : Q0 := tO [(.str "tag" 283)]
def o1_88 (P : Params) : Q0 := dO [(eT P "__module__" 271 (.str "turnmill.errors" 194)), (eT P "__firstlineno__" 275 (.int 16 274)), (eT P "__init__" 282 (.ref 86)), (eT P "__static_attributes__" 284 (.ref 87)), (eT P "__doc__" 285 .none)] 2
def o1_89 : Q0 := kO (.ref 31) [(.ref 89), (.ref 31), (.type "ValueError"), (.type "Exception"), (.type "BaseException"), (.type "object")] "InvalidNumber" 88 73 264 272 "ValueError.__new__"
def o1_90 : Q0 := (.mk (.type "super") none (.fields #[(.ref 89), (.ref 89), (.ref 89)]) #[])
def o1_91 : Q0 := bO "object.__init_subclass__" (.ref 89)
def o1_92 : Q0 := tO [(.ref 31)]
def o1_93 : Q0 := bO "type.__prepare__" (.type "type")
def o1_94 (P : Params) : Q0 := dO [(eT P "__module__" 295 (.str "turnmill.errors" 194)), (eT P "__qualname__" 297 (.str "InvalidRing" 296)), (eT P "__firstlineno__" 299 (.int 20 298)), (eT P "__init__" 307 (.ref 105)), (eT P "__static_attributes__" 310 (.ref 106))] 5
def o1_95 : Q0 := tO []
def o1_96 : Q0 := (.mk .none none (.fields #[(.int 22 0), (.int 4 0), (.ref 104)]) #[])
def o1_97 : Q0 := cO "InvalidRing" "InvalidRing" 290 20 0 0 0 0 95 false 181 96 .none .none .none 293 20 294
def o1_98 : Q0 := rO 97 3 94 "turnmill.errors" 194 0
def o1_99 : Q0 := tO []
def o1_100 : Q0 := eO
def o1_101 : Q0 := tO [(.str "self" 303), (.str "given" 304)]
def o1_102 : Q0 := tO []
def o1_103 : Q0 := fO "__init__" "InvalidRing.__init__" (L2.inClass (top 6) 0) 0
def o1_104 : Q0 := cO "__init__" "InvalidRing.__init__" 300 22 2 0 0 3 99 true 181 100 (.ref 101) (.ref 102) (.ref 103) 305 22 306
def o1_105 : Q0 := gO "__init__" "InvalidRing.__init__" (L2.inClass (top 6) 0) 3 "turnmill.errors" 194 104
def o1_106 : Q0 := tO [(.str "given" 308), (.str "tag" 309)]
def o1_107 (P : Params) : Q0 := dO [(eT P "__module__" 295 (.str "turnmill.errors" 194)), (eT P "__firstlineno__" 299 (.int 20 298)), (eT P "__init__" 307 (.ref 105)), (eT P "__static_attributes__" 310 (.ref 106)), (eT P "__doc__" 311 .none)] 2
def o1_108 : Q0 := kO (.ref 31) [(.ref 108), (.ref 31), (.type "ValueError"), (.type "Exception"), (.type "BaseException"), (.type "object")] "InvalidRing" 107 92 288 296 "ValueError.__new__"
def o1_109 : Q0 := (.mk (.type "super") none (.fields #[(.ref 108), (.ref 108), (.ref 108)]) #[])
def o1_110 : Q0 := bO "object.__init_subclass__" (.ref 108)
def o1_111 : Q0 := tO [(.ref 31)]
def o1_112 : Q0 := bO "type.__prepare__" (.type "type")
def o1_113 (P : Params) : Q0 := dO [(eT P "__module__" 321 (.str "turnmill.errors" 194)), (eT P "__qualname__" 323 (.str "InvalidCount" 322)), (eT P "__firstlineno__" 325 (.int 25 324)), (eT P "__init__" 333 (.ref 124)), (eT P "__static_attributes__" 336 (.ref 125))] 5
def o1_114 : Q0 := tO []
def o1_115 : Q0 := (.mk .none none (.fields #[(.int 27 0), (.int 4 0), (.ref 123)]) #[])
def o1_116 : Q0 := cO "InvalidCount" "InvalidCount" 316 25 0 0 0 0 114 false 181 115 .none .none .none 319 25 320
def o1_117 : Q0 := rO 116 3 113 "turnmill.errors" 194 0
def o1_118 : Q0 := tO []
def o1_119 : Q0 := eO
def o1_120 : Q0 := tO [(.str "self" 329), (.str "given" 330)]
def o1_121 : Q0 := tO []
def o1_122 : Q0 := fO "__init__" "InvalidCount.__init__" (L2.inClass (top 7) 0) 0
def o1_123 : Q0 := cO "__init__" "InvalidCount.__init__" 326 27 2 0 0 3 118 true 181 119 (.ref 120) (.ref 121) (.ref 122) 331 27 332
def o1_124 : Q0 := gO "__init__" "InvalidCount.__init__" (L2.inClass (top 7) 0) 3 "turnmill.errors" 194 123
def o1_125 : Q0 := tO [(.str "given" 334), (.str "tag" 335)]
def o1_126 (P : Params) : Q0 := dO [(eT P "__module__" 321 (.str "turnmill.errors" 194)), (eT P "__firstlineno__" 325 (.int 25 324)), (eT P "__init__" 333 (.ref 124)), (eT P "__static_attributes__" 336 (.ref 125)), (eT P "__doc__" 337 .none)] 2
def o1_127 : Q0 := kO (.ref 31) [(.ref 127), (.ref 31), (.type "ValueError"), (.type "Exception"), (.type "BaseException"), (.type "object")] "InvalidCount" 126 111 314 322 "ValueError.__new__"
def o1_128 : Q0 := (.mk (.type "super") none (.fields #[(.ref 127), (.ref 127), (.ref 127)]) #[])
def o1_129 : Q0 := bO "object.__init_subclass__" (.ref 127)
def o1_130 : Q0 := tO [(.ref 31)]
def o1_131 : Q0 := bO "type.__prepare__" (.type "type")
def o1_132 (P : Params) : Q0 := dO [(eT P "__module__" 347 (.str "turnmill.errors" 194)), (eT P "__qualname__" 349 (.str "InvalidIndex" 348)), (eT P "__firstlineno__" 351 (.int 30 350)), (eT P "__init__" 359 (.ref 143)), (eT P "__static_attributes__" 362 (.ref 144))] 5
def o1_133 : Q0 := tO []
def o1_134 : Q0 := (.mk .none none (.fields #[(.int 32 0), (.int 4 0), (.ref 142)]) #[])
def o1_135 : Q0 := cO "InvalidIndex" "InvalidIndex" 342 30 0 0 0 0 133 false 181 134 .none .none .none 345 30 346
def o1_136 : Q0 := rO 135 3 132 "turnmill.errors" 194 0
def o1_137 : Q0 := tO []
def o1_138 : Q0 := eO
def o1_139 : Q0 := tO [(.str "self" 355), (.str "given" 356)]
def o1_140 : Q0 := tO []
def o1_141 : Q0 := fO "__init__" "InvalidIndex.__init__" (L2.inClass (top 8) 0) 0
def o1_142 : Q0 := cO "__init__" "InvalidIndex.__init__" 352 32 2 0 0 3 137 true 181 138 (.ref 139) (.ref 140) (.ref 141) 357 32 358
def o1_143 : Q0 := gO "__init__" "InvalidIndex.__init__" (L2.inClass (top 8) 0) 3 "turnmill.errors" 194 142
def o1_144 : Q0 := tO [(.str "given" 360), (.str "tag" 361)]
def o1_145 (P : Params) : Q0 := dO [(eT P "__module__" 347 (.str "turnmill.errors" 194)), (eT P "__firstlineno__" 351 (.int 30 350)), (eT P "__init__" 359 (.ref 143)), (eT P "__static_attributes__" 362 (.ref 144)), (eT P "__doc__" 363 .none)] 2
def o1_146 : Q0 := kO (.ref 31) [(.ref 146), (.ref 31), (.type "ValueError"), (.type "Exception"), (.type "BaseException"), (.type "object")] "InvalidIndex" 145 130 340 348 "ValueError.__new__"
def o1_147 : Q0 := (.mk (.type "super") none (.fields #[(.ref 146), (.ref 146), (.ref 146)]) #[])
def o1_148 : Q0 := bO "object.__init_subclass__" (.ref 146)
def o1_149 : Q0 := tO [(.ref 31)]
def o1_150 : Q0 := bO "type.__prepare__" (.type "type")
def o1_151 (P : Params) : Q0 := dO [(eT P "__module__" 373 (.str "turnmill.errors" 194)), (eT P "__qualname__" 375 (.str "TooLong" 374)), (eT P "__firstlineno__" 377 (.int 35 376)), (eT P "__init__" 385 (.ref 162)), (eT P "__static_attributes__" 388 (.ref 163))] 5
def o1_152 : Q0 := tO []
def o1_153 : Q0 := (.mk .none none (.fields #[(.int 37 0), (.int 4 0), (.ref 161)]) #[])
def o1_154 : Q0 := cO "TooLong" "TooLong" 368 35 0 0 0 0 152 false 181 153 .none .none .none 371 35 372
def o1_155 : Q0 := rO 154 3 151 "turnmill.errors" 194 0
def o1_156 : Q0 := tO []
def o1_157 : Q0 := eO
def o1_158 : Q0 := tO [(.str "self" 381), (.str "most" 382)]
def o1_159 : Q0 := tO []
def o1_160 : Q0 := fO "__init__" "TooLong.__init__" (L2.inClass (top 9) 0) 0
def o1_161 : Q0 := cO "__init__" "TooLong.__init__" 378 37 2 0 0 3 156 true 181 157 (.ref 158) (.ref 159) (.ref 160) 383 37 384
def o1_162 : Q0 := gO "__init__" "TooLong.__init__" (L2.inClass (top 9) 0) 3 "turnmill.errors" 194 161
def o1_163 : Q0 := tO [(.str "most" 386), (.str "tag" 387)]
def o1_164 (P : Params) : Q0 := dO [(eT P "__module__" 373 (.str "turnmill.errors" 194)), (eT P "__firstlineno__" 377 (.int 35 376)), (eT P "__init__" 385 (.ref 162)), (eT P "__static_attributes__" 388 (.ref 163)), (eT P "__doc__" 389 .none)] 2
def o1_165 : Q0 := kO (.ref 31) [(.ref 165), (.ref 31), (.type "ValueError"), (.type "Exception"), (.type "BaseException"), (.type "object")] "TooLong" 164 149 366 374 "ValueError.__new__"
def o1_166 : Q0 := (.mk (.type "super") none (.fields #[(.ref 165), (.ref 165), (.ref 165)]) #[])
def o1_167 : Q0 := bO "object.__init_subclass__" (.ref 165)
def o1_168 : Q0 := tO [(.ref 31)]
def o1_169 : Q0 := bO "type.__prepare__" (.type "type")
def o1_170 (P : Params) : Q0 := dO [(eT P "__module__" 399 (.str "turnmill.errors" 194)), (eT P "__qualname__" 401 (.str "ParseError" 400)), (eT P "__firstlineno__" 403 (.int 40 402)), (eT P "__init__" 411 (.ref 181)), (eT P "__static_attributes__" 414 (.ref 182))] 5
def o1_171 : Q0 := tO []
def o1_172 : Q0 := (.mk .none none (.fields #[(.int 42 0), (.int 4 0), (.ref 180)]) #[])
def o1_173 : Q0 := cO "ParseError" "ParseError" 394 40 0 0 0 0 171 false 181 172 .none .none .none 397 40 398
def o1_174 : Q0 := rO 173 3 170 "turnmill.errors" 194 0
def o1_175 : Q0 := tO []
def o1_176 : Q0 := eO
def o1_177 : Q0 := tO [(.str "self" 407), (.str "line" 408)]
def o1_178 : Q0 := tO []
def o1_179 : Q0 := fO "__init__" "ParseError.__init__" (L2.inClass (top 10) 0) 0
def o1_180 : Q0 := cO "__init__" "ParseError.__init__" 404 42 2 0 0 3 175 true 181 176 (.ref 177) (.ref 178) (.ref 179) 409 42 410
def o1_181 : Q0 := gO "__init__" "ParseError.__init__" (L2.inClass (top 10) 0) 3 "turnmill.errors" 194 180
def o1_182 : Q0 := tO [(.str "line" 412), (.str "tag" 413)]
def o1_183 (P : Params) : Q0 := dO [(eT P "__module__" 399 (.str "turnmill.errors" 194)), (eT P "__firstlineno__" 403 (.int 40 402)), (eT P "__init__" 411 (.ref 181)), (eT P "__static_attributes__" 414 (.ref 182)), (eT P "__doc__" 415 .none)] 2
def o1_184 : Q0 := kO (.ref 31) [(.ref 184), (.ref 31), (.type "ValueError"), (.type "Exception"), (.type "BaseException"), (.type "object")] "ParseError" 183 168 392 400 "ValueError.__new__"
def o1_185 : Q0 := (.mk (.type "super") none (.fields #[(.ref 184), (.ref 184), (.ref 184)]) #[])
def o1_186 : Q0 := bO "object.__init_subclass__" (.ref 184)
def o1_187 : Q0 := tO [(.int 1 424), (.int 0 425), (.int 1 426), (.int 1 427)]
def o1_188 : Q0 := tO [(.int 1 429), (.int 1 430), (.int 0 431), (.int 1 432)]
def o1_189 : Q0 := tO [(.int 1 434), (.int 0 435), (.int 0 436), (.int 1 437)]
def o1_190 : Q0 := tO []
def o1_191 : Q0 := eO
def o1_192 : Q0 := tO [(.str "value" 442)]
def o1_193 : Q0 := tO []
def o1_194 : Q0 := fO "is_integer" "is_integer" (top 17) 0
def o1_195 : Q0 := cO "is_integer" "is_integer" 439 51 1 0 0 3 190 true 181 191 (.ref 192) (.ref 193) (.ref 194) 443 51 444
def o1_196 : Q0 := gO "is_integer" "is_integer" (top 17) 3 "turnmill.tables" 418 195
def o1_197 : Q0 := tO []
def o1_198 : Q0 := eO
def o1_199 : Q0 := tO [(.str "value" 449), (.str "least" 450), (.str "most" 451)]
def o1_200 : Q0 := tO []
def o1_201 : Q0 := fO "is_within" "is_within" (top 18) 0
def o1_202 : Q0 := cO "is_within" "is_within" 446 53 3 0 0 3 197 true 181 198 (.ref 199) (.ref 200) (.ref 201) 452 53 453
def o1_203 : Q0 := gO "is_within" "is_within" (top 18) 3 "turnmill.tables" 418 202
def o1_204 : Q0 := tO []
def o1_205 : Q0 := eO
def o1_206 : Q0 := fO "is_word" "is_word" (top 19) 0
def o1_207 : Q0 := cO "is_word" "is_word" 455 55 1 0 0 3 204 true 181 205 .none .none (.ref 206) 458 55 459
def o1_208 : Q0 := gO "is_word" "is_word" (top 19) 3 "turnmill.tables" 418 207
def o1_209 : Q0 := tO []
def o1_210 : Q0 := eO
def o1_211 : Q0 := tO [(.str "value" 464)]
def o1_212 : Q0 := tO []
def o1_213 : Q0 := fO "check_word" "check_word" (top 20) 0
def o1_214 : Q0 := cO "check_word" "check_word" 461 57 1 0 0 3 209 true 181 210 (.ref 211) (.ref 212) (.ref 213) 465 57 466
def o1_215 : Q0 := gO "check_word" "check_word" (top 20) 3 "turnmill.tables" 418 214
def o1_216 : Q0 := tO []
def o1_217 : Q0 := eO
def o1_218 : Q0 := tO [(.str "numbers" 471), (.str "found" 472), (.str "number" 473), (.str "one" 474), (.str "other" 475)]
def o1_219 : Q0 := tO []
def o1_220 : Q0 := fO "divisor_of" "divisor_of" (top 21) 0
def o1_221 : Q0 := cO "divisor_of" "divisor_of" 468 60 1 0 0 3 216 true 181 217 (.ref 218) (.ref 219) (.ref 220) 476 60 477
def o1_222 : Q0 := gO "divisor_of" "divisor_of" (top 21) 3 "turnmill.tables" 418 221
def o1_223 : Q0 := tO []
def o1_224 : Q0 := eO
def o1_225 : Q0 := tO [(.str "one" 482), (.str "other" 483), (.str "a" 484), (.str "b" 485), (.str "c" 486), (.str "d" 487), (.str "e" 488), (.str "f" 489), (.str "g" 490), (.str "h" 491)]
def o1_226 : Q0 := tO []
def o1_227 : Q0 := fO "product" "product" (top 22) 0
def o1_228 : Q0 := cO "product" "product" 479 68 2 0 0 3 223 true 181 224 (.ref 225) (.ref 226) (.ref 227) 492 68 493
def o1_229 : Q0 := gO "product" "product" (top 22) 3 "turnmill.tables" 418 228
def o1_230 : Q0 := tO []
def o1_231 : Q0 := eO
def o1_232 : Q0 := tO [(.str "word" 498), (.str "found" 499), (.str "turn" 500)]
def o1_233 : Q0 := tO []
def o1_234 : Q0 := fO "word_table" "word_table" (top 23) 0
def o1_235 : Q0 := cO "word_table" "word_table" 495 72 1 0 0 3 230 true 181 231 (.ref 232) (.ref 233) (.ref 234) 501 72 502
def o1_236 : Q0 := gO "word_table" "word_table" (top 23) 3 "turnmill.tables" 418 235
def o1_237 : Q0 := tO []
def o1_238 : Q0 := eO
def o1_239 : Q0 := fO "divided" "divided" (top 24) 0
def o1_240 : Q0 := cO "divided" "divided" 504 77 1 0 0 3 237 true 181 238 .none .none (.ref 239) 507 77 508
def o1_241 : Q0 := gO "divided" "divided" (top 24) 3 "turnmill.tables" 418 240
def o1_242 : Q0 := tO []
def o1_243 : Q0 := eO
def o1_244 : Q0 := fO "least_times" "least_times" (top 25) 0
def o1_245 : Q0 := cO "least_times" "least_times" 510 80 2 0 0 3 242 true 181 243 .none .none (.ref 244) 513 80 514
def o1_246 : Q0 := gO "least_times" "least_times" (top 25) 3 "turnmill.tables" 418 245
def o1_247 : Q0 := tO []
def o1_248 : Q0 := eO
def o1_249 : Q0 := tO [(.str "entries" 519), (.str "a" 520), (.str "b" 521), (.str "c" 522), (.str "d" 523), (.str "runs" 524), (.str "searching" 525), (.str "count" 526)]
def o1_250 : Q0 := tO []
def o1_251 : Q0 := fO "runs_taken" "runs_taken" (top 26) 0
def o1_252 : Q0 := cO "runs_taken" "runs_taken" 516 82 1 0 0 3 247 true 181 248 (.ref 249) (.ref 250) (.ref 251) 527 82 528
def o1_253 : Q0 := gO "runs_taken" "runs_taken" (top 26) 3 "turnmill.tables" 418 252
def o1_254 : Q0 := tO []
def o1_255 : Q0 := eO
def o1_256 : Q0 := fO "word_taken" "word_taken" (top 27) 0
def o1_257 : Q0 := cO "word_taken" "word_taken" 530 99 2 0 0 3 254 true 181 255 .none .none (.ref 256) 533 99 534
def o1_258 : Q0 := gO "word_taken" "word_taken" (top 27) 3 "turnmill.tables" 418 257
def o1_259 : Q0 := tO []
def o1_260 : Q0 := bO "type.__prepare__" (.type "type")
def o1_261 (P : Params) : Q0 := dO [(eT P "__module__" 543 (.str "turnmill.tables" 418)), (eT P "__qualname__" 545 (.str "Table" 544)), (eT P "__firstlineno__" 547 (.int 104 546)), (eT P "__init__" 553 (.ref 270)), (eT P "of_word" 576 (.ref 279)), (eT P "determinant" 588 (.ref 288)), (eT P "common" 596 (.ref 296)), (eT P "is_mill" 604 (.ref 304)), (eT P "is_balanced" 612 (.ref 312)), (eT P "entries" 619 (.ref 319)), (eT P "power" 627 (.ref 326)), (eT P "back" 638 (.ref 333)), (eT P "plain" 644 (.ref 338)), (eT P "alike" 652 (.ref 345)), (eT P "taken" 661 (.ref 352)), (eT P "__mul__" 669 (.ref 359)), (eT P "__eq__" 677 (.ref 366)), (eT P "__repr__" 688 (.ref 373)), (eT P "__static_attributes__" 690 (.ref 374))] 19
def o1_262 : Q0 := tO []
def o1_263 : Q0 := (.mk .none none (.fields #[(.int 106 0), (.int 4 0), (.ref 269), (.int 112 0), (.int 4 0), (.ref 276), (.int 118 0), (.int 4 0), (.ref 286), (.int 123 0), (.int 4 0), (.ref 294), (.int 127 0), (.int 4 0), (.ref 302), (.int 131 0), (.int 4 0), (.ref 310), (.int 134 0), (.int 4 0), (.ref 318), (.int 137 0), (.int 4 0), (.ref 325), (.int 140 0), (.int 4 0), (.ref 332), (.int 144 0), (.int 4 0), (.ref 337), (.int 149 0), (.int 4 0), (.ref 344), (.int 152 0), (.int 4 0), (.ref 351), (.int 158 0), (.int 4 0), (.ref 358), (.int 161 0), (.int 4 0), (.ref 365), (.int 164 0), (.int 4 0), (.ref 372)]) #[])
def o1_264 : Q0 := cO "Table" "Table" 538 104 0 0 0 0 262 false 181 263 .none .none .none 541 104 542
def o1_265 : Q0 := rO 264 3 261 "turnmill.tables" 418 0
def o1_266 : Q0 := tO []
def o1_267 : Q0 := eO
def o1_268 : Q0 := fO "__init__" "Table.__init__" (L2.inClass (top 28) 0) 0
def o1_269 : Q0 := cO "__init__" "Table.__init__" 548 106 5 0 0 3 266 true 181 267 .none .none (.ref 268) 551 106 552
def o1_270 : Q0 := gO "__init__" "Table.__init__" (L2.inClass (top 28) 0) 3 "turnmill.tables" 418 269
def o1_271 : Q0 := tO []
def o1_272 : Q0 := eO
def o1_273 : Q0 := tO [(.str "word" 557), (.str "a" 558), (.str "b" 559), (.str "c" 560), (.str "d" 561)]
def o1_274 : Q0 := tO []
def o1_275 : Q0 := fO "of_word" "Table.of_word" (L2.inClass (top 28) 1) 0
def o1_276 : Q0 := cO "of_word" "Table.of_word" 554 111 1 0 0 3 271 true 181 272 (.ref 273) (.ref 274) (.ref 275) 562 111 563
def o1_277 : Q0 := ⟨(.type "function"), none, .func ⟨"of_word", "Table.of_word", L2.defArgs (L2.inClass (top 28) 1), .stmts (L2.defBody (L2.inClass (top 28) 1)), L2.defScope (L2.inClass (top 28) 1), 3, [], .none, .none, .none, (.str "turnmill.tables" 418), (some 280), (.ref 276), .none, 0⟩, #[]⟩
def o1_278 (P : Params) : Q0 := dO [(eT P "__module__" 565 (.str "turnmill.tables" 418)), (eT P "__name__" 568 (.str "of_word" 567)), (eT P "__qualname__" 571 (.str "Table.of_word" 570)), (eT P "__doc__" 573 .none), (eT P "__annotations__" 575 (.ref 280))] 5
def o1_279 : Q0 := (.mk (.type "staticmethod") (some 278) (.fields #[(.ref 277), (.bool false)]) #[])
def o1_280 : Q0 := dO [] 0
def o1_281 : Q0 := tO []
def o1_282 : Q0 := eO
def o1_283 : Q0 := tO [(.str "self" 580), (.str "a" 581), (.str "b" 582), (.str "c" 583), (.str "d" 584)]
def o1_284 : Q0 := tO []
def o1_285 : Q0 := fO "determinant" "Table.determinant" (L2.inClass (top 28) 2) 0
def o1_286 : Q0 := cO "determinant" "Table.determinant" 577 117 1 0 0 3 281 true 181 282 (.ref 283) (.ref 284) (.ref 285) 585 117 586
def o1_287 : Q0 := gO "determinant" "Table.determinant" (L2.inClass (top 28) 2) 3 "turnmill.tables" 418 286
def o1_288 : Q0 := (.mk (.type "property") none (.fields #[(.ref 287), .none, .none, .none, (.str "determinant" 588), (.bool false)]) #[])
def o1_289 : Q0 := tO []
def o1_290 : Q0 := eO
def o1_291 : Q0 := tO [(.str "self" 592)]
def o1_292 : Q0 := tO []
def o1_293 : Q0 := fO "common" "Table.common" (L2.inClass (top 28) 3) 0
def o1_294 : Q0 := cO "common" "Table.common" 589 122 1 0 0 3 289 true 181 290 (.ref 291) (.ref 292) (.ref 293) 593 122 594
def o1_295 : Q0 := gO "common" "Table.common" (L2.inClass (top 28) 3) 3 "turnmill.tables" 418 294
def o1_296 : Q0 := (.mk (.type "property") none (.fields #[(.ref 295), .none, .none, .none, (.str "common" 596), (.bool false)]) #[])
def o1_297 : Q0 := tO []
def o1_298 : Q0 := eO
def o1_299 : Q0 := tO [(.str "self" 600)]
def o1_300 : Q0 := tO []
def o1_301 : Q0 := fO "is_mill" "Table.is_mill" (L2.inClass (top 28) 4) 0
def o1_302 : Q0 := cO "is_mill" "Table.is_mill" 597 126 1 0 0 3 297 true 181 298 (.ref 299) (.ref 300) (.ref 301) 601 126 602
def o1_303 : Q0 := gO "is_mill" "Table.is_mill" (L2.inClass (top 28) 4) 3 "turnmill.tables" 418 302
def o1_304 : Q0 := (.mk (.type "property") none (.fields #[(.ref 303), .none, .none, .none, (.str "is_mill" 604), (.bool false)]) #[])
def o1_305 : Q0 := tO []
def o1_306 : Q0 := eO
def o1_307 : Q0 := tO [(.str "self" 608)]
def o1_308 : Q0 := tO []
def o1_309 : Q0 := fO "is_balanced" "Table.is_balanced" (L2.inClass (top 28) 5) 0
def o1_310 : Q0 := cO "is_balanced" "Table.is_balanced" 605 130 1 0 0 3 305 true 181 306 (.ref 307) (.ref 308) (.ref 309) 609 130 610
def o1_311 : Q0 := gO "is_balanced" "Table.is_balanced" (L2.inClass (top 28) 5) 3 "turnmill.tables" 418 310
def o1_312 : Q0 := (.mk (.type "property") none (.fields #[(.ref 311), .none, .none, .none, (.str "is_balanced" 612), (.bool false)]) #[])
def o1_313 : Q0 := tO []
def o1_314 : Q0 := eO
def o1_315 : Q0 := tO [(.str "self" 616)]
def o1_316 : Q0 := tO []
def o1_317 : Q0 := fO "entries" "Table.entries" (L2.inClass (top 28) 6) 0
def o1_318 : Q0 := cO "entries" "Table.entries" 613 134 1 0 0 3 313 true 181 314 (.ref 315) (.ref 316) (.ref 317) 617 134 618
def o1_319 : Q0 := gO "entries" "Table.entries" (L2.inClass (top 28) 6) 3 "turnmill.tables" 418 318
def o1_320 : Q0 := tO []
def o1_321 : Q0 := eO
def o1_322 : Q0 := tO [(.str "self" 623), (.str "count" 624)]
def o1_323 : Q0 := tO []
def o1_324 : Q0 := fO "power" "Table.power" (L2.inClass (top 28) 7) 0
def o1_325 : Q0 := cO "power" "Table.power" 620 137 2 0 0 3 320 true 181 321 (.ref 322) (.ref 323) (.ref 324) 625 137 626
def o1_326 : Q0 := gO "power" "Table.power" (L2.inClass (top 28) 7) 3 "turnmill.tables" 418 325
def o1_327 : Q0 := tO []
def o1_328 : Q0 := eO
def o1_329 : Q0 := tO [(.str "self" 631), (.str "a" 632), (.str "b" 633), (.str "c" 634), (.str "d" 635)]
def o1_330 : Q0 := tO []
def o1_331 : Q0 := fO "back" "Table.back" (L2.inClass (top 28) 8) 0
def o1_332 : Q0 := cO "back" "Table.back" 628 140 1 0 0 3 327 true 181 328 (.ref 329) (.ref 330) (.ref 331) 636 140 637
def o1_333 : Q0 := gO "back" "Table.back" (L2.inClass (top 28) 8) 3 "turnmill.tables" 418 332
def o1_334 : Q0 := tO []
def o1_335 : Q0 := eO
def o1_336 : Q0 := fO "plain" "Table.plain" (L2.inClass (top 28) 9) 0
def o1_337 : Q0 := cO "plain" "Table.plain" 639 144 1 0 0 3 334 true 181 335 .none .none (.ref 336) 642 144 643
def o1_338 : Q0 := gO "plain" "Table.plain" (L2.inClass (top 28) 9) 3 "turnmill.tables" 418 337
def o1_339 : Q0 := tO []
def o1_340 : Q0 := eO
def o1_341 : Q0 := tO [(.str "self" 648), (.str "other" 649)]
def o1_342 : Q0 := tO []
def o1_343 : Q0 := fO "alike" "Table.alike" (L2.inClass (top 28) 10) 0
def o1_344 : Q0 := cO "alike" "Table.alike" 645 149 2 0 0 3 339 true 181 340 (.ref 341) (.ref 342) (.ref 343) 650 149 651
def o1_345 : Q0 := gO "alike" "Table.alike" (L2.inClass (top 28) 10) 3 "turnmill.tables" 418 344
def o1_346 : Q0 := tO []
def o1_347 : Q0 := eO
def o1_348 : Q0 := tO [(.str "self" 656), (.str "word" 657), (.str "left" 658)]
def o1_349 : Q0 := tO []
def o1_350 : Q0 := fO "taken" "Table.taken" (L2.inClass (top 28) 11) 0
def o1_351 : Q0 := cO "taken" "Table.taken" 653 152 1 0 0 3 346 true 181 347 (.ref 348) (.ref 349) (.ref 350) 659 152 660
def o1_352 : Q0 := gO "taken" "Table.taken" (L2.inClass (top 28) 11) 3 "turnmill.tables" 418 351
def o1_353 : Q0 := tO []
def o1_354 : Q0 := eO
def o1_355 : Q0 := tO [(.str "self" 665), (.str "other" 666)]
def o1_356 : Q0 := tO []
def o1_357 : Q0 := fO "__mul__" "Table.__mul__" (L2.inClass (top 28) 12) 0
def o1_358 : Q0 := cO "__mul__" "Table.__mul__" 662 158 2 0 0 3 353 true 181 354 (.ref 355) (.ref 356) (.ref 357) 667 158 668
def o1_359 : Q0 := gO "__mul__" "Table.__mul__" (L2.inClass (top 28) 12) 3 "turnmill.tables" 418 358
def o1_360 : Q0 := tO []
def o1_361 : Q0 := eO
def o1_362 : Q0 := tO [(.str "self" 673), (.str "other" 674)]
def o1_363 : Q0 := tO []
def o1_364 : Q0 := fO "__eq__" "Table.__eq__" (L2.inClass (top 28) 13) 0
def o1_365 : Q0 := cO "__eq__" "Table.__eq__" 670 161 2 0 0 3 360 true 181 361 (.ref 362) (.ref 363) (.ref 364) 675 161 676
def o1_366 : Q0 := gO "__eq__" "Table.__eq__" (L2.inClass (top 28) 13) 3 "turnmill.tables" 418 365
def o1_367 : Q0 := tO []
def o1_368 : Q0 := eO
def o1_369 : Q0 := tO [(.str "self" 681), (.str "a" 682), (.str "b" 683), (.str "c" 684), (.str "d" 685)]
def o1_370 : Q0 := tO []
def o1_371 : Q0 := fO "__repr__" "Table.__repr__" (L2.inClass (top 28) 14) 0
def o1_372 : Q0 := cO "__repr__" "Table.__repr__" 678 164 1 0 0 3 367 true 181 368 (.ref 369) (.ref 370) (.ref 371) 686 164 687
def o1_373 : Q0 := gO "__repr__" "Table.__repr__" (L2.inClass (top 28) 14) 3 "turnmill.tables" 418 372
def o1_374 : Q0 := tO [(.str "whole" 689)]
def o1_375 (P : Params) : Q0 := dO [(eT P "__module__" 543 (.str "turnmill.tables" 418)), (eT P "__firstlineno__" 547 (.int 104 546)), (eT P "__init__" 553 (.ref 270)), (eT P "of_word" 576 (.ref 279)), (eT P "determinant" 588 (.ref 288)), (eT P "common" 596 (.ref 296)), (eT P "is_mill" 604 (.ref 304)), (eT P "is_balanced" 612 (.ref 312)), (eT P "entries" 619 (.ref 319)), (eT P "power" 627 (.ref 326)), (eT P "back" 638 (.ref 333)), (eT P "plain" 644 (.ref 338)), (eT P "alike" 652 (.ref 345)), (eT P "taken" 661 (.ref 352)), (eT P "__mul__" 669 (.ref 359)), (eT P "__eq__" 677 (.ref 366)), (eT P "__repr__" 688 (.ref 373)), (eT P "__static_attributes__" 690 (.ref 374)), (eT P "__dict__" 692 (.ref 377)), (eT P "__weakref__" 694 (.ref 378)), (eT P "__doc__" 695 .none), (eT P "__hash__" 696 .none)] 5
def o1_376 : Q0 := (.mk (.type "type") none (.cls (.mk "Table" [(.type "object")] [(.ref 376), (.type "object")] 375 "Table" true [] [] false none false)) #[none, none, (some (.str "Table" 536)), (some (.str "Table" 544)), (some (.builtin "object.__new__")), (some (.bool true))])
def o1_377 : Q0 := (.mk (.type "getset_descriptor") none (.fields #[(.str "__dict__" 691), (.ref 376), (.builtin "function.__dict__"), (.builtin "function.__dict__#set")]) #[])
def o1_378 : Q0 := (.mk (.type "getset_descriptor") none (.fields #[(.str "__weakref__" 693), (.ref 376), (.builtin "ExceptionGroup.__weakref__"), .none]) #[])
def o1_379 : Q0 := (.mk (.type "super") none (.fields #[(.ref 376), (.ref 376), (.ref 376)]) #[])
def o1_380 : Q0 := bO "object.__init_subclass__" (.ref 376)
def T1 (P : Params) : BT := (nO (boot_o_0 P) (nO (boot_o_1 P) (nO (o1_3 P) (nO (boot_o_7 P) (nO o1_15 (nO o1_31 (nO o1_63 (nO o1_127 (lO o1_255) .nil) (nO o1_191 (lO o1_319) .nil)) (nO o1_95 (nO o1_159 (lO o1_287) .nil) (nO o1_223 (lO o1_351) .nil))) (nO o1_47 (nO o1_79 (nO o1_143 (lO o1_271) .nil) (nO o1_207 (lO o1_335) .nil)) (nO o1_111 (nO o1_175 (lO o1_303) .nil) (nO o1_239 (lO o1_367) .nil)))) (nO o1_23 (nO o1_39 (nO o1_71 (nO o1_135 (lO o1_263) .nil) (nO o1_199 (lO o1_327) .nil)) (nO o1_103 (nO o1_167 (lO o1_295) .nil) (nO o1_231 (lO o1_359) .nil))) (nO o1_55 (nO o1_87 (nO (o1_151 P) (lO o1_279) .nil) (nO o1_215 (lO o1_343) .nil)) (nO o1_119 (nO (o1_183 P) (lO o1_311) .nil) (nO o1_247 (lO (o1_375 P)) .nil))))) (nO o1_11 (nO o1_19 (nO o1_35 (nO o1_67 (nO o1_131 (lO o1_259) .nil) (nO o1_195 (lO o1_323) .nil)) (nO o1_99 (nO o1_163 (lO o1_291) .nil) (nO o1_227 (lO o1_355) .nil))) (nO o1_51 (nO o1_83 (nO o1_147 (lO o1_275) .nil) (nO o1_211 (lO o1_339) .nil)) (nO o1_115 (nO o1_179 (lO o1_307) .nil) (nO o1_243 (lO o1_371) .nil)))) (nO o1_27 (nO o1_43 (nO (o1_75 P) (nO o1_139 (lO o1_267) .nil) (nO o1_203 (lO o1_331) .nil)) (nO (o1_107 P) (nO o1_171 (lO o1_299) .nil) (nO o1_235 (lO o1_363) .nil))) (nO o1_59 (nO o1_91 (nO o1_155 (lO o1_283) .nil) (nO o1_219 (lO o1_347) .nil)) (nO o1_123 (nO o1_187 (lO o1_315) .nil) (nO o1_251 (lO o1_379) .nil)))))) (nO (boot_o_5 P) (nO (boot_o_9 P) (nO o1_17 (nO o1_33 (nO o1_65 (nO o1_129 (lO o1_257) .nil) (nO o1_193 (lO o1_321) .nil)) (nO o1_97 (nO o1_161 (lO o1_289) .nil) (nO o1_225 (lO o1_353) .nil))) (nO o1_49 (nO o1_81 (nO (o1_145 P) (lO o1_273) .nil) (nO o1_209 (lO o1_337) .nil)) (nO (o1_113 P) (nO o1_177 (lO o1_305) .nil) (nO o1_241 (lO o1_369) .nil)))) (nO o1_25 (nO o1_41 (nO o1_73 (nO o1_137 (lO o1_265) .nil) (nO o1_201 (lO o1_329) .nil)) (nO o1_105 (nO o1_169 (lO o1_297) .nil) (nO o1_233 (lO o1_361) .nil))) (nO o1_57 (nO o1_89 (nO o1_153 (lO o1_281) .nil) (nO o1_217 (lO o1_345) .nil)) (nO o1_121 (nO o1_185 (lO o1_313) .nil) (nO o1_249 (lO o1_377) .nil))))) (nO o1_13 (nO o1_21 (nO (o1_37 P) (nO (o1_69 P) (nO o1_133 (lO (o1_261 P)) .nil) (nO o1_197 (lO o1_325) .nil)) (nO o1_101 (nO o1_165 (lO o1_293) .nil) (nO o1_229 (lO o1_357) .nil))) (nO o1_53 (nO o1_85 (nO o1_149 (lO o1_277) .nil) (nO o1_213 (lO o1_341) .nil)) (nO o1_117 (nO o1_181 (lO o1_309) .nil) (nO o1_245 (lO o1_373) .nil)))) (nO o1_29 (nO o1_45 (nO o1_77 (nO o1_141 (lO o1_269) .nil) (nO o1_205 (lO o1_333) .nil)) (nO o1_109 (nO o1_173 (lO o1_301) .nil) (nO o1_237 (lO o1_365) .nil))) (nO o1_61 (nO o1_93 (nO o1_157 (lO o1_285) .nil) (nO o1_221 (lO o1_349) .nil)) (nO o1_125 (nO o1_189 (lO o1_317) .nil) (lO o1_253))))))) (nO (boot_o_2 P) (nO (boot_o_4 P) (nO (boot_o_8 P) (nO o1_16 (nO o1_32 (nO o1_64 (nO o1_128 (lO o1_256) .nil) (nO o1_192 (lO o1_320) .nil)) (nO o1_96 (nO o1_160 (lO o1_288) .nil) (nO o1_224 (lO o1_352) .nil))) (nO o1_48 (nO o1_80 (nO o1_144 (lO o1_272) .nil) (nO o1_208 (lO o1_336) .nil)) (nO o1_112 (nO o1_176 (lO o1_304) .nil) (nO o1_240 (lO o1_368) .nil)))) (nO (o1_24 P) (nO o1_40 (nO o1_72 (nO o1_136 (lO o1_264) .nil) (nO o1_200 (lO o1_328) .nil)) (nO o1_104 (nO o1_168 (lO o1_296) .nil) (nO o1_232 (lO o1_360) .nil))) (nO (o1_56 P) (nO (o1_88 P) (nO o1_152 (lO o1_280) .nil) (nO o1_216 (lO o1_344) .nil)) (nO o1_120 (nO o1_184 (lO o1_312) .nil) (nO o1_248 (lO o1_376) .nil))))) (nO o1_12 (nO o1_20 (nO o1_36 (nO o1_68 (nO (o1_132 P) (lO o1_260) .nil) (nO o1_196 (lO o1_324) .nil)) (nO o1_100 (nO (o1_164 P) (lO o1_292) .nil) (nO o1_228 (lO o1_356) .nil))) (nO o1_52 (nO o1_84 (nO o1_148 (lO o1_276) .nil) (nO o1_212 (lO o1_340) .nil)) (nO o1_116 (nO o1_180 (lO o1_308) .nil) (nO o1_244 (lO o1_372) .nil)))) (nO o1_28 (nO o1_44 (nO o1_76 (nO o1_140 (lO o1_268) .nil) (nO o1_204 (lO o1_332) .nil)) (nO o1_108 (nO o1_172 (lO o1_300) .nil) (nO o1_236 (lO o1_364) .nil))) (nO o1_60 (nO o1_92 (nO o1_156 (lO o1_284) .nil) (nO o1_220 (lO o1_348) .nil)) (nO o1_124 (nO o1_188 (lO o1_316) .nil) (nO o1_252 (lO o1_380) .nil)))))) (nO (boot_o_6 P) (nO (boot_o_10 P) (nO o1_18 (nO o1_34 (nO o1_66 (nO o1_130 (lO o1_258) .nil) (nO o1_194 (lO o1_322) .nil)) (nO o1_98 (nO o1_162 (lO o1_290) .nil) (nO o1_226 (lO o1_354) .nil))) (nO (o1_50 P) (nO o1_82 (nO o1_146 (lO o1_274) .nil) (nO o1_210 (lO o1_338) .nil)) (nO o1_114 (nO o1_178 (lO o1_306) .nil) (nO o1_242 (lO o1_370) .nil)))) (nO o1_26 (nO o1_42 (nO o1_74 (nO o1_138 (lO o1_266) .nil) (nO o1_202 (lO o1_330) .nil)) (nO o1_106 (nO (o1_170 P) (lO o1_298) .nil) (nO o1_234 (lO o1_362) .nil))) (nO o1_58 (nO o1_90 (nO o1_154 (lO o1_282) .nil) (nO o1_218 (lO o1_346) .nil)) (nO o1_122 (nO o1_186 (lO o1_314) .nil) (nO o1_250 (lO o1_378) .nil))))) (nO o1_14 (nO o1_22 (nO o1_38 (nO o1_70 (nO o1_134 (lO o1_262) .nil) (nO o1_198 (lO o1_326) .nil)) (nO o1_102 (nO o1_166 (lO o1_294) .nil) (nO o1_230 (lO o1_358) .nil))) (nO o1_54 (nO o1_86 (nO o1_150 (lO (o1_278 P)) .nil) (nO o1_214 (lO o1_342) .nil)) (nO o1_118 (nO o1_182 (lO o1_310) .nil) (nO o1_246 (lO o1_374) .nil)))) (nO (o1_30 P) (nO o1_46 (nO o1_78 (nO o1_142 (lO o1_270) .nil) (nO o1_206 (lO o1_334) .nil)) (nO o1_110 (nO o1_174 (lO o1_302) .nil) (nO o1_238 (lO o1_366) .nil))) (nO o1_62 (nO (o1_94 P) (nO o1_158 (lO o1_286) .nil) (nO o1_222 (lO o1_350) .nil)) (nO (o1_126 P) (nO o1_190 (lO o1_318) .nil) (lO o1_254))))))))
def S1 (w : World) (os : OsState) : SharedT := ⟨T1 w.params, 381, (Life.mk [] [] [] 0 [] [] Bool.false (List.toArray []) [] 0 Bool.false Bool.false Bool.false 0 [2000, 10, 10] Bool.false 0 Bool.true [] [] 0 Bool.false), #[], (Drawn.mk 0 0 0 0), 699, os⟩
def o2_3 (P : Params) : Q0 := dO [(eT P "__name__" 165 (.str "turnmill.links" 896)), (eT P "__doc__" 166 .none), (eT P "__package__" 167 .none), (eT P "__loader__" 168 (.builtin "__main__.__loader__#opaque")), (eT P "__spec__" 169 .none), (eT P "__annotations__" 170 (.ref 6)), (eT P "__builtins__" 171 (.ref 4)), (eT P "__file__" 173 (.str "/claim/cut.py" 172)), (eT P "__cached__" 174 .none), (eT P "_wall" 193 (.ref 21)), (eT P "MillError" 213 (.ref 31)), (eT P "InvalidWord" 239 (.ref 51)), (eT P "InvalidTable" 263 (.ref 70)), (eT P "InvalidNumber" 287 (.ref 89)), (eT P "InvalidRing" 313 (.ref 108)), (eT P "InvalidCount" 339 (.ref 127)), (eT P "InvalidIndex" 365 (.ref 146)), (eT P "TooLong" 391 (.ref 165)), (eT P "ParseError" 417 (.ref 184)), (eT P "TURNS" 421 (.str "LR" 420)), (eT P "MOST_TURNS" 423 (.int 4000 422)), (eT P "LEFT" 428 (.ref 187)), (eT P "RIGHT" 433 (.ref 188)), (eT P "NEUTRAL" 438 (.ref 189)), (eT P "is_integer" 445 (.ref 196)), (eT P "is_within" 454 (.ref 203)), (eT P "is_word" 460 (.ref 208)), (eT P "check_word" 467 (.ref 215)), (eT P "divisor_of" 478 (.ref 222)), (eT P "product" 494 (.ref 229)), (eT P "word_table" 503 (.ref 236)), (eT P "divided" 509 (.ref 241)), (eT P "least_times" 515 (.ref 246)), (eT P "runs_taken" 529 (.ref 253)), (eT P "word_taken" 535 (.ref 258)), (eT P "Table" 698 (.ref 376)), (eT P "table_with" 709 (.ref 387)), (eT P "root_floor" 721 (.ref 394)), (eT P "is_square" 729 (.ref 401)), (eT P "sign_of" 736 (.ref 408)), (eT P "root_sign" 747 (.ref 415)), (eT P "Number" 883 (.ref 513)), (eT P "number_led" 895 (.ref 524)), (eT P "SWAP" 902 (.ref 525)), (eT P "is_root" 909 (.ref 532)), (eT P "are_unlike" 917 (.ref 539)), (eT P "leads" 926 (.ref 546)), (eT P "Tie" 1009 (.ref 615)), (eT P "Link" 1081 (.ref 676)), (eT P "determinant_text" 1088 (.ref 685)), (eT P "Unlike" 1118 (.ref 709))] 51
def o2_12 : Q0 := (.mk .none none (.fields #[(.int 1 0), (.int 0 0), (.ref 20), (.int 5 0), (.int 0 0), (.ref 27), (.int 7 0), (.int 0 0), (.ref 40), (.int 12 0), (.int 0 0), (.ref 59), (.int 16 0), (.int 0 0), (.ref 78), (.int 20 0), (.int 0 0), (.ref 97), (.int 25 0), (.int 0 0), (.ref 116), (.int 30 0), (.int 0 0), (.ref 135), (.int 35 0), (.int 0 0), (.ref 154), (.int 40 0), (.int 0 0), (.ref 173), (.int 51 0), (.int 0 0), (.ref 195), (.int 53 0), (.int 0 0), (.ref 202), (.int 55 0), (.int 0 0), (.ref 207), (.int 57 0), (.int 0 0), (.ref 214), (.int 60 0), (.int 0 0), (.ref 221), (.int 68 0), (.int 0 0), (.ref 228), (.int 72 0), (.int 0 0), (.ref 235), (.int 77 0), (.int 0 0), (.ref 240), (.int 80 0), (.int 0 0), (.ref 245), (.int 82 0), (.int 0 0), (.ref 252), (.int 99 0), (.int 0 0), (.ref 257), (.int 104 0), (.int 0 0), (.ref 264), (.int 167 0), (.int 0 0), (.ref 386), (.int 171 0), (.int 0 0), (.ref 393), (.int 182 0), (.int 0 0), (.ref 400), (.int 185 0), (.int 0 0), (.ref 407), (.int 187 0), (.int 0 0), (.ref 414), (.int 192 0), (.int 0 0), (.ref 421), (.int 257 0), (.int 0 0), (.ref 523), (.int 264 0), (.int 0 0), (.ref 531), (.int 266 0), (.int 0 0), (.ref 538), (.int 270 0), (.int 0 0), (.ref 545), (.int 274 0), (.int 0 0), (.ref 552), (.int 303 0), (.int 0 0), (.ref 626), (.int 331 0), (.int 0 0), (.ref 684), (.int 333 0), (.int 0 0), (.ref 691)]) #[])
def o2_381 : Q0 := tO []
def o2_382 : Q0 := eO
def o2_383 : Q0 := tO [(.str "entries" 702), (.str "a" 703), (.str "b" 704), (.str "c" 705), (.str "d" 706)]
def o2_384 : Q0 := tO []
def o2_385 : Q0 := fO "table_with" "table_with" (top 29) 0
def o2_386 : Q0 := cO "table_with" "table_with" 699 167 1 0 0 3 381 true 181 382 (.ref 383) (.ref 384) (.ref 385) 707 167 708
def o2_387 : Q0 := gO "table_with" "table_with" (top 29) 3 "turnmill.tables" 418 386
def o2_388 : Q0 := tO []
def o2_389 : Q0 := eO
def o2_390 : Q0 := tO [(.str "number" 715), (.str "low" 716), (.str "high" 717), (.str "middle" 718)]
def o2_391 : Q0 := tO []
def o2_392 : Q0 := fO "root_floor" "root_floor" (top 31) 0
def o2_393 : Q0 := cO "root_floor" "root_floor" 712 171 1 0 0 3 388 true 181 389 (.ref 390) (.ref 391) (.ref 392) 719 171 720
def o2_394 : Q0 := gO "root_floor" "root_floor" (top 31) 3 "turnmill.numbers" 710 393
def o2_395 : Q0 := tO []
def o2_396 : Q0 := eO
def o2_397 : Q0 := tO [(.str "number" 725), (.str "root" 726)]
def o2_398 : Q0 := tO []
def o2_399 : Q0 := fO "is_square" "is_square" (top 32) 0
def o2_400 : Q0 := cO "is_square" "is_square" 722 182 1 0 0 3 395 true 181 396 (.ref 397) (.ref 398) (.ref 399) 727 182 728
def o2_401 : Q0 := gO "is_square" "is_square" (top 32) 3 "turnmill.numbers" 710 400
def o2_402 : Q0 := tO []
def o2_403 : Q0 := eO
def o2_404 : Q0 := tO [(.str "number" 733)]
def o2_405 : Q0 := tO []
def o2_406 : Q0 := fO "sign_of" "sign_of" (top 33) 0
def o2_407 : Q0 := cO "sign_of" "sign_of" 730 185 1 0 0 3 402 true 181 403 (.ref 404) (.ref 405) (.ref 406) 734 185 735
def o2_408 : Q0 := gO "sign_of" "sign_of" (top 33) 3 "turnmill.numbers" 710 407
def o2_409 : Q0 := tO []
def o2_410 : Q0 := eO
def o2_411 : Q0 := tO [(.str "whole" 740), (.str "factor" 741), (.str "under" 742), (.str "one" 743), (.str "other" 744)]
def o2_412 : Q0 := tO []
def o2_413 : Q0 := fO "root_sign" "root_sign" (top 34) 0
def o2_414 : Q0 := cO "root_sign" "root_sign" 737 187 3 0 0 3 409 true 181 410 (.ref 411) (.ref 412) (.ref 413) 745 187 746
def o2_415 : Q0 := gO "root_sign" "root_sign" (top 34) 3 "turnmill.numbers" 710 414
def o2_416 : Q0 := tO []
def o2_417 : Q0 := bO "type.__prepare__" (.type "type")
def o2_418 (P : Params) : Q0 := dO [(eT P "__module__" 755 (.str "turnmill.numbers" 710)), (eT P "__qualname__" 757 (.str "Number" 756)), (eT P "__firstlineno__" 759 (.int 192 758)), (eT P "__init__" 768 (.ref 429)), (eT P "top" 776 (.ref 437)), (eT P "bottom" 784 (.ref 445)), (eT P "under" 792 (.ref 453)), (eT P "is_fraction" 800 (.ref 461)), (eT P "text" 810 (.ref 468)), (eT P "sign" 820 (.ref 475)), (eT P "floor" 830 (.ref 482)), (eT P "is_below" 838 (.ref 489)), (eT P "led" 858 (.ref 496)), (eT P "__eq__" 866 (.ref 503)), (eT P "__repr__" 873 (.ref 510)), (eT P "__static_attributes__" 875 (.ref 511))] 16
def o2_419 : Q0 := tO []
def o2_420 : Q0 := (.mk .none none (.fields #[(.int 194 0), (.int 4 0), (.ref 428), (.int 208 0), (.int 4 0), (.ref 435), (.int 212 0), (.int 4 0), (.ref 443), (.int 216 0), (.int 4 0), (.ref 451), (.int 220 0), (.int 4 0), (.ref 459), (.int 223 0), (.int 4 0), (.ref 467), (.int 229 0), (.int 4 0), (.ref 474), (.int 233 0), (.int 4 0), (.ref 481), (.int 239 0), (.int 4 0), (.ref 488), (.int 242 0), (.int 4 0), (.ref 495), (.int 252 0), (.int 4 0), (.ref 502), (.int 255 0), (.int 4 0), (.ref 509)]) #[])
def o2_421 : Q0 := cO "Number" "Number" 750 192 0 0 0 0 419 false 181 420 .none .none .none 753 192 754
def o2_422 : Q0 := rO 421 3 418 "turnmill.numbers" 710 0
def o2_423 : Q0 := tO [(.int 1 760)]
def o2_424 (P : Params) : Q0 := dO [(eT P "under" 762 (.int 0 761))] 1
def o2_425 : Q0 := tO []
def o2_426 : Q0 := eO
def o2_427 : Q0 := fO "__init__" "Number.__init__" (L2.inClass (top 35) 0) 0
def o2_428 : Q0 := cO "__init__" "Number.__init__" 763 194 3 0 1 3 425 true 181 426 .none .none (.ref 427) 766 194 767
def o2_429 : Q0 := ⟨(.type "function"), none, .func ⟨"__init__", "Number.__init__", L2.defArgs (L2.inClass (top 35) 0), .stmts (L2.defBody (L2.inClass (top 35) 0)), L2.defScope (L2.inClass (top 35) 0), 3, [], (.ref 423), (.ref 424), .none, (.str "turnmill.numbers" 710), none, (.ref 428), .none, 0⟩, #[]⟩
def o2_430 : Q0 := tO []
def o2_431 : Q0 := eO
def o2_432 : Q0 := tO [(.str "self" 772)]
def o2_433 : Q0 := tO []
def o2_434 : Q0 := fO "top" "Number.top" (L2.inClass (top 35) 1) 0
def o2_435 : Q0 := cO "top" "Number.top" 769 207 1 0 0 3 430 true 181 431 (.ref 432) (.ref 433) (.ref 434) 773 207 774
def o2_436 : Q0 := gO "top" "Number.top" (L2.inClass (top 35) 1) 3 "turnmill.numbers" 710 435
def o2_437 : Q0 := (.mk (.type "property") none (.fields #[(.ref 436), .none, .none, .none, (.str "top" 776), (.bool false)]) #[])
def o2_438 : Q0 := tO []
def o2_439 : Q0 := eO
def o2_440 : Q0 := tO [(.str "self" 780)]
def o2_441 : Q0 := tO []
def o2_442 : Q0 := fO "bottom" "Number.bottom" (L2.inClass (top 35) 2) 0
def o2_443 : Q0 := cO "bottom" "Number.bottom" 777 211 1 0 0 3 438 true 181 439 (.ref 440) (.ref 441) (.ref 442) 781 211 782
def o2_444 : Q0 := gO "bottom" "Number.bottom" (L2.inClass (top 35) 2) 3 "turnmill.numbers" 710 443
def o2_445 : Q0 := (.mk (.type "property") none (.fields #[(.ref 444), .none, .none, .none, (.str "bottom" 784), (.bool false)]) #[])
def o2_446 : Q0 := tO []
def o2_447 : Q0 := eO
def o2_448 : Q0 := tO [(.str "self" 788)]
def o2_449 : Q0 := tO []
def o2_450 : Q0 := fO "under" "Number.under" (L2.inClass (top 35) 3) 0
def o2_451 : Q0 := cO "under" "Number.under" 785 215 1 0 0 3 446 true 181 447 (.ref 448) (.ref 449) (.ref 450) 789 215 790
def o2_452 : Q0 := gO "under" "Number.under" (L2.inClass (top 35) 3) 3 "turnmill.numbers" 710 451
def o2_453 : Q0 := (.mk (.type "property") none (.fields #[(.ref 452), .none, .none, .none, (.str "under" 792), (.bool false)]) #[])
def o2_454 : Q0 := tO []
def o2_455 : Q0 := eO
def o2_456 : Q0 := tO [(.str "self" 796)]
def o2_457 : Q0 := tO []
def o2_458 : Q0 := fO "is_fraction" "Number.is_fraction" (L2.inClass (top 35) 4) 0
def o2_459 : Q0 := cO "is_fraction" "Number.is_fraction" 793 219 1 0 0 3 454 true 181 455 (.ref 456) (.ref 457) (.ref 458) 797 219 798
def o2_460 : Q0 := gO "is_fraction" "Number.is_fraction" (L2.inClass (top 35) 4) 3 "turnmill.numbers" 710 459
def o2_461 : Q0 := (.mk (.type "property") none (.fields #[(.ref 460), .none, .none, .none, (.str "is_fraction" 800), (.bool false)]) #[])
def o2_462 : Q0 := tO []
def o2_463 : Q0 := eO
def o2_464 : Q0 := tO [(.str "self" 804), (.str "top" 805), (.str "bottom" 806), (.str "under" 807)]
def o2_465 : Q0 := tO []
def o2_466 : Q0 := fO "text" "Number.text" (L2.inClass (top 35) 5) 0
def o2_467 : Q0 := cO "text" "Number.text" 801 223 1 0 0 3 462 true 181 463 (.ref 464) (.ref 465) (.ref 466) 808 223 809
def o2_468 : Q0 := gO "text" "Number.text" (L2.inClass (top 35) 5) 3 "turnmill.numbers" 710 467
def o2_469 : Q0 := tO []
def o2_470 : Q0 := eO
def o2_471 : Q0 := tO [(.str "self" 814), (.str "top" 815), (.str "bottom" 816), (.str "under" 817)]
def o2_472 : Q0 := tO []
def o2_473 : Q0 := fO "sign" "Number.sign" (L2.inClass (top 35) 6) 0
def o2_474 : Q0 := cO "sign" "Number.sign" 811 229 1 0 0 3 469 true 181 470 (.ref 471) (.ref 472) (.ref 473) 818 229 819
def o2_475 : Q0 := gO "sign" "Number.sign" (L2.inClass (top 35) 6) 3 "turnmill.numbers" 710 474
def o2_476 : Q0 := tO []
def o2_477 : Q0 := eO
def o2_478 : Q0 := tO [(.str "self" 824), (.str "top" 825), (.str "bottom" 826), (.str "under" 827)]
def o2_479 : Q0 := tO []
def o2_480 : Q0 := fO "floor" "Number.floor" (L2.inClass (top 35) 7) 0
def o2_481 : Q0 := cO "floor" "Number.floor" 821 233 1 0 0 3 476 true 181 477 (.ref 478) (.ref 479) (.ref 480) 828 233 829
def o2_482 : Q0 := gO "floor" "Number.floor" (L2.inClass (top 35) 7) 3 "turnmill.numbers" 710 481
def o2_483 : Q0 := tO []
def o2_484 : Q0 := eO
def o2_485 : Q0 := tO [(.str "self" 834), (.str "other" 835)]
def o2_486 : Q0 := tO []
def o2_487 : Q0 := fO "is_below" "Number.is_below" (L2.inClass (top 35) 8) 0
def o2_488 : Q0 := cO "is_below" "Number.is_below" 831 239 2 0 0 3 483 true 181 484 (.ref 485) (.ref 486) (.ref 487) 836 239 837
def o2_489 : Q0 := gO "is_below" "Number.is_below" (L2.inClass (top 35) 8) 3 "turnmill.numbers" 710 488
def o2_490 : Q0 := tO []
def o2_491 : Q0 := eO
def o2_492 : Q0 := tO [(.str "self" 842), (.str "table" 843), (.str "a" 844), (.str "b" 845), (.str "c" 846), (.str "d" 847), (.str "top" 848), (.str "bottom" 849), (.str "under" 850), (.str "upper" 851), (.str "lower" 852), (.str "factor" 853), (.str "rest" 854), (.str "sign" 855)]
def o2_493 : Q0 := tO []
def o2_494 : Q0 := fO "led" "Number.led" (L2.inClass (top 35) 9) 0
def o2_495 : Q0 := cO "led" "Number.led" 839 242 2 0 0 3 490 true 181 491 (.ref 492) (.ref 493) (.ref 494) 856 242 857
def o2_496 : Q0 := gO "led" "Number.led" (L2.inClass (top 35) 9) 3 "turnmill.numbers" 710 495
def o2_497 : Q0 := tO []
def o2_498 : Q0 := eO
def o2_499 : Q0 := tO [(.str "self" 862), (.str "other" 863)]
def o2_500 : Q0 := tO []
def o2_501 : Q0 := fO "__eq__" "Number.__eq__" (L2.inClass (top 35) 10) 0
def o2_502 : Q0 := cO "__eq__" "Number.__eq__" 859 252 2 0 0 3 497 true 181 498 (.ref 499) (.ref 500) (.ref 501) 864 252 865
def o2_503 : Q0 := gO "__eq__" "Number.__eq__" (L2.inClass (top 35) 10) 3 "turnmill.numbers" 710 502
def o2_504 : Q0 := tO []
def o2_505 : Q0 := eO
def o2_506 : Q0 := tO [(.str "self" 870)]
def o2_507 : Q0 := tO []
def o2_508 : Q0 := fO "__repr__" "Number.__repr__" (L2.inClass (top 35) 11) 0
def o2_509 : Q0 := cO "__repr__" "Number.__repr__" 867 255 1 0 0 3 504 true 181 505 (.ref 506) (.ref 507) (.ref 508) 871 255 872
def o2_510 : Q0 := gO "__repr__" "Number.__repr__" (L2.inClass (top 35) 11) 3 "turnmill.numbers" 710 509
def o2_511 : Q0 := tO [(.str "whole" 874)]
def o2_512 (P : Params) : Q0 := dO [(eT P "__module__" 755 (.str "turnmill.numbers" 710)), (eT P "__firstlineno__" 759 (.int 192 758)), (eT P "__init__" 768 (.ref 429)), (eT P "top" 776 (.ref 437)), (eT P "bottom" 784 (.ref 445)), (eT P "under" 792 (.ref 453)), (eT P "is_fraction" 800 (.ref 461)), (eT P "text" 810 (.ref 468)), (eT P "sign" 820 (.ref 475)), (eT P "floor" 830 (.ref 482)), (eT P "is_below" 838 (.ref 489)), (eT P "led" 858 (.ref 496)), (eT P "__eq__" 866 (.ref 503)), (eT P "__repr__" 873 (.ref 510)), (eT P "__static_attributes__" 875 (.ref 511)), (eT P "__dict__" 877 (.ref 514)), (eT P "__weakref__" 879 (.ref 515)), (eT P "__doc__" 880 .none), (eT P "__hash__" 881 .none)] 5
def o2_513 : Q0 := (.mk (.type "type") none (.cls (.mk "Number" [(.type "object")] [(.ref 513), (.type "object")] 512 "Number" true [] [] false none false)) #[none, none, (some (.str "Number" 748)), (some (.str "Number" 756)), (some (.builtin "object.__new__")), (some (.bool true))])
def o2_514 : Q0 := (.mk (.type "getset_descriptor") none (.fields #[(.str "__dict__" 876), (.ref 513), (.builtin "function.__dict__"), (.builtin "function.__dict__#set")]) #[])
def o2_515 : Q0 := (.mk (.type "getset_descriptor") none (.fields #[(.str "__weakref__" 878), (.ref 513), (.builtin "ExceptionGroup.__weakref__"), .none]) #[])
def o2_516 : Q0 := (.mk (.type "super") none (.fields #[(.ref 513), (.ref 513), (.ref 513)]) #[])
def o2_517 : Q0 := bO "object.__init_subclass__" (.ref 513)
def o2_518 : Q0 := tO []
def o2_519 : Q0 := eO
def o2_520 : Q0 := tO [(.str "number" 887), (.str "table" 888), (.str "a" 889), (.str "b" 890), (.str "c" 891), (.str "d" 892)]
def o2_521 : Q0 := tO []
def o2_522 : Q0 := fO "number_led" "number_led" (top 36) 0
def o2_523 : Q0 := cO "number_led" "number_led" 884 257 2 0 0 3 518 true 181 519 (.ref 520) (.ref 521) (.ref 522) 893 257 894
def o2_524 : Q0 := gO "number_led" "number_led" (top 36) 3 "turnmill.numbers" 710 523
def o2_525 : Q0 := tO [(.int 0 898), (.int 1 899), (.int 1 900), (.int 0 901)]
def o2_526 : Q0 := tO []
def o2_527 : Q0 := eO
def o2_528 : Q0 := tO [(.str "row" 906)]
def o2_529 : Q0 := tO []
def o2_530 : Q0 := fO "is_root" "is_root" (top 39) 0
def o2_531 : Q0 := cO "is_root" "is_root" 903 264 1 0 0 3 526 true 181 527 (.ref 528) (.ref 529) (.ref 530) 907 264 908
def o2_532 : Q0 := gO "is_root" "is_root" (top 39) 3 "turnmill.links" 896 531
def o2_533 : Q0 := tO []
def o2_534 : Q0 := eO
def o2_535 : Q0 := tO [(.str "row" 913), (.str "other" 914)]
def o2_536 : Q0 := tO []
def o2_537 : Q0 := fO "are_unlike" "are_unlike" (top 40) 0
def o2_538 : Q0 := cO "are_unlike" "are_unlike" 910 266 2 0 0 3 533 true 181 534 (.ref 535) (.ref 536) (.ref 537) 915 266 916
def o2_539 : Q0 := gO "are_unlike" "are_unlike" (top 40) 3 "turnmill.links" 896 538
def o2_540 : Q0 := tO []
def o2_541 : Q0 := eO
def o2_542 : Q0 := tO [(.str "table" 921), (.str "row" 922), (.str "other" 923)]
def o2_543 : Q0 := tO []
def o2_544 : Q0 := fO "leads" "leads" (top 41) 0
def o2_545 : Q0 := cO "leads" "leads" 918 270 3 0 0 3 540 true 181 541 (.ref 542) (.ref 543) (.ref 544) 924 270 925
def o2_546 : Q0 := gO "leads" "leads" (top 41) 3 "turnmill.links" 896 545
def o2_547 : Q0 := tO []
def o2_548 : Q0 := bO "type.__prepare__" (.type "type")
def o2_549 (P : Params) : Q0 := dO [(eT P "__module__" 934 (.str "turnmill.links" 896)), (eT P "__qualname__" 936 (.str "Tie" 935)), (eT P "__firstlineno__" 938 (.int 274 937)), (eT P "__init__" 947 (.ref 560)), (eT P "row" 955 (.ref 568)), (eT P "other" 963 (.ref 576)), (eT P "linked" 971 (.ref 584)), (eT P "told" 978 (.ref 591)), (eT P "holds" 985 (.ref 598)), (eT P "__bool__" 992 (.ref 605)), (eT P "__repr__" 999 (.ref 612)), (eT P "__static_attributes__" 1002 (.ref 613))] 12
def o2_550 : Q0 := tO []
def o2_551 : Q0 := (.mk .none none (.fields #[(.int 276 0), (.int 4 0), (.ref 559), (.int 281 0), (.int 4 0), (.ref 566), (.int 285 0), (.int 4 0), (.ref 574), (.int 289 0), (.int 4 0), (.ref 582), (.int 292 0), (.int 4 0), (.ref 590), (.int 295 0), (.int 4 0), (.ref 597), (.int 298 0), (.int 4 0), (.ref 604), (.int 301 0), (.int 4 0), (.ref 611)]) #[])
def o2_552 : Q0 := cO "Tie" "Tie" 929 274 0 0 0 0 550 false 181 551 .none .none .none 932 274 933
def o2_553 : Q0 := rO 552 3 549 "turnmill.links" 896 0
def o2_554 : Q0 := tO []
def o2_555 : Q0 := eO
def o2_556 : Q0 := tO [(.str "self" 942), (.str "row" 943), (.str "other" 944)]
def o2_557 : Q0 := tO []
def o2_558 : Q0 := fO "__init__" "Tie.__init__" (L2.inClass (top 42) 0) 0
def o2_559 : Q0 := cO "__init__" "Tie.__init__" 939 276 3 0 0 3 554 true 181 555 (.ref 556) (.ref 557) (.ref 558) 945 276 946
def o2_560 : Q0 := gO "__init__" "Tie.__init__" (L2.inClass (top 42) 0) 3 "turnmill.links" 896 559
def o2_561 : Q0 := tO []
def o2_562 : Q0 := eO
def o2_563 : Q0 := tO [(.str "self" 951)]
def o2_564 : Q0 := tO []
def o2_565 : Q0 := fO "row" "Tie.row" (L2.inClass (top 42) 1) 0
def o2_566 : Q0 := cO "row" "Tie.row" 948 280 1 0 0 3 561 true 181 562 (.ref 563) (.ref 564) (.ref 565) 952 280 953
def o2_567 : Q0 := gO "row" "Tie.row" (L2.inClass (top 42) 1) 3 "turnmill.links" 896 566
def o2_568 : Q0 := (.mk (.type "property") none (.fields #[(.ref 567), .none, .none, .none, (.str "row" 955), (.bool false)]) #[])
def o2_569 : Q0 := tO []
def o2_570 : Q0 := eO
def o2_571 : Q0 := tO [(.str "self" 959)]
def o2_572 : Q0 := tO []
def o2_573 : Q0 := fO "other" "Tie.other" (L2.inClass (top 42) 2) 0
def o2_574 : Q0 := cO "other" "Tie.other" 956 284 1 0 0 3 569 true 181 570 (.ref 571) (.ref 572) (.ref 573) 960 284 961
def o2_575 : Q0 := gO "other" "Tie.other" (L2.inClass (top 42) 2) 3 "turnmill.links" 896 574
def o2_576 : Q0 := (.mk (.type "property") none (.fields #[(.ref 575), .none, .none, .none, (.str "other" 963), (.bool false)]) #[])
def o2_577 : Q0 := tO []
def o2_578 : Q0 := eO
def o2_579 : Q0 := tO [(.str "self" 967)]
def o2_580 : Q0 := tO []
def o2_581 : Q0 := fO "linked" "Tie.linked" (L2.inClass (top 42) 3) 0
def o2_582 : Q0 := cO "linked" "Tie.linked" 964 288 1 0 0 3 577 true 181 578 (.ref 579) (.ref 580) (.ref 581) 968 288 969
def o2_583 : Q0 := gO "linked" "Tie.linked" (L2.inClass (top 42) 3) 3 "turnmill.links" 896 582
def o2_584 : Q0 := (.mk (.type "property") none (.fields #[(.ref 583), .none, .none, .none, (.str "linked" 971), (.bool false)]) #[])
def o2_585 : Q0 := tO []
def o2_586 : Q0 := eO
def o2_587 : Q0 := tO [(.str "self" 975)]
def o2_588 : Q0 := tO []
def o2_589 : Q0 := fO "told" "Tie.told" (L2.inClass (top 42) 4) 0
def o2_590 : Q0 := cO "told" "Tie.told" 972 292 1 0 0 3 585 true 181 586 (.ref 587) (.ref 588) (.ref 589) 976 292 977
def o2_591 : Q0 := gO "told" "Tie.told" (L2.inClass (top 42) 4) 3 "turnmill.links" 896 590
def o2_592 : Q0 := tO []
def o2_593 : Q0 := eO
def o2_594 : Q0 := tO [(.str "self" 982)]
def o2_595 : Q0 := tO []
def o2_596 : Q0 := fO "holds" "Tie.holds" (L2.inClass (top 42) 5) 0
def o2_597 : Q0 := cO "holds" "Tie.holds" 979 295 1 0 0 3 592 true 181 593 (.ref 594) (.ref 595) (.ref 596) 983 295 984
def o2_598 : Q0 := gO "holds" "Tie.holds" (L2.inClass (top 42) 5) 3 "turnmill.links" 896 597
def o2_599 : Q0 := tO []
def o2_600 : Q0 := eO
def o2_601 : Q0 := tO [(.str "self" 989)]
def o2_602 : Q0 := tO []
def o2_603 : Q0 := fO "__bool__" "Tie.__bool__" (L2.inClass (top 42) 6) 0
def o2_604 : Q0 := cO "__bool__" "Tie.__bool__" 986 298 1 0 0 3 599 true 181 600 (.ref 601) (.ref 602) (.ref 603) 990 298 991
def o2_605 : Q0 := gO "__bool__" "Tie.__bool__" (L2.inClass (top 42) 6) 3 "turnmill.links" 896 604
def o2_606 : Q0 := tO []
def o2_607 : Q0 := eO
def o2_608 : Q0 := tO [(.str "self" 996)]
def o2_609 : Q0 := tO []
def o2_610 : Q0 := fO "__repr__" "Tie.__repr__" (L2.inClass (top 42) 7) 0
def o2_611 : Q0 := cO "__repr__" "Tie.__repr__" 993 301 1 0 0 3 606 true 181 607 (.ref 608) (.ref 609) (.ref 610) 997 301 998
def o2_612 : Q0 := gO "__repr__" "Tie.__repr__" (L2.inClass (top 42) 7) 3 "turnmill.links" 896 611
def o2_613 : Q0 := tO [(.str "own_other" 1000), (.str "own_row" 1001)]
def o2_614 (P : Params) : Q0 := dO [(eT P "__module__" 934 (.str "turnmill.links" 896)), (eT P "__firstlineno__" 938 (.int 274 937)), (eT P "__init__" 947 (.ref 560)), (eT P "row" 955 (.ref 568)), (eT P "other" 963 (.ref 576)), (eT P "linked" 971 (.ref 584)), (eT P "told" 978 (.ref 591)), (eT P "holds" 985 (.ref 598)), (eT P "__bool__" 992 (.ref 605)), (eT P "__repr__" 999 (.ref 612)), (eT P "__static_attributes__" 1002 (.ref 613)), (eT P "__dict__" 1004 (.ref 616)), (eT P "__weakref__" 1006 (.ref 617)), (eT P "__doc__" 1007 .none)] 4
def o2_615 : Q0 := (.mk (.type "type") none (.cls (.mk "Tie" [(.type "object")] [(.ref 615), (.type "object")] 614 "Tie" true [] [(.ref 676), (.ref 709)] false none false)) #[none, none, (some (.str "Tie" 927)), (some (.str "Tie" 935)), (some (.builtin "object.__new__")), (some (.bool true))])
def o2_616 : Q0 := (.mk (.type "getset_descriptor") none (.fields #[(.str "__dict__" 1003), (.ref 615), (.builtin "function.__dict__"), (.builtin "function.__dict__#set")]) #[])
def o2_617 : Q0 := (.mk (.type "getset_descriptor") none (.fields #[(.str "__weakref__" 1005), (.ref 615), (.builtin "ExceptionGroup.__weakref__"), .none]) #[])
def o2_618 : Q0 := (.mk (.type "super") none (.fields #[(.ref 615), (.ref 615), (.ref 615)]) #[])
def o2_619 : Q0 := bO "object.__init_subclass__" (.ref 615)
def o2_620 : Q0 := tO [(.ref 615)]
def o2_621 : Q0 := bO "type.__prepare__" (.type "type")
def o2_622 (P : Params) : Q0 := dO [(eT P "__module__" 1017 (.str "turnmill.links" 896)), (eT P "__qualname__" 1019 (.str "Link" 1018)), (eT P "__firstlineno__" 1021 (.int 303 1020)), (eT P "__init__" 1033 (.ref 635)), (eT P "up" 1041 (.ref 643)), (eT P "down" 1049 (.ref 651)), (eT P "linked" 1057 (.ref 659)), (eT P "told" 1064 (.ref 666)), (eT P "holds" 1073 (.ref 673)), (eT P "__static_attributes__" 1077 (.ref 674)), (eT P "__classcell__" 1078 (.ref 623))] 11
def o2_623 : Q0 := (.mk (.type "cell") none (.cell (some (.ref 676))) #[])
def o2_624 : Q0 := tO []
def o2_625 : Q0 := (.mk .none none (.fields #[(.int 305 0), (.int 4 0), (.ref 634), (.int 312 0), (.int 4 0), (.ref 641), (.int 316 0), (.int 4 0), (.ref 649), (.int 320 0), (.int 4 0), (.ref 657), (.int 323 0), (.int 4 0), (.ref 665), (.int 326 0), (.int 4 0), (.ref 672)]) #[])
def o2_626 : Q0 := cO "Link" "Link" 1012 303 0 0 0 0 624 false 181 625 .none .none .none 1015 303 1016
def o2_627 : Q0 := rO 626 3 622 "turnmill.links" 896 0
def o2_628 : Q0 := tO [(.ref 623)]
def o2_629 : Q0 := tO [(.str "__class__" 1025)]
def o2_630 : Q0 := eO
def o2_631 : Q0 := tO [(.str "self" 1026), (.str "row" 1027), (.str "other" 1028), (.str "up" 1029), (.str "down" 1030)]
def o2_632 : Q0 := tO []
def o2_633 : Q0 := fO "__init__" "Link.__init__" (L2.inClass (top 43) 0) 0
def o2_634 : Q0 := cO "__init__" "Link.__init__" 1022 305 5 0 0 3 629 true 181 630 (.ref 631) (.ref 632) (.ref 633) 1031 305 1032
def o2_635 : Q0 := ⟨(.type "function"), none, .func ⟨"__init__", "Link.__init__", L2.defArgs (L2.inClass (top 43) 0), .stmts (L2.defBody (L2.inClass (top 43) 0)), L2.defScope (L2.inClass (top 43) 0), 3, [(Prod.mk "__class__" 623)], .none, .none, .none, (.str "turnmill.links" 896), none, (.ref 634), (.ref 628), 0⟩, #[]⟩
def o2_636 : Q0 := tO []
def o2_637 : Q0 := eO
def o2_638 : Q0 := tO [(.str "self" 1037)]
def o2_639 : Q0 := tO []
def o2_640 : Q0 := fO "up" "Link.up" (L2.inClass (top 43) 1) 0
def o2_641 : Q0 := cO "up" "Link.up" 1034 311 1 0 0 3 636 true 181 637 (.ref 638) (.ref 639) (.ref 640) 1038 311 1039
def o2_642 : Q0 := gO "up" "Link.up" (L2.inClass (top 43) 1) 3 "turnmill.links" 896 641
def o2_643 : Q0 := (.mk (.type "property") none (.fields #[(.ref 642), .none, .none, .none, (.str "up" 1041), (.bool false)]) #[])
def o2_644 : Q0 := tO []
def o2_645 : Q0 := eO
def o2_646 : Q0 := tO [(.str "self" 1045)]
def o2_647 : Q0 := tO []
def o2_648 : Q0 := fO "down" "Link.down" (L2.inClass (top 43) 2) 0
def o2_649 : Q0 := cO "down" "Link.down" 1042 315 1 0 0 3 644 true 181 645 (.ref 646) (.ref 647) (.ref 648) 1046 315 1047
def o2_650 : Q0 := gO "down" "Link.down" (L2.inClass (top 43) 2) 3 "turnmill.links" 896 649
def o2_651 : Q0 := (.mk (.type "property") none (.fields #[(.ref 650), .none, .none, .none, (.str "down" 1049), (.bool false)]) #[])
def o2_652 : Q0 := tO []
def o2_653 : Q0 := eO
def o2_654 : Q0 := tO [(.str "self" 1053)]
def o2_655 : Q0 := tO []
def o2_656 : Q0 := fO "linked" "Link.linked" (L2.inClass (top 43) 3) 0
def o2_657 : Q0 := cO "linked" "Link.linked" 1050 319 1 0 0 3 652 true 181 653 (.ref 654) (.ref 655) (.ref 656) 1054 319 1055
def o2_658 : Q0 := gO "linked" "Link.linked" (L2.inClass (top 43) 3) 3 "turnmill.links" 896 657
def o2_659 : Q0 := (.mk (.type "property") none (.fields #[(.ref 658), .none, .none, .none, (.str "linked" 1057), (.bool false)]) #[])
def o2_660 : Q0 := tO []
def o2_661 : Q0 := eO
def o2_662 : Q0 := tO [(.str "self" 1061)]
def o2_663 : Q0 := tO []
def o2_664 : Q0 := fO "told" "Link.told" (L2.inClass (top 43) 4) 0
def o2_665 : Q0 := cO "told" "Link.told" 1058 323 1 0 0 3 660 true 181 661 (.ref 662) (.ref 663) (.ref 664) 1062 323 1063
def o2_666 : Q0 := gO "told" "Link.told" (L2.inClass (top 43) 4) 3 "turnmill.links" 896 665
def o2_667 : Q0 := tO []
def o2_668 : Q0 := eO
def o2_669 : Q0 := tO [(.str "self" 1068), (.str "table" 1069), (.str "sign" 1070)]
def o2_670 : Q0 := tO []
def o2_671 : Q0 := fO "holds" "Link.holds" (L2.inClass (top 43) 5) 0
def o2_672 : Q0 := cO "holds" "Link.holds" 1065 326 1 0 0 3 667 true 181 668 (.ref 669) (.ref 670) (.ref 671) 1071 326 1072
def o2_673 : Q0 := gO "holds" "Link.holds" (L2.inClass (top 43) 5) 3 "turnmill.links" 896 672
def o2_674 : Q0 := tO [(.str "lower" 1074), (.str "upper" 1075), (.str "words" 1076)]
def o2_675 (P : Params) : Q0 := dO [(eT P "__module__" 1017 (.str "turnmill.links" 896)), (eT P "__firstlineno__" 1021 (.int 303 1020)), (eT P "__init__" 1033 (.ref 635)), (eT P "up" 1041 (.ref 643)), (eT P "down" 1049 (.ref 651)), (eT P "linked" 1057 (.ref 659)), (eT P "told" 1064 (.ref 666)), (eT P "holds" 1073 (.ref 673)), (eT P "__static_attributes__" 1077 (.ref 674)), (eT P "__doc__" 1079 .none)] 3
def o2_676 : Q0 := kO (.ref 615) [(.ref 676), (.ref 615), (.type "object")] "Link" 675 620 1010 1018 "object.__new__"
def o2_677 : Q0 := (.mk (.type "super") none (.fields #[(.ref 676), (.ref 676), (.ref 676)]) #[])
def o2_678 : Q0 := bO "object.__init_subclass__" (.ref 676)
def o2_679 : Q0 := tO []
def o2_680 : Q0 := eO
def o2_681 : Q0 := tO [(.str "table" 1085)]
def o2_682 : Q0 := tO []
def o2_683 : Q0 := fO "determinant_text" "determinant_text" (top 44) 0
def o2_684 : Q0 := cO "determinant_text" "determinant_text" 1082 331 1 0 0 3 679 true 181 680 (.ref 681) (.ref 682) (.ref 683) 1086 331 1087
def o2_685 : Q0 := gO "determinant_text" "determinant_text" (top 44) 3 "turnmill.links" 896 684
def o2_686 : Q0 := tO [(.ref 615)]
def o2_687 : Q0 := bO "type.__prepare__" (.type "type")
def o2_688 (P : Params) : Q0 := dO [(eT P "__module__" 1096 (.str "turnmill.links" 896)), (eT P "__qualname__" 1098 (.str "Unlike" 1097)), (eT P "__firstlineno__" 1100 (.int 333 1099)), (eT P "told" 1107 (.ref 699)), (eT P "holds" 1114 (.ref 706)), (eT P "__static_attributes__" 1115 (.ref 707))] 6
def o2_689 : Q0 := tO []
def o2_690 : Q0 := (.mk .none none (.fields #[(.int 335 0), (.int 4 0), (.ref 698), (.int 338 0), (.int 4 0), (.ref 705)]) #[])
def o2_691 : Q0 := cO "Unlike" "Unlike" 1091 333 0 0 0 0 689 false 181 690 .none .none .none 1094 333 1095
def o2_692 : Q0 := rO 691 3 688 "turnmill.links" 896 0
def o2_693 : Q0 := tO []
def o2_694 : Q0 := eO
def o2_695 : Q0 := tO [(.str "self" 1104)]
def o2_696 : Q0 := tO []
def o2_697 : Q0 := fO "told" "Unlike.told" (L2.inClass (top 45) 0) 0
def o2_698 : Q0 := cO "told" "Unlike.told" 1101 335 1 0 0 3 693 true 181 694 (.ref 695) (.ref 696) (.ref 697) 1105 335 1106
def o2_699 : Q0 := gO "told" "Unlike.told" (L2.inClass (top 45) 0) 3 "turnmill.links" 896 698
def o2_700 : Q0 := tO []
def o2_701 : Q0 := eO
def o2_702 : Q0 := tO [(.str "self" 1111)]
def o2_703 : Q0 := tO []
def o2_704 : Q0 := fO "holds" "Unlike.holds" (L2.inClass (top 45) 1) 0
def o2_705 : Q0 := cO "holds" "Unlike.holds" 1108 338 1 0 0 3 700 true 181 701 (.ref 702) (.ref 703) (.ref 704) 1112 338 1113
def o2_706 : Q0 := gO "holds" "Unlike.holds" (L2.inClass (top 45) 1) 3 "turnmill.links" 896 705
def o2_707 : Q0 := tO []
def o2_708 (P : Params) : Q0 := dO [(eT P "__module__" 1096 (.str "turnmill.links" 896)), (eT P "__firstlineno__" 1100 (.int 333 1099)), (eT P "told" 1107 (.ref 699)), (eT P "holds" 1114 (.ref 706)), (eT P "__static_attributes__" 1115 (.ref 707)), (eT P "__doc__" 1116 .none)] 2
def o2_709 : Q0 := kO (.ref 615) [(.ref 709), (.ref 615), (.type "object")] "Unlike" 708 686 1089 1097 "object.__new__"
def o2_710 : Q0 := (.mk (.type "super") none (.fields #[(.ref 709), (.ref 709), (.ref 709)]) #[])
def o2_711 : Q0 := bO "object.__init_subclass__" (.ref 709)
def T2 (P : Params) : BT := (nO (boot_o_0 P) (nO (boot_o_1 P) (nO (o2_3 P) (nO (boot_o_7 P) (nO o1_15 (nO o1_31 (nO o1_63 (nO o1_127 (nO o1_255 (lO o2_511) .nil) (nO o2_383 (lO o2_639) .nil)) (nO o1_191 (nO o1_319 (lO o2_575) .nil) (nO o2_447 (lO o2_703) .nil))) (nO o1_95 (nO o1_159 (nO o1_287 (lO o2_543) .nil) (nO o2_415 (lO o2_671) .nil)) (nO o1_223 (nO o1_351 (lO o2_607) .nil) (lO o2_479)))) (nO o1_47 (nO o1_79 (nO o1_143 (nO o1_271 (lO o2_527) .nil) (nO o2_399 (lO o2_655) .nil)) (nO o1_207 (nO o1_335 (lO o2_591) .nil) (lO o2_463))) (nO o1_111 (nO o1_175 (nO o1_303 (lO o2_559) .nil) (nO o2_431 (lO o2_687) .nil)) (nO o1_239 (nO o1_367 (lO o2_623) .nil) (lO o2_495))))) (nO o1_23 (nO o1_39 (nO o1_71 (nO o1_135 (nO o1_263 (lO o2_519) .nil) (nO o2_391 (lO o2_647) .nil)) (nO o1_199 (nO o1_327 (lO o2_583) .nil) (nO o2_455 (lO o2_711) .nil))) (nO o1_103 (nO o1_167 (nO o1_295 (lO o2_551) .nil) (nO o2_423 (lO o2_679) .nil)) (nO o1_231 (nO o1_359 (lO o2_615) .nil) (lO o2_487)))) (nO o1_55 (nO o1_87 (nO (o1_151 P) (nO o1_279 (lO o2_535) .nil) (nO o2_407 (lO o2_663) .nil)) (nO o1_215 (nO o1_343 (lO o2_599) .nil) (lO o2_471))) (nO o1_119 (nO (o1_183 P) (nO o1_311 (lO o2_567) .nil) (nO o2_439 (lO o2_695) .nil)) (nO o1_247 (nO (o1_375 P) (lO o2_631) .nil) (lO o2_503)))))) (nO o1_11 (nO o1_19 (nO o1_35 (nO o1_67 (nO o1_131 (nO o1_259 (lO o2_515) .nil) (nO o2_387 (lO o2_643) .nil)) (nO o1_195 (nO o1_323 (lO o2_579) .nil) (nO o2_451 (lO o2_707) .nil))) (nO o1_99 (nO o1_163 (nO o1_291 (lO o2_547) .nil) (nO o2_419 (lO (o2_675 P)) .nil)) (nO o1_227 (nO o1_355 (lO o2_611) .nil) (lO o2_483)))) (nO o1_51 (nO o1_83 (nO o1_147 (nO o1_275 (lO o2_531) .nil) (nO o2_403 (lO o2_659) .nil)) (nO o1_211 (nO o1_339 (lO o2_595) .nil) (lO o2_467))) (nO o1_115 (nO o1_179 (nO o1_307 (lO o2_563) .nil) (nO o2_435 (lO o2_691) .nil)) (nO o1_243 (nO o1_371 (lO o2_627) .nil) (lO o2_499))))) (nO o1_27 (nO o1_43 (nO (o1_75 P) (nO o1_139 (nO o1_267 (lO o2_523) .nil) (nO o2_395 (lO o2_651) .nil)) (nO o1_203 (nO o1_331 (lO o2_587) .nil) (lO o2_459))) (nO (o1_107 P) (nO o1_171 (nO o1_299 (lO o2_555) .nil) (nO o2_427 (lO o2_683) .nil)) (nO o1_235 (nO o1_363 (lO o2_619) .nil) (lO o2_491)))) (nO o1_59 (nO o1_91 (nO o1_155 (nO o1_283 (lO o2_539) .nil) (nO o2_411 (lO o2_667) .nil)) (nO o1_219 (nO o1_347 (lO o2_603) .nil) (lO o2_475))) (nO o1_123 (nO o1_187 (nO o1_315 (lO o2_571) .nil) (nO o2_443 (lO o2_699) .nil)) (nO o1_251 (nO o1_379 (lO o2_635) .nil) (lO o2_507))))))) (nO (boot_o_5 P) (nO (boot_o_9 P) (nO o1_17 (nO o1_33 (nO o1_65 (nO o1_129 (nO o1_257 (lO o2_513) .nil) (nO o2_385 (lO o2_641) .nil)) (nO o1_193 (nO o1_321 (lO o2_577) .nil) (nO o2_449 (lO o2_705) .nil))) (nO o1_97 (nO o1_161 (nO o1_289 (lO o2_545) .nil) (nO o2_417 (lO o2_673) .nil)) (nO o1_225 (nO o1_353 (lO o2_609) .nil) (lO o2_481)))) (nO o1_49 (nO o1_81 (nO (o1_145 P) (nO o1_273 (lO o2_529) .nil) (nO o2_401 (lO o2_657) .nil)) (nO o1_209 (nO o1_337 (lO o2_593) .nil) (lO o2_465))) (nO (o1_113 P) (nO o1_177 (nO o1_305 (lO o2_561) .nil) (nO o2_433 (lO o2_689) .nil)) (nO o1_241 (nO o1_369 (lO o2_625) .nil) (lO o2_497))))) (nO o1_25 (nO o1_41 (nO o1_73 (nO o1_137 (nO o1_265 (lO o2_521) .nil) (nO o2_393 (lO o2_649) .nil)) (nO o1_201 (nO o1_329 (lO o2_585) .nil) (lO o2_457))) (nO o1_105 (nO o1_169 (nO o1_297 (lO o2_553) .nil) (nO o2_425 (lO o2_681) .nil)) (nO o1_233 (nO o1_361 (lO o2_617) .nil) (lO o2_489)))) (nO o1_57 (nO o1_89 (nO o1_153 (nO o1_281 (lO o2_537) .nil) (nO o2_409 (lO o2_665) .nil)) (nO o1_217 (nO o1_345 (lO o2_601) .nil) (lO o2_473))) (nO o1_121 (nO o1_185 (nO o1_313 (lO o2_569) .nil) (nO o2_441 (lO o2_697) .nil)) (nO o1_249 (nO o1_377 (lO o2_633) .nil) (lO o2_505)))))) (nO o1_13 (nO o1_21 (nO (o1_37 P) (nO (o1_69 P) (nO o1_133 (nO (o1_261 P) (lO o2_517) .nil) (nO o2_389 (lO o2_645) .nil)) (nO o1_197 (nO o1_325 (lO o2_581) .nil) (nO o2_453 (lO o2_709) .nil))) (nO o1_101 (nO o1_165 (nO o1_293 (lO (o2_549 P)) .nil) (nO o2_421 (lO o2_677) .nil)) (nO o1_229 (nO o1_357 (lO o2_613) .nil) (lO o2_485)))) (nO o1_53 (nO o1_85 (nO o1_149 (nO o1_277 (lO o2_533) .nil) (nO o2_405 (lO o2_661) .nil)) (nO o1_213 (nO o1_341 (lO o2_597) .nil) (lO o2_469))) (nO o1_117 (nO o1_181 (nO o1_309 (lO o2_565) .nil) (nO o2_437 (lO o2_693) .nil)) (nO o1_245 (nO o1_373 (lO o2_629) .nil) (lO o2_501))))) (nO o1_29 (nO o1_45 (nO o1_77 (nO o1_141 (nO o1_269 (lO o2_525) .nil) (nO o2_397 (lO o2_653) .nil)) (nO o1_205 (nO o1_333 (lO o2_589) .nil) (lO o2_461))) (nO o1_109 (nO o1_173 (nO o1_301 (lO o2_557) .nil) (nO o2_429 (lO o2_685) .nil)) (nO o1_237 (nO o1_365 (lO o2_621) .nil) (lO o2_493)))) (nO o1_61 (nO o1_93 (nO o1_157 (nO o1_285 (lO o2_541) .nil) (nO o2_413 (lO o2_669) .nil)) (nO o1_221 (nO o1_349 (lO o2_605) .nil) (lO o2_477))) (nO o1_125 (nO o1_189 (nO o1_317 (lO o2_573) .nil) (nO o2_445 (lO o2_701) .nil)) (nO o1_253 (nO o2_381 (lO o2_637) .nil) (lO o2_509)))))))) (nO (boot_o_2 P) (nO (boot_o_4 P) (nO (boot_o_8 P) (nO o1_16 (nO o1_32 (nO o1_64 (nO o1_128 (nO o1_256 (lO (o2_512 P)) .nil) (nO o2_384 (lO o2_640) .nil)) (nO o1_192 (nO o1_320 (lO o2_576) .nil) (nO o2_448 (lO o2_704) .nil))) (nO o1_96 (nO o1_160 (nO o1_288 (lO o2_544) .nil) (nO o2_416 (lO o2_672) .nil)) (nO o1_224 (nO o1_352 (lO o2_608) .nil) (lO o2_480)))) (nO o1_48 (nO o1_80 (nO o1_144 (nO o1_272 (lO o2_528) .nil) (nO o2_400 (lO o2_656) .nil)) (nO o1_208 (nO o1_336 (lO o2_592) .nil) (lO o2_464))) (nO o1_112 (nO o1_176 (nO o1_304 (lO o2_560) .nil) (nO o2_432 (lO (o2_688 P)) .nil)) (nO o1_240 (nO o1_368 (lO o2_624) .nil) (lO o2_496))))) (nO (o1_24 P) (nO o1_40 (nO o1_72 (nO o1_136 (nO o1_264 (lO o2_520) .nil) (nO o2_392 (lO o2_648) .nil)) (nO o1_200 (nO o1_328 (lO o2_584) .nil) (lO o2_456))) (nO o1_104 (nO o1_168 (nO o1_296 (lO o2_552) .nil) (nO (o2_424 P) (lO o2_680) .nil)) (nO o1_232 (nO o1_360 (lO o2_616) .nil) (lO o2_488)))) (nO (o1_56 P) (nO (o1_88 P) (nO o1_152 (nO o1_280 (lO o2_536) .nil) (nO o2_408 (lO o2_664) .nil)) (nO o1_216 (nO o1_344 (lO o2_600) .nil) (lO o2_472))) (nO o1_120 (nO o1_184 (nO o1_312 (lO o2_568) .nil) (nO o2_440 (lO o2_696) .nil)) (nO o1_248 (nO o1_376 (lO o2_632) .nil) (lO o2_504)))))) (nO o2_12 (nO o1_20 (nO o1_36 (nO o1_68 (nO (o1_132 P) (nO o1_260 (lO o2_516) .nil) (nO o2_388 (lO o2_644) .nil)) (nO o1_196 (nO o1_324 (lO o2_580) .nil) (nO o2_452 (lO (o2_708 P)) .nil))) (nO o1_100 (nO (o1_164 P) (nO o1_292 (lO o2_548) .nil) (nO o2_420 (lO o2_676) .nil)) (nO o1_228 (nO o1_356 (lO o2_612) .nil) (lO o2_484)))) (nO o1_52 (nO o1_84 (nO o1_148 (nO o1_276 (lO o2_532) .nil) (nO o2_404 (lO o2_660) .nil)) (nO o1_212 (nO o1_340 (lO o2_596) .nil) (lO o2_468))) (nO o1_116 (nO o1_180 (nO o1_308 (lO o2_564) .nil) (nO o2_436 (lO o2_692) .nil)) (nO o1_244 (nO o1_372 (lO o2_628) .nil) (lO o2_500))))) (nO o1_28 (nO o1_44 (nO o1_76 (nO o1_140 (nO o1_268 (lO o2_524) .nil) (nO o2_396 (lO o2_652) .nil)) (nO o1_204 (nO o1_332 (lO o2_588) .nil) (lO o2_460))) (nO o1_108 (nO o1_172 (nO o1_300 (lO o2_556) .nil) (nO o2_428 (lO o2_684) .nil)) (nO o1_236 (nO o1_364 (lO o2_620) .nil) (lO o2_492)))) (nO o1_60 (nO o1_92 (nO o1_156 (nO o1_284 (lO o2_540) .nil) (nO o2_412 (lO o2_668) .nil)) (nO o1_220 (nO o1_348 (lO o2_604) .nil) (lO o2_476))) (nO o1_124 (nO o1_188 (nO o1_316 (lO o2_572) .nil) (nO o2_444 (lO o2_700) .nil)) (nO o1_252 (nO o1_380 (lO o2_636) .nil) (lO o2_508))))))) (nO (boot_o_6 P) (nO (boot_o_10 P) (nO o1_18 (nO o1_34 (nO o1_66 (nO o1_130 (nO o1_258 (lO o2_514) .nil) (nO o2_386 (lO o2_642) .nil)) (nO o1_194 (nO o1_322 (lO o2_578) .nil) (nO o2_450 (lO o2_706) .nil))) (nO o1_98 (nO o1_162 (nO o1_290 (lO o2_546) .nil) (nO (o2_418 P) (lO o2_674) .nil)) (nO o1_226 (nO o1_354 (lO o2_610) .nil) (lO o2_482)))) (nO (o1_50 P) (nO o1_82 (nO o1_146 (nO o1_274 (lO o2_530) .nil) (nO o2_402 (lO o2_658) .nil)) (nO o1_210 (nO o1_338 (lO o2_594) .nil) (lO o2_466))) (nO o1_114 (nO o1_178 (nO o1_306 (lO o2_562) .nil) (nO o2_434 (lO o2_690) .nil)) (nO o1_242 (nO o1_370 (lO o2_626) .nil) (lO o2_498))))) (nO o1_26 (nO o1_42 (nO o1_74 (nO o1_138 (nO o1_266 (lO o2_522) .nil) (nO o2_394 (lO o2_650) .nil)) (nO o1_202 (nO o1_330 (lO o2_586) .nil) (lO o2_458))) (nO o1_106 (nO (o1_170 P) (nO o1_298 (lO o2_554) .nil) (nO o2_426 (lO o2_682) .nil)) (nO o1_234 (nO o1_362 (lO o2_618) .nil) (lO o2_490)))) (nO o1_58 (nO o1_90 (nO o1_154 (nO o1_282 (lO o2_538) .nil) (nO o2_410 (lO o2_666) .nil)) (nO o1_218 (nO o1_346 (lO o2_602) .nil) (lO o2_474))) (nO o1_122 (nO o1_186 (nO o1_314 (lO o2_570) .nil) (nO o2_442 (lO o2_698) .nil)) (nO o1_250 (nO o1_378 (lO o2_634) .nil) (lO o2_506)))))) (nO o1_14 (nO o1_22 (nO o1_38 (nO o1_70 (nO o1_134 (nO o1_262 (lO o2_518) .nil) (nO o2_390 (lO o2_646) .nil)) (nO o1_198 (nO o1_326 (lO o2_582) .nil) (nO o2_454 (lO o2_710) .nil))) (nO o1_102 (nO o1_166 (nO o1_294 (lO o2_550) .nil) (nO o2_422 (lO o2_678) .nil)) (nO o1_230 (nO o1_358 (lO (o2_614 P)) .nil) (lO o2_486)))) (nO o1_54 (nO o1_86 (nO o1_150 (nO (o1_278 P) (lO o2_534) .nil) (nO o2_406 (lO o2_662) .nil)) (nO o1_214 (nO o1_342 (lO o2_598) .nil) (lO o2_470))) (nO o1_118 (nO o1_182 (nO o1_310 (lO o2_566) .nil) (nO o2_438 (lO o2_694) .nil)) (nO o1_246 (nO o1_374 (lO o2_630) .nil) (lO o2_502))))) (nO (o1_30 P) (nO o1_46 (nO o1_78 (nO o1_142 (nO o1_270 (lO o2_526) .nil) (nO o2_398 (lO o2_654) .nil)) (nO o1_206 (nO o1_334 (lO o2_590) .nil) (lO o2_462))) (nO o1_110 (nO o1_174 (nO o1_302 (lO o2_558) .nil) (nO o2_430 (lO o2_686) .nil)) (nO o1_238 (nO o1_366 (lO (o2_622 P)) .nil) (lO o2_494)))) (nO o1_62 (nO (o1_94 P) (nO o1_158 (nO o1_286 (lO o2_542) .nil) (nO o2_414 (lO o2_670) .nil)) (nO o1_222 (nO o1_350 (lO o2_606) .nil) (lO o2_478))) (nO (o1_126 P) (nO o1_190 (nO o1_318 (lO o2_574) .nil) (nO o2_446 (lO o2_702) .nil)) (nO o1_254 (nO o2_382 (lO o2_638) .nil) (lO o2_510)))))))))
def S2 (w : World) (os : OsState) : SharedT := ⟨T2 w.params, 712, (Life.mk [] [] [] 0 [] [] Bool.false (List.toArray []) [] 0 Bool.false Bool.false Bool.false 0 [2000, 10, 10] Bool.false 0 Bool.true [] [] 0 Bool.false), #[], (Drawn.mk 0 0 0 0), 1119, os⟩
def o3_3 (P : Params) : Q0 := dO [(eT P "__name__" 165 (.str "law_turnmill_k54_links_of_fractions" 1412)), (eT P "__doc__" 166 .none), (eT P "__package__" 167 .none), (eT P "__loader__" 168 (.builtin "__main__.__loader__#opaque")), (eT P "__spec__" 169 .none), (eT P "__annotations__" 170 (.ref 6)), (eT P "__builtins__" 171 (.ref 4)), (eT P "__file__" 173 (.str "/claim/cut.py" 172)), (eT P "__cached__" 174 .none), (eT P "_wall" 193 (.ref 21)), (eT P "MillError" 213 (.ref 31)), (eT P "InvalidWord" 239 (.ref 51)), (eT P "InvalidTable" 263 (.ref 70)), (eT P "InvalidNumber" 287 (.ref 89)), (eT P "InvalidRing" 313 (.ref 108)), (eT P "InvalidCount" 339 (.ref 127)), (eT P "InvalidIndex" 365 (.ref 146)), (eT P "TooLong" 391 (.ref 165)), (eT P "ParseError" 417 (.ref 184)), (eT P "TURNS" 421 (.str "LR" 420)), (eT P "MOST_TURNS" 423 (.int 4000 422)), (eT P "LEFT" 428 (.ref 187)), (eT P "RIGHT" 433 (.ref 188)), (eT P "NEUTRAL" 438 (.ref 189)), (eT P "is_integer" 445 (.ref 196)), (eT P "is_within" 454 (.ref 203)), (eT P "is_word" 460 (.ref 208)), (eT P "check_word" 467 (.ref 215)), (eT P "divisor_of" 478 (.ref 222)), (eT P "product" 494 (.ref 229)), (eT P "word_table" 503 (.ref 236)), (eT P "divided" 509 (.ref 241)), (eT P "least_times" 515 (.ref 246)), (eT P "runs_taken" 529 (.ref 253)), (eT P "word_taken" 535 (.ref 258)), (eT P "Table" 698 (.ref 376)), (eT P "table_with" 709 (.ref 387)), (eT P "root_floor" 721 (.ref 394)), (eT P "is_square" 729 (.ref 401)), (eT P "sign_of" 736 (.ref 408)), (eT P "root_sign" 747 (.ref 415)), (eT P "Number" 883 (.ref 513)), (eT P "number_led" 895 (.ref 524)), (eT P "SWAP" 902 (.ref 525)), (eT P "is_root" 909 (.ref 532)), (eT P "are_unlike" 917 (.ref 539)), (eT P "leads" 926 (.ref 546)), (eT P "Tie" 1009 (.ref 615)), (eT P "Link" 1081 (.ref 676)), (eT P "determinant_text" 1088 (.ref 685)), (eT P "Unlike" 1118 (.ref 709)), (eT P "solutions" 1124 (.ref 716)), (eT P "reduced" 1130 (.ref 721)), (eT P "root_tables" 1158 (.ref 728)), (eT P "determinants" 1174 (.ref 735)), (eT P "stepped" 1180 (.ref 740)), (eT P "least_tables" 1196 (.ref 747)), (eT P "link" 1209 (.ref 754)), (eT P "FAR" 1215 (.int 1000000000000000000000000000000 1214)), (eT P "MOST_RUNS" 1217 (.int 400 1216)), (eT P "least_ring" 1224 (.ref 761)), (eT P "Row" 1411 (.ref 888)), (eT P "_law_hand" 1419 (.ref 897)), (eT P "_law_pick" 1431 (.ref 904)), (eT P "_law_of" 1439 (.ref 911)), (eT P "_law_same" 1445 (.ref 916)), (eT P "_law_word" 1451 (.ref 921)), (eT P "_law_normal" 1460 (.ref 928)), (eT P "_law_root_line" 1468 (.ref 935)), (eT P "_law_row" 1475 (.ref 942)), (eT P "law" 1491 (.ref 949))] 71
def o3_12 : Q0 := (.mk .none none (.fields #[(.int 1 0), (.int 0 0), (.ref 20), (.int 5 0), (.int 0 0), (.ref 27), (.int 7 0), (.int 0 0), (.ref 40), (.int 12 0), (.int 0 0), (.ref 59), (.int 16 0), (.int 0 0), (.ref 78), (.int 20 0), (.int 0 0), (.ref 97), (.int 25 0), (.int 0 0), (.ref 116), (.int 30 0), (.int 0 0), (.ref 135), (.int 35 0), (.int 0 0), (.ref 154), (.int 40 0), (.int 0 0), (.ref 173), (.int 51 0), (.int 0 0), (.ref 195), (.int 53 0), (.int 0 0), (.ref 202), (.int 55 0), (.int 0 0), (.ref 207), (.int 57 0), (.int 0 0), (.ref 214), (.int 60 0), (.int 0 0), (.ref 221), (.int 68 0), (.int 0 0), (.ref 228), (.int 72 0), (.int 0 0), (.ref 235), (.int 77 0), (.int 0 0), (.ref 240), (.int 80 0), (.int 0 0), (.ref 245), (.int 82 0), (.int 0 0), (.ref 252), (.int 99 0), (.int 0 0), (.ref 257), (.int 104 0), (.int 0 0), (.ref 264), (.int 167 0), (.int 0 0), (.ref 386), (.int 171 0), (.int 0 0), (.ref 393), (.int 182 0), (.int 0 0), (.ref 400), (.int 185 0), (.int 0 0), (.ref 407), (.int 187 0), (.int 0 0), (.ref 414), (.int 192 0), (.int 0 0), (.ref 421), (.int 257 0), (.int 0 0), (.ref 523), (.int 264 0), (.int 0 0), (.ref 531), (.int 266 0), (.int 0 0), (.ref 538), (.int 270 0), (.int 0 0), (.ref 545), (.int 274 0), (.int 0 0), (.ref 552), (.int 303 0), (.int 0 0), (.ref 626), (.int 331 0), (.int 0 0), (.ref 684), (.int 333 0), (.int 0 0), (.ref 691), (.int 340 0), (.int 0 0), (.ref 715), (.int 350 0), (.int 0 0), (.ref 720), (.int 354 0), (.int 0 0), (.ref 727), (.int 369 0), (.int 0 0), (.ref 734), (.int 373 0), (.int 0 0), (.ref 739), (.int 380 0), (.int 0 0), (.ref 746), (.int 393 0), (.int 0 0), (.ref 753), (.int 407 0), (.int 0 0), (.ref 760), (.int 409 0), (.int 0 0), (.ref 767), (.int 505 0), (.int 0 0), (.ref 896), (.int 511 0), (.int 0 0), (.ref 903), (.int 525 0), (.int 0 0), (.ref 910), (.int 527 0), (.int 0 0), (.ref 915), (.int 537 0), (.int 0 0), (.ref 920), (.int 539 0), (.int 0 0), (.ref 927), (.int 546 0), (.int 0 0), (.ref 934), (.int 548 0), (.int 0 0), (.ref 941), (.int 550 0), (.int 0 0), (.ref 948)]) #[])
def o3_712 : Q0 := tO []
def o3_713 : Q0 := eO
def o3_714 : Q0 := fO "solutions" "solutions" (top 46) 0
def o3_715 : Q0 := cO "solutions" "solutions" 1119 340 2 0 0 3 712 true 181 713 .none .none (.ref 714) 1122 340 1123
def o3_716 : Q0 := gO "solutions" "solutions" (top 46) 3 "turnmill.links" 896 715
def o3_717 : Q0 := tO []
def o3_718 : Q0 := eO
def o3_719 : Q0 := fO "reduced" "reduced" (top 47) 0
def o3_720 : Q0 := cO "reduced" "reduced" 1125 350 3 0 0 3 717 true 181 718 .none .none (.ref 719) 1128 350 1129
def o3_721 : Q0 := gO "reduced" "reduced" (top 47) 3 "turnmill.links" 896 720
def o3_722 : Q0 := tO []
def o3_723 : Q0 := eO
def o3_724 : Q0 := tO [(.str "one" 1134), (.str "other" 1135), (.str "p" 1136), (.str "r" 1137), (.str "s" 1138), (.str "q" 1139), (.str "t" 1140), (.str "u" 1141), (.str "rho" 1142), (.str "low" 1143), (.str "scale" 1144), (.str "plain" 1145), (.str "factor" 1146), (.str "twice" 1147), (.str "rest" 1148), (.str "modulus" 1149), (.str "pairs" 1150), (.str "found" 1151), (.str "c" 1152), (.str "d" 1153), (.str "a" 1154), (.str "b" 1155)]
def o3_725 : Q0 := tO []
def o3_726 : Q0 := fO "root_tables" "root_tables" (top 48) 0
def o3_727 : Q0 := cO "root_tables" "root_tables" 1131 354 2 0 0 3 722 true 181 723 (.ref 724) (.ref 725) (.ref 726) 1156 354 1157
def o3_728 : Q0 := gO "root_tables" "root_tables" (top 48) 3 "turnmill.links" 896 727
def o3_729 : Q0 := tO []
def o3_730 : Q0 := eO
def o3_731 : Q0 := tO [(.str "one" 1162), (.str "other" 1163), (.str "a" 1164), (.str "b" 1165), (.str "c" 1166), (.str "d" 1167), (.str "e" 1168), (.str "f" 1169), (.str "g" 1170), (.str "h" 1171)]
def o3_732 : Q0 := tO []
def o3_733 : Q0 := fO "determinants" "determinants" (top 49) 0
def o3_734 : Q0 := cO "determinants" "determinants" 1159 369 2 0 0 3 729 true 181 730 (.ref 731) (.ref 732) (.ref 733) 1172 369 1173
def o3_735 : Q0 := gO "determinants" "determinants" (top 49) 3 "turnmill.links" 896 734
def o3_736 : Q0 := tO []
def o3_737 : Q0 := eO
def o3_738 : Q0 := fO "stepped" "stepped" (top 50) 0
def o3_739 : Q0 := cO "stepped" "stepped" 1175 373 3 0 0 3 736 true 181 737 .none .none (.ref 738) 1178 373 1179
def o3_740 : Q0 := gO "stepped" "stepped" (top 50) 3 "turnmill.links" 896 739
def o3_741 : Q0 := tO []
def o3_742 : Q0 := eO
def o3_743 : Q0 := tO [(.str "one" 1184), (.str "other" 1185), (.str "first" 1186), (.str "middle" 1187), (.str "last" 1188), (.str "root" 1189), (.str "known" 1190), (.str "up" 1191), (.str "down" 1192), (.str "found" 1193)]
def o3_744 : Q0 := tO []
def o3_745 : Q0 := fO "least_tables" "least_tables" (top 51) 0
def o3_746 : Q0 := cO "least_tables" "least_tables" 1181 380 2 0 0 3 741 true 181 742 (.ref 743) (.ref 744) (.ref 745) 1194 380 1195
def o3_747 : Q0 := gO "least_tables" "least_tables" (top 51) 3 "turnmill.links" 896 746
def o3_748 : Q0 := tO []
def o3_749 : Q0 := eO
def o3_750 : Q0 := tO [(.str "row" 1200), (.str "other" 1201), (.str "one" 1202), (.str "late" 1203), (.str "up" 1204), (.str "down" 1205), (.str "back" 1206)]
def o3_751 : Q0 := tO []
def o3_752 : Q0 := fO "link" "link" (top 52) 0
def o3_753 : Q0 := cO "link" "link" 1197 393 2 0 0 3 748 true 181 749 (.ref 750) (.ref 751) (.ref 752) 1207 393 1208
def o3_754 : Q0 := gO "link" "link" (top 52) 3 "turnmill.links" 896 753
def o3_755 : Q0 := tO []
def o3_756 : Q0 := eO
def o3_757 : Q0 := tO [(.str "ring" 1221)]
def o3_758 : Q0 := tO []
def o3_759 : Q0 := fO "least_ring" "least_ring" (top 56) 0
def o3_760 : Q0 := cO "least_ring" "least_ring" 1218 407 1 0 0 3 755 true 181 756 (.ref 757) (.ref 758) (.ref 759) 1222 407 1223
def o3_761 : Q0 := gO "least_ring" "least_ring" (top 56) 3 "turnmill.rows" 1210 760
def o3_762 : Q0 := tO []
def o3_763 : Q0 := bO "type.__prepare__" (.type "type")
def o3_764 (P : Params) : Q0 := dO [(eT P "__module__" 1232 (.str "turnmill.rows" 1210)), (eT P "__qualname__" 1234 (.str "Row" 1233)), (eT P "__firstlineno__" 1236 (.int 409 1235)), (eT P "__init__" 1248 (.ref 775)), (eT P "read" 1270 (.ref 784)), (eT P "lead" 1278 (.ref 793)), (eT P "ring" 1286 (.ref 801)), (eT P "text" 1295 (.ref 808)), (eT P "turn_at" 1305 (.ref 815)), (eT P "turn" 1313 (.ref 822)), (eT P "beginning" 1321 (.ref 829)), (eT P "behind" 1329 (.ref 836)), (eT P "runs" 1344 (.ref 843)), (eT P "run_behind" 1356 (.ref 850)), (eT P "exchanged" 1363 (.ref 857)), (eT P "is_below" 1371 (.ref 864)), (eT P "number" 1384 (.ref 871)), (eT P "__eq__" 1392 (.ref 878)), (eT P "__repr__" 1401 (.ref 885)), (eT P "__static_attributes__" 1403 (.ref 886))] 20
def o3_765 : Q0 := tO []
def o3_766 : Q0 := (.mk .none none (.fields #[(.int 411 0), (.int 4 0), (.ref 774), (.int 422 0), (.int 4 0), (.ref 781), (.int 431 0), (.int 4 0), (.ref 791), (.int 435 0), (.int 4 0), (.ref 799), (.int 438 0), (.int 4 0), (.ref 807), (.int 442 0), (.int 4 0), (.ref 814), (.int 446 0), (.int 4 0), (.ref 821), (.int 451 0), (.int 4 0), (.ref 828), (.int 454 0), (.int 4 0), (.ref 835), (.int 457 0), (.int 4 0), (.ref 842), (.int 474 0), (.int 4 0), (.ref 849), (.int 483 0), (.int 4 0), (.ref 856), (.int 486 0), (.int 4 0), (.ref 863), (.int 489 0), (.int 4 0), (.ref 870), (.int 498 0), (.int 4 0), (.ref 877), (.int 501 0), (.int 4 0), (.ref 884)]) #[])
def o3_767 : Q0 := cO "Row" "Row" 1227 409 0 0 0 0 765 false 181 766 .none .none .none 1230 409 1231
def o3_768 : Q0 := rO 767 3 764 "turnmill.rows" 1210 0
def o3_769 : Q0 := tO []
def o3_770 : Q0 := eO
def o3_771 : Q0 := tO [(.str "self" 1240), (.str "lead" 1241), (.str "ring" 1242), (.str "least" 1243), (.str "same" 1244), (.str "cut" 1245)]
def o3_772 : Q0 := tO []
def o3_773 : Q0 := fO "__init__" "Row.__init__" (L2.inClass (top 57) 0) 0
def o3_774 : Q0 := cO "__init__" "Row.__init__" 1237 411 3 0 0 3 769 true 181 770 (.ref 771) (.ref 772) (.ref 773) 1246 411 1247
def o3_775 : Q0 := gO "__init__" "Row.__init__" (L2.inClass (top 57) 0) 3 "turnmill.rows" 1210 774
def o3_776 : Q0 := tO []
def o3_777 : Q0 := eO
def o3_778 : Q0 := tO [(.str "cls" 1252), (.str "text" 1253), (.str "lead" 1254), (.str "ring" 1255)]
def o3_779 : Q0 := tO []
def o3_780 : Q0 := fO "read" "Row.read" (L2.inClass (top 57) 1) 0
def o3_781 : Q0 := cO "read" "Row.read" 1249 421 2 0 0 3 776 true 181 777 (.ref 778) (.ref 779) (.ref 780) 1256 421 1257
def o3_782 : Q0 := ⟨(.type "function"), none, .func ⟨"read", "Row.read", L2.defArgs (L2.inClass (top 57) 1), .stmts (L2.defBody (L2.inClass (top 57) 1)), L2.defScope (L2.inClass (top 57) 1), 3, [], .none, .none, .none, (.str "turnmill.rows" 1210), (some 785), (.ref 781), .none, 0⟩, #[]⟩
def o3_783 (P : Params) : Q0 := dO [(eT P "__module__" 1259 (.str "turnmill.rows" 1210)), (eT P "__name__" 1262 (.str "read" 1261)), (eT P "__qualname__" 1265 (.str "Row.read" 1264)), (eT P "__doc__" 1267 .none), (eT P "__annotations__" 1269 (.ref 785))] 5
def o3_784 : Q0 := (.mk (.type "classmethod") (some 783) (.fields #[(.ref 782), (.bool false)]) #[])
def o3_785 : Q0 := dO [] 0
def o3_786 : Q0 := tO []
def o3_787 : Q0 := eO
def o3_788 : Q0 := tO [(.str "self" 1274)]
def o3_789 : Q0 := tO []
def o3_790 : Q0 := fO "lead" "Row.lead" (L2.inClass (top 57) 2) 0
def o3_791 : Q0 := cO "lead" "Row.lead" 1271 430 1 0 0 3 786 true 181 787 (.ref 788) (.ref 789) (.ref 790) 1275 430 1276
def o3_792 : Q0 := gO "lead" "Row.lead" (L2.inClass (top 57) 2) 3 "turnmill.rows" 1210 791
def o3_793 : Q0 := (.mk (.type "property") none (.fields #[(.ref 792), .none, .none, .none, (.str "lead" 1278), (.bool false)]) #[])
def o3_794 : Q0 := tO []
def o3_795 : Q0 := eO
def o3_796 : Q0 := tO [(.str "self" 1282)]
def o3_797 : Q0 := tO []
def o3_798 : Q0 := fO "ring" "Row.ring" (L2.inClass (top 57) 3) 0
def o3_799 : Q0 := cO "ring" "Row.ring" 1279 434 1 0 0 3 794 true 181 795 (.ref 796) (.ref 797) (.ref 798) 1283 434 1284
def o3_800 : Q0 := gO "ring" "Row.ring" (L2.inClass (top 57) 3) 3 "turnmill.rows" 1210 799
def o3_801 : Q0 := (.mk (.type "property") none (.fields #[(.ref 800), .none, .none, .none, (.str "ring" 1286), (.bool false)]) #[])
def o3_802 : Q0 := tO []
def o3_803 : Q0 := eO
def o3_804 : Q0 := tO [(.str "self" 1290), (.str "lead" 1291), (.str "ring" 1292)]
def o3_805 : Q0 := tO []
def o3_806 : Q0 := fO "text" "Row.text" (L2.inClass (top 57) 4) 0
def o3_807 : Q0 := cO "text" "Row.text" 1287 438 1 0 0 3 802 true 181 803 (.ref 804) (.ref 805) (.ref 806) 1293 438 1294
def o3_808 : Q0 := gO "text" "Row.text" (L2.inClass (top 57) 4) 3 "turnmill.rows" 1210 807
def o3_809 : Q0 := tO []
def o3_810 : Q0 := eO
def o3_811 : Q0 := tO [(.str "self" 1299), (.str "index" 1300), (.str "lead" 1301), (.str "ring" 1302)]
def o3_812 : Q0 := tO []
def o3_813 : Q0 := fO "turn_at" "Row.turn_at" (L2.inClass (top 57) 5) 0
def o3_814 : Q0 := cO "turn_at" "Row.turn_at" 1296 442 2 0 0 3 809 true 181 810 (.ref 811) (.ref 812) (.ref 813) 1303 442 1304
def o3_815 : Q0 := gO "turn_at" "Row.turn_at" (L2.inClass (top 57) 5) 3 "turnmill.rows" 1210 814
def o3_816 : Q0 := tO []
def o3_817 : Q0 := eO
def o3_818 : Q0 := tO [(.str "self" 1309), (.str "index" 1310)]
def o3_819 : Q0 := tO []
def o3_820 : Q0 := fO "turn" "Row.turn" (L2.inClass (top 57) 6) 0
def o3_821 : Q0 := cO "turn" "Row.turn" 1306 446 2 0 0 3 816 true 181 817 (.ref 818) (.ref 819) (.ref 820) 1311 446 1312
def o3_822 : Q0 := gO "turn" "Row.turn" (L2.inClass (top 57) 6) 3 "turnmill.rows" 1210 821
def o3_823 : Q0 := tO []
def o3_824 : Q0 := eO
def o3_825 : Q0 := tO [(.str "self" 1317), (.str "count" 1318)]
def o3_826 : Q0 := tO []
def o3_827 : Q0 := fO "beginning" "Row.beginning" (L2.inClass (top 57) 7) 0
def o3_828 : Q0 := cO "beginning" "Row.beginning" 1314 451 2 0 0 3 823 true 181 824 (.ref 825) (.ref 826) (.ref 827) 1319 451 1320
def o3_829 : Q0 := gO "beginning" "Row.beginning" (L2.inClass (top 57) 7) 3 "turnmill.rows" 1210 828
def o3_830 : Q0 := tO []
def o3_831 : Q0 := eO
def o3_832 : Q0 := tO [(.str "self" 1325), (.str "count" 1326)]
def o3_833 : Q0 := tO []
def o3_834 : Q0 := fO "behind" "Row.behind" (L2.inClass (top 57) 8) 0
def o3_835 : Q0 := cO "behind" "Row.behind" 1322 454 2 0 0 3 830 true 181 831 (.ref 832) (.ref 833) (.ref 834) 1327 454 1328
def o3_836 : Q0 := gO "behind" "Row.behind" (L2.inClass (top 57) 8) 3 "turnmill.rows" 1210 835
def o3_837 : Q0 := tO []
def o3_838 : Q0 := eO
def o3_839 : Q0 := tO [(.str "self" 1333), (.str "count" 1334), (.str "lead" 1335), (.str "ring" 1336), (.str "found" 1337), (.str "index" 1338), (.str "turn" 1339), (.str "begin" 1340), (.str "rest" 1341)]
def o3_840 : Q0 := tO []
def o3_841 : Q0 := fO "runs" "Row.runs" (L2.inClass (top 57) 9) 0
def o3_842 : Q0 := cO "runs" "Row.runs" 1330 457 2 0 0 3 837 true 181 838 (.ref 839) (.ref 840) (.ref 841) 1342 457 1343
def o3_843 : Q0 := gO "runs" "Row.runs" (L2.inClass (top 57) 9) 3 "turnmill.rows" 1210 842
def o3_844 : Q0 := tO []
def o3_845 : Q0 := eO
def o3_846 : Q0 := tO [(.str "self" 1348), (.str "turn" 1349), (.str "begin" 1350), (.str "lead" 1351), (.str "ring" 1352), (.str "index" 1353)]
def o3_847 : Q0 := tO []
def o3_848 : Q0 := fO "run_behind" "Row.run_behind" (L2.inClass (top 57) 10) 0
def o3_849 : Q0 := cO "run_behind" "Row.run_behind" 1345 474 3 0 0 3 844 true 181 845 (.ref 846) (.ref 847) (.ref 848) 1354 474 1355
def o3_850 : Q0 := gO "run_behind" "Row.run_behind" (L2.inClass (top 57) 10) 3 "turnmill.rows" 1210 849
def o3_851 : Q0 := tO []
def o3_852 : Q0 := eO
def o3_853 : Q0 := tO [(.str "self" 1360)]
def o3_854 : Q0 := tO []
def o3_855 : Q0 := fO "exchanged" "Row.exchanged" (L2.inClass (top 57) 11) 0
def o3_856 : Q0 := cO "exchanged" "Row.exchanged" 1357 483 1 0 0 3 851 true 181 852 (.ref 853) (.ref 854) (.ref 855) 1361 483 1362
def o3_857 : Q0 := gO "exchanged" "Row.exchanged" (L2.inClass (top 57) 11) 3 "turnmill.rows" 1210 856
def o3_858 : Q0 := tO []
def o3_859 : Q0 := eO
def o3_860 : Q0 := tO [(.str "self" 1367), (.str "other" 1368)]
def o3_861 : Q0 := tO []
def o3_862 : Q0 := fO "is_below" "Row.is_below" (L2.inClass (top 57) 12) 0
def o3_863 : Q0 := cO "is_below" "Row.is_below" 1364 486 2 0 0 3 858 true 181 859 (.ref 860) (.ref 861) (.ref 862) 1369 486 1370
def o3_864 : Q0 := gO "is_below" "Row.is_below" (L2.inClass (top 57) 12) 3 "turnmill.rows" 1210 863
def o3_865 : Q0 := tO []
def o3_866 : Q0 := eO
def o3_867 : Q0 := tO [(.str "self" 1375), (.str "lead" 1376), (.str "ring" 1377), (.str "a" 1378), (.str "b" 1379), (.str "c" 1380), (.str "d" 1381)]
def o3_868 : Q0 := tO []
def o3_869 : Q0 := fO "number" "Row.number" (L2.inClass (top 57) 13) 0
def o3_870 : Q0 := cO "number" "Row.number" 1372 489 1 0 0 3 865 true 181 866 (.ref 867) (.ref 868) (.ref 869) 1382 489 1383
def o3_871 : Q0 := gO "number" "Row.number" (L2.inClass (top 57) 13) 3 "turnmill.rows" 1210 870
def o3_872 : Q0 := tO []
def o3_873 : Q0 := eO
def o3_874 : Q0 := tO [(.str "self" 1388), (.str "other" 1389)]
def o3_875 : Q0 := tO []
def o3_876 : Q0 := fO "__eq__" "Row.__eq__" (L2.inClass (top 57) 14) 0
def o3_877 : Q0 := cO "__eq__" "Row.__eq__" 1385 498 2 0 0 3 872 true 181 873 (.ref 874) (.ref 875) (.ref 876) 1390 498 1391
def o3_878 : Q0 := gO "__eq__" "Row.__eq__" (L2.inClass (top 57) 14) 3 "turnmill.rows" 1210 877
def o3_879 : Q0 := tO []
def o3_880 : Q0 := eO
def o3_881 : Q0 := tO [(.str "self" 1396), (.str "lead" 1397), (.str "ring" 1398)]
def o3_882 : Q0 := tO []
def o3_883 : Q0 := fO "__repr__" "Row.__repr__" (L2.inClass (top 57) 15) 0
def o3_884 : Q0 := cO "__repr__" "Row.__repr__" 1393 501 1 0 0 3 879 true 181 880 (.ref 881) (.ref 882) (.ref 883) 1399 501 1400
def o3_885 : Q0 := gO "__repr__" "Row.__repr__" (L2.inClass (top 57) 15) 3 "turnmill.rows" 1210 884
def o3_886 : Q0 := tO [(.str "whole" 1402)]
def o3_887 (P : Params) : Q0 := dO [(eT P "__module__" 1232 (.str "turnmill.rows" 1210)), (eT P "__firstlineno__" 1236 (.int 409 1235)), (eT P "__init__" 1248 (.ref 775)), (eT P "read" 1270 (.ref 784)), (eT P "lead" 1278 (.ref 793)), (eT P "ring" 1286 (.ref 801)), (eT P "text" 1295 (.ref 808)), (eT P "turn_at" 1305 (.ref 815)), (eT P "turn" 1313 (.ref 822)), (eT P "beginning" 1321 (.ref 829)), (eT P "behind" 1329 (.ref 836)), (eT P "runs" 1344 (.ref 843)), (eT P "run_behind" 1356 (.ref 850)), (eT P "exchanged" 1363 (.ref 857)), (eT P "is_below" 1371 (.ref 864)), (eT P "number" 1384 (.ref 871)), (eT P "__eq__" 1392 (.ref 878)), (eT P "__repr__" 1401 (.ref 885)), (eT P "__static_attributes__" 1403 (.ref 886)), (eT P "__dict__" 1405 (.ref 889)), (eT P "__weakref__" 1407 (.ref 890)), (eT P "__doc__" 1408 .none), (eT P "__hash__" 1409 .none)] 5
def o3_888 : Q0 := (.mk (.type "type") none (.cls (.mk "Row" [(.type "object")] [(.ref 888), (.type "object")] 887 "Row" true [] [] false none false)) #[none, none, (some (.str "Row" 1225)), (some (.str "Row" 1233)), (some (.builtin "object.__new__")), (some (.bool true))])
def o3_889 : Q0 := (.mk (.type "getset_descriptor") none (.fields #[(.str "__dict__" 1404), (.ref 888), (.builtin "function.__dict__"), (.builtin "function.__dict__#set")]) #[])
def o3_890 : Q0 := (.mk (.type "getset_descriptor") none (.fields #[(.str "__weakref__" 1406), (.ref 888), (.builtin "ExceptionGroup.__weakref__"), .none]) #[])
def o3_891 : Q0 := (.mk (.type "super") none (.fields #[(.ref 888), (.ref 888), (.ref 888)]) #[])
def o3_892 : Q0 := bO "object.__init_subclass__" (.ref 888)
def o3_893 : Q0 := tO []
def o3_894 : Q0 := eO
def o3_895 : Q0 := fO "_law_hand" "_law_hand" (top 59) 0
def o3_896 : Q0 := cO "_law_hand" "_law_hand" 1414 505 1 0 0 3 893 true 181 894 .none .none (.ref 895) 1417 505 1418
def o3_897 : Q0 := gO "_law_hand" "_law_hand" (top 59) 3 "law_turnmill_k54_links_of_fractions" 1412 896
def o3_898 : Q0 := tO []
def o3_899 : Q0 := eO
def o3_900 : Q0 := tO [(.str "_law_hand_here" 1423), (.str "_law_many" 1424), (.str "_law_cell" 1425), (.str "_law_one" 1426), (.str "_law_two" 1427), (.str "_law_drawn" 1428)]
def o3_901 : Q0 := tO []
def o3_902 : Q0 := fO "_law_pick" "_law_pick" (top 60) 0
def o3_903 : Q0 := cO "_law_pick" "_law_pick" 1420 511 2 0 0 3 898 true 181 899 (.ref 900) (.ref 901) (.ref 902) 1429 511 1430
def o3_904 : Q0 := gO "_law_pick" "_law_pick" (top 60) 3 "law_turnmill_k54_links_of_fractions" 1412 903
def o3_905 : Q0 := tO []
def o3_906 : Q0 := eO
def o3_907 : Q0 := tO [(.str "_law_hand_here" 1435), (.str "_law_items" 1436)]
def o3_908 : Q0 := tO []
def o3_909 : Q0 := fO "_law_of" "_law_of" (top 61) 0
def o3_910 : Q0 := cO "_law_of" "_law_of" 1432 525 2 0 0 3 905 true 181 906 (.ref 907) (.ref 908) (.ref 909) 1437 525 1438
def o3_911 : Q0 := gO "_law_of" "_law_of" (top 61) 3 "law_turnmill_k54_links_of_fractions" 1412 910
def o3_912 : Q0 := tO []
def o3_913 : Q0 := eO
def o3_914 : Q0 := fO "_law_same" "_law_same" (top 62) 0
def o3_915 : Q0 := cO "_law_same" "_law_same" 1440 527 2 0 0 3 912 true 181 913 .none .none (.ref 914) 1443 527 1444
def o3_916 : Q0 := gO "_law_same" "_law_same" (top 62) 3 "law_turnmill_k54_links_of_fractions" 1412 915
def o3_917 : Q0 := tO []
def o3_918 : Q0 := eO
def o3_919 : Q0 := fO "_law_word" "_law_word" (top 63) 0
def o3_920 : Q0 := cO "_law_word" "_law_word" 1446 537 2 0 0 3 917 true 181 918 .none .none (.ref 919) 1449 537 1450
def o3_921 : Q0 := gO "_law_word" "_law_word" (top 63) 3 "law_turnmill_k54_links_of_fractions" 1412 920
def o3_922 : Q0 := tO []
def o3_923 : Q0 := eO
def o3_924 : Q0 := tO [(.str "_law_front" 1455), (.str "_law_loop" 1456), (.str "_law_size" 1457)]
def o3_925 : Q0 := tO []
def o3_926 : Q0 := fO "_law_normal" "_law_normal" (top 64) 0
def o3_927 : Q0 := cO "_law_normal" "_law_normal" 1452 539 2 0 0 3 922 true 181 923 (.ref 924) (.ref 925) (.ref 926) 1458 539 1459
def o3_928 : Q0 := gO "_law_normal" "_law_normal" (top 64) 3 "law_turnmill_k54_links_of_fractions" 1412 927
def o3_929 : Q0 := tO []
def o3_930 : Q0 := eO
def o3_931 : Q0 := tO [(.str "_law_hand_here" 1464), (.str "_law_peak" 1465)]
def o3_932 : Q0 := tO []
def o3_933 : Q0 := fO "_law_root_line" "_law_root_line" (top 65) 0
def o3_934 : Q0 := cO "_law_root_line" "_law_root_line" 1461 546 2 0 0 3 929 true 181 930 (.ref 931) (.ref 932) (.ref 933) 1466 546 1467
def o3_935 : Q0 := gO "_law_root_line" "_law_root_line" (top 65) 3 "law_turnmill_k54_links_of_fractions" 1412 934
def o3_936 : Q0 := tO []
def o3_937 : Q0 := eO
def o3_938 : Q0 := tO [(.str "_law_phrase" 1472)]
def o3_939 : Q0 := tO []
def o3_940 : Q0 := fO "_law_row" "_law_row" (top 66) 0
def o3_941 : Q0 := cO "_law_row" "_law_row" 1469 548 1 0 0 3 936 true 181 937 (.ref 938) (.ref 939) (.ref 940) 1473 548 1474
def o3_942 : Q0 := gO "_law_row" "_law_row" (top 66) 3 "law_turnmill_k54_links_of_fractions" 1412 941
def o3_943 : Q0 := tO []
def o3_944 : Q0 := eO
def o3_945 : Q0 := tO [(.str "_law_script" 1479), (.str "_law_hand_here" 1480), (.str "_law_step" 1481), (.str "_law_phrase" 1482), (.str "_law_rival" 1483), (.str "_law_path" 1484), (.str "_law_goal" 1485), (.str "_law_found" 1486), (.str "_law_same_here" 1487), (.str "_law_grid" 1488)]
def o3_946 : Q0 := tO []
def o3_947 : Q0 := fO "law" "law" (top 67) 0
def o3_948 : Q0 := cO "law" "law" 1476 550 1 0 0 3 943 true 181 944 (.ref 945) (.ref 946) (.ref 947) 1489 550 1490
def o3_949 : Q0 := gO "law" "law" (top 67) 3 "law_turnmill_k54_links_of_fractions" 1412 948
def T3 (P : Params) : BT := (nO (boot_o_0 P) (nO (boot_o_1 P) (nO (o3_3 P) (nO (boot_o_7 P) (nO o1_15 (nO o1_31 (nO o1_63 (nO o1_127 (nO o1_255 (lO o2_511) (lO o3_767)) (nO o2_383 (lO o2_639) (lO o3_895))) (nO o1_191 (nO o1_319 (lO o2_575) (lO o3_831)) (nO o2_447 (lO o2_703) .nil))) (nO o1_95 (nO o1_159 (nO o1_287 (lO o2_543) (lO o3_799)) (nO o2_415 (lO o2_671) (lO o3_927))) (nO o1_223 (nO o1_351 (lO o2_607) (lO o3_863)) (nO o2_479 (lO o3_735) .nil)))) (nO o1_47 (nO o1_79 (nO o1_143 (nO o1_271 (lO o2_527) (lO (o3_783 P))) (nO o2_399 (lO o2_655) (lO o3_911))) (nO o1_207 (nO o1_335 (lO o2_591) (lO o3_847)) (nO o2_463 (lO o3_719) .nil))) (nO o1_111 (nO o1_175 (nO o1_303 (lO o2_559) (lO o3_815)) (nO o2_431 (lO o2_687) (lO o3_943))) (nO o1_239 (nO o1_367 (lO o2_623) (lO o3_879)) (nO o2_495 (lO o3_751) .nil))))) (nO o1_23 (nO o1_39 (nO o1_71 (nO o1_135 (nO o1_263 (lO o2_519) (lO o3_775)) (nO o2_391 (lO o2_647) (lO o3_903))) (nO o1_199 (nO o1_327 (lO o2_583) (lO o3_839)) (nO o2_455 (lO o2_711) .nil))) (nO o1_103 (nO o1_167 (nO o1_295 (lO o2_551) (lO o3_807)) (nO o2_423 (lO o2_679) (lO o3_935))) (nO o1_231 (nO o1_359 (lO o2_615) (lO o3_871)) (nO o2_487 (lO o3_743) .nil)))) (nO o1_55 (nO o1_87 (nO (o1_151 P) (nO o1_279 (lO o2_535) (lO o3_791)) (nO o2_407 (lO o2_663) (lO o3_919))) (nO o1_215 (nO o1_343 (lO o2_599) (lO o3_855)) (nO o2_471 (lO o3_727) .nil))) (nO o1_119 (nO (o1_183 P) (nO o1_311 (lO o2_567) (lO o3_823)) (nO o2_439 (lO o2_695) .nil)) (nO o1_247 (nO (o1_375 P) (lO o2_631) (lO (o3_887 P))) (nO o2_503 (lO o3_759) .nil)))))) (nO o1_11 (nO o1_19 (nO o1_35 (nO o1_67 (nO o1_131 (nO o1_259 (lO o2_515) (lO o3_771)) (nO o2_387 (lO o2_643) (lO o3_899))) (nO o1_195 (nO o1_323 (lO o2_579) (lO o3_835)) (nO o2_451 (lO o2_707) .nil))) (nO o1_99 (nO o1_163 (nO o1_291 (lO o2_547) (lO o3_803)) (nO o2_419 (lO (o2_675 P)) (lO o3_931))) (nO o1_227 (nO o1_355 (lO o2_611) (lO o3_867)) (nO o2_483 (lO o3_739) .nil)))) (nO o1_51 (nO o1_83 (nO o1_147 (nO o1_275 (lO o2_531) (lO o3_787)) (nO o2_403 (lO o2_659) (lO o3_915))) (nO o1_211 (nO o1_339 (lO o2_595) (lO o3_851)) (nO o2_467 (lO o3_723) .nil))) (nO o1_115 (nO o1_179 (nO o1_307 (lO o2_563) (lO o3_819)) (nO o2_435 (lO o2_691) (lO o3_947))) (nO o1_243 (nO o1_371 (lO o2_627) (lO o3_883)) (nO o2_499 (lO o3_755) .nil))))) (nO o1_27 (nO o1_43 (nO (o1_75 P) (nO o1_139 (nO o1_267 (lO o2_523) (lO o3_779)) (nO o2_395 (lO o2_651) (lO o3_907))) (nO o1_203 (nO o1_331 (lO o2_587) (lO o3_843)) (nO o2_459 (lO o3_715) .nil))) (nO (o1_107 P) (nO o1_171 (nO o1_299 (lO o2_555) (lO o3_811)) (nO o2_427 (lO o2_683) (lO o3_939))) (nO o1_235 (nO o1_363 (lO o2_619) (lO o3_875)) (nO o2_491 (lO o3_747) .nil)))) (nO o1_59 (nO o1_91 (nO o1_155 (nO o1_283 (lO o2_539) (lO o3_795)) (nO o2_411 (lO o2_667) (lO o3_923))) (nO o1_219 (nO o1_347 (lO o2_603) (lO o3_859)) (nO o2_475 (lO o3_731) .nil))) (nO o1_123 (nO o1_187 (nO o1_315 (lO o2_571) (lO o3_827)) (nO o2_443 (lO o2_699) .nil)) (nO o1_251 (nO o1_379 (lO o2_635) (lO o3_891)) (nO o2_507 (lO o3_763) .nil))))))) (nO (boot_o_5 P) (nO (boot_o_9 P) (nO o1_17 (nO o1_33 (nO o1_65 (nO o1_129 (nO o1_257 (lO o2_513) (lO o3_769)) (nO o2_385 (lO o2_641) (lO o3_897))) (nO o1_193 (nO o1_321 (lO o2_577) (lO o3_833)) (nO o2_449 (lO o2_705) .nil))) (nO o1_97 (nO o1_161 (nO o1_289 (lO o2_545) (lO o3_801)) (nO o2_417 (lO o2_673) (lO o3_929))) (nO o1_225 (nO o1_353 (lO o2_609) (lO o3_865)) (nO o2_481 (lO o3_737) .nil)))) (nO o1_49 (nO o1_81 (nO (o1_145 P) (nO o1_273 (lO o2_529) (lO o3_785)) (nO o2_401 (lO o2_657) (lO o3_913))) (nO o1_209 (nO o1_337 (lO o2_593) (lO o3_849)) (nO o2_465 (lO o3_721) .nil))) (nO (o1_113 P) (nO o1_177 (nO o1_305 (lO o2_561) (lO o3_817)) (nO o2_433 (lO o2_689) (lO o3_945))) (nO o1_241 (nO o1_369 (lO o2_625) (lO o3_881)) (nO o2_497 (lO o3_753) .nil))))) (nO o1_25 (nO o1_41 (nO o1_73 (nO o1_137 (nO o1_265 (lO o2_521) (lO o3_777)) (nO o2_393 (lO o2_649) (lO o3_905))) (nO o1_201 (nO o1_329 (lO o2_585) (lO o3_841)) (nO o2_457 (lO o3_713) .nil))) (nO o1_105 (nO o1_169 (nO o1_297 (lO o2_553) (lO o3_809)) (nO o2_425 (lO o2_681) (lO o3_937))) (nO o1_233 (nO o1_361 (lO o2_617) (lO o3_873)) (nO o2_489 (lO o3_745) .nil)))) (nO o1_57 (nO o1_89 (nO o1_153 (nO o1_281 (lO o2_537) (lO o3_793)) (nO o2_409 (lO o2_665) (lO o3_921))) (nO o1_217 (nO o1_345 (lO o2_601) (lO o3_857)) (nO o2_473 (lO o3_729) .nil))) (nO o1_121 (nO o1_185 (nO o1_313 (lO o2_569) (lO o3_825)) (nO o2_441 (lO o2_697) .nil)) (nO o1_249 (nO o1_377 (lO o2_633) (lO o3_889)) (nO o2_505 (lO o3_761) .nil)))))) (nO o1_13 (nO o1_21 (nO (o1_37 P) (nO (o1_69 P) (nO o1_133 (nO (o1_261 P) (lO o2_517) (lO o3_773)) (nO o2_389 (lO o2_645) (lO o3_901))) (nO o1_197 (nO o1_325 (lO o2_581) (lO o3_837)) (nO o2_453 (lO o2_709) .nil))) (nO o1_101 (nO o1_165 (nO o1_293 (lO (o2_549 P)) (lO o3_805)) (nO o2_421 (lO o2_677) (lO o3_933))) (nO o1_229 (nO o1_357 (lO o2_613) (lO o3_869)) (nO o2_485 (lO o3_741) .nil)))) (nO o1_53 (nO o1_85 (nO o1_149 (nO o1_277 (lO o2_533) (lO o3_789)) (nO o2_405 (lO o2_661) (lO o3_917))) (nO o1_213 (nO o1_341 (lO o2_597) (lO o3_853)) (nO o2_469 (lO o3_725) .nil))) (nO o1_117 (nO o1_181 (nO o1_309 (lO o2_565) (lO o3_821)) (nO o2_437 (lO o2_693) (lO o3_949))) (nO o1_245 (nO o1_373 (lO o2_629) (lO o3_885)) (nO o2_501 (lO o3_757) .nil))))) (nO o1_29 (nO o1_45 (nO o1_77 (nO o1_141 (nO o1_269 (lO o2_525) (lO o3_781)) (nO o2_397 (lO o2_653) (lO o3_909))) (nO o1_205 (nO o1_333 (lO o2_589) (lO o3_845)) (nO o2_461 (lO o3_717) .nil))) (nO o1_109 (nO o1_173 (nO o1_301 (lO o2_557) (lO o3_813)) (nO o2_429 (lO o2_685) (lO o3_941))) (nO o1_237 (nO o1_365 (lO o2_621) (lO o3_877)) (nO o2_493 (lO o3_749) .nil)))) (nO o1_61 (nO o1_93 (nO o1_157 (nO o1_285 (lO o2_541) (lO o3_797)) (nO o2_413 (lO o2_669) (lO o3_925))) (nO o1_221 (nO o1_349 (lO o2_605) (lO o3_861)) (nO o2_477 (lO o3_733) .nil))) (nO o1_125 (nO o1_189 (nO o1_317 (lO o2_573) (lO o3_829)) (nO o2_445 (lO o2_701) .nil)) (nO o1_253 (nO o2_381 (lO o2_637) (lO o3_893)) (nO o2_509 (lO o3_765) .nil)))))))) (nO (boot_o_2 P) (nO (boot_o_4 P) (nO (boot_o_8 P) (nO o1_16 (nO o1_32 (nO o1_64 (nO o1_128 (nO o1_256 (lO (o2_512 P)) (lO o3_768)) (nO o2_384 (lO o2_640) (lO o3_896))) (nO o1_192 (nO o1_320 (lO o2_576) (lO o3_832)) (nO o2_448 (lO o2_704) .nil))) (nO o1_96 (nO o1_160 (nO o1_288 (lO o2_544) (lO o3_800)) (nO o2_416 (lO o2_672) (lO o3_928))) (nO o1_224 (nO o1_352 (lO o2_608) (lO o3_864)) (nO o2_480 (lO o3_736) .nil)))) (nO o1_48 (nO o1_80 (nO o1_144 (nO o1_272 (lO o2_528) (lO o3_784)) (nO o2_400 (lO o2_656) (lO o3_912))) (nO o1_208 (nO o1_336 (lO o2_592) (lO o3_848)) (nO o2_464 (lO o3_720) .nil))) (nO o1_112 (nO o1_176 (nO o1_304 (lO o2_560) (lO o3_816)) (nO o2_432 (lO (o2_688 P)) (lO o3_944))) (nO o1_240 (nO o1_368 (lO o2_624) (lO o3_880)) (nO o2_496 (lO o3_752) .nil))))) (nO (o1_24 P) (nO o1_40 (nO o1_72 (nO o1_136 (nO o1_264 (lO o2_520) (lO o3_776)) (nO o2_392 (lO o2_648) (lO o3_904))) (nO o1_200 (nO o1_328 (lO o2_584) (lO o3_840)) (nO o2_456 (lO o3_712) .nil))) (nO o1_104 (nO o1_168 (nO o1_296 (lO o2_552) (lO o3_808)) (nO (o2_424 P) (lO o2_680) (lO o3_936))) (nO o1_232 (nO o1_360 (lO o2_616) (lO o3_872)) (nO o2_488 (lO o3_744) .nil)))) (nO (o1_56 P) (nO (o1_88 P) (nO o1_152 (nO o1_280 (lO o2_536) (lO o3_792)) (nO o2_408 (lO o2_664) (lO o3_920))) (nO o1_216 (nO o1_344 (lO o2_600) (lO o3_856)) (nO o2_472 (lO o3_728) .nil))) (nO o1_120 (nO o1_184 (nO o1_312 (lO o2_568) (lO o3_824)) (nO o2_440 (lO o2_696) .nil)) (nO o1_248 (nO o1_376 (lO o2_632) (lO o3_888)) (nO o2_504 (lO o3_760) .nil)))))) (nO o3_12 (nO o1_20 (nO o1_36 (nO o1_68 (nO (o1_132 P) (nO o1_260 (lO o2_516) (lO o3_772)) (nO o2_388 (lO o2_644) (lO o3_900))) (nO o1_196 (nO o1_324 (lO o2_580) (lO o3_836)) (nO o2_452 (lO (o2_708 P)) .nil))) (nO o1_100 (nO (o1_164 P) (nO o1_292 (lO o2_548) (lO o3_804)) (nO o2_420 (lO o2_676) (lO o3_932))) (nO o1_228 (nO o1_356 (lO o2_612) (lO o3_868)) (nO o2_484 (lO o3_740) .nil)))) (nO o1_52 (nO o1_84 (nO o1_148 (nO o1_276 (lO o2_532) (lO o3_788)) (nO o2_404 (lO o2_660) (lO o3_916))) (nO o1_212 (nO o1_340 (lO o2_596) (lO o3_852)) (nO o2_468 (lO o3_724) .nil))) (nO o1_116 (nO o1_180 (nO o1_308 (lO o2_564) (lO o3_820)) (nO o2_436 (lO o2_692) (lO o3_948))) (nO o1_244 (nO o1_372 (lO o2_628) (lO o3_884)) (nO o2_500 (lO o3_756) .nil))))) (nO o1_28 (nO o1_44 (nO o1_76 (nO o1_140 (nO o1_268 (lO o2_524) (lO o3_780)) (nO o2_396 (lO o2_652) (lO o3_908))) (nO o1_204 (nO o1_332 (lO o2_588) (lO o3_844)) (nO o2_460 (lO o3_716) .nil))) (nO o1_108 (nO o1_172 (nO o1_300 (lO o2_556) (lO o3_812)) (nO o2_428 (lO o2_684) (lO o3_940))) (nO o1_236 (nO o1_364 (lO o2_620) (lO o3_876)) (nO o2_492 (lO o3_748) .nil)))) (nO o1_60 (nO o1_92 (nO o1_156 (nO o1_284 (lO o2_540) (lO o3_796)) (nO o2_412 (lO o2_668) (lO o3_924))) (nO o1_220 (nO o1_348 (lO o2_604) (lO o3_860)) (nO o2_476 (lO o3_732) .nil))) (nO o1_124 (nO o1_188 (nO o1_316 (lO o2_572) (lO o3_828)) (nO o2_444 (lO o2_700) .nil)) (nO o1_252 (nO o1_380 (lO o2_636) (lO o3_892)) (nO o2_508 (lO (o3_764 P)) .nil))))))) (nO (boot_o_6 P) (nO (boot_o_10 P) (nO o1_18 (nO o1_34 (nO o1_66 (nO o1_130 (nO o1_258 (lO o2_514) (lO o3_770)) (nO o2_386 (lO o2_642) (lO o3_898))) (nO o1_194 (nO o1_322 (lO o2_578) (lO o3_834)) (nO o2_450 (lO o2_706) .nil))) (nO o1_98 (nO o1_162 (nO o1_290 (lO o2_546) (lO o3_802)) (nO (o2_418 P) (lO o2_674) (lO o3_930))) (nO o1_226 (nO o1_354 (lO o2_610) (lO o3_866)) (nO o2_482 (lO o3_738) .nil)))) (nO (o1_50 P) (nO o1_82 (nO o1_146 (nO o1_274 (lO o2_530) (lO o3_786)) (nO o2_402 (lO o2_658) (lO o3_914))) (nO o1_210 (nO o1_338 (lO o2_594) (lO o3_850)) (nO o2_466 (lO o3_722) .nil))) (nO o1_114 (nO o1_178 (nO o1_306 (lO o2_562) (lO o3_818)) (nO o2_434 (lO o2_690) (lO o3_946))) (nO o1_242 (nO o1_370 (lO o2_626) (lO o3_882)) (nO o2_498 (lO o3_754) .nil))))) (nO o1_26 (nO o1_42 (nO o1_74 (nO o1_138 (nO o1_266 (lO o2_522) (lO o3_778)) (nO o2_394 (lO o2_650) (lO o3_906))) (nO o1_202 (nO o1_330 (lO o2_586) (lO o3_842)) (nO o2_458 (lO o3_714) .nil))) (nO o1_106 (nO (o1_170 P) (nO o1_298 (lO o2_554) (lO o3_810)) (nO o2_426 (lO o2_682) (lO o3_938))) (nO o1_234 (nO o1_362 (lO o2_618) (lO o3_874)) (nO o2_490 (lO o3_746) .nil)))) (nO o1_58 (nO o1_90 (nO o1_154 (nO o1_282 (lO o2_538) (lO o3_794)) (nO o2_410 (lO o2_666) (lO o3_922))) (nO o1_218 (nO o1_346 (lO o2_602) (lO o3_858)) (nO o2_474 (lO o3_730) .nil))) (nO o1_122 (nO o1_186 (nO o1_314 (lO o2_570) (lO o3_826)) (nO o2_442 (lO o2_698) .nil)) (nO o1_250 (nO o1_378 (lO o2_634) (lO o3_890)) (nO o2_506 (lO o3_762) .nil)))))) (nO o1_14 (nO o1_22 (nO o1_38 (nO o1_70 (nO o1_134 (nO o1_262 (lO o2_518) (lO o3_774)) (nO o2_390 (lO o2_646) (lO o3_902))) (nO o1_198 (nO o1_326 (lO o2_582) (lO o3_838)) (nO o2_454 (lO o2_710) .nil))) (nO o1_102 (nO o1_166 (nO o1_294 (lO o2_550) (lO o3_806)) (nO o2_422 (lO o2_678) (lO o3_934))) (nO o1_230 (nO o1_358 (lO (o2_614 P)) (lO o3_870)) (nO o2_486 (lO o3_742) .nil)))) (nO o1_54 (nO o1_86 (nO o1_150 (nO (o1_278 P) (lO o2_534) (lO o3_790)) (nO o2_406 (lO o2_662) (lO o3_918))) (nO o1_214 (nO o1_342 (lO o2_598) (lO o3_854)) (nO o2_470 (lO o3_726) .nil))) (nO o1_118 (nO o1_182 (nO o1_310 (lO o2_566) (lO o3_822)) (nO o2_438 (lO o2_694) .nil)) (nO o1_246 (nO o1_374 (lO o2_630) (lO o3_886)) (nO o2_502 (lO o3_758) .nil))))) (nO (o1_30 P) (nO o1_46 (nO o1_78 (nO o1_142 (nO o1_270 (lO o2_526) (lO o3_782)) (nO o2_398 (lO o2_654) (lO o3_910))) (nO o1_206 (nO o1_334 (lO o2_590) (lO o3_846)) (nO o2_462 (lO o3_718) .nil))) (nO o1_110 (nO o1_174 (nO o1_302 (lO o2_558) (lO o3_814)) (nO o2_430 (lO o2_686) (lO o3_942))) (nO o1_238 (nO o1_366 (lO (o2_622 P)) (lO o3_878)) (nO o2_494 (lO o3_750) .nil)))) (nO o1_62 (nO (o1_94 P) (nO o1_158 (nO o1_286 (lO o2_542) (lO o3_798)) (nO o2_414 (lO o2_670) (lO o3_926))) (nO o1_222 (nO o1_350 (lO o2_606) (lO o3_862)) (nO o2_478 (lO o3_734) .nil))) (nO (o1_126 P) (nO o1_190 (nO o1_318 (lO o2_574) (lO o3_830)) (nO o2_446 (lO o2_702) .nil)) (nO o1_254 (nO o2_382 (lO o2_638) (lO o3_894)) (nO o2_510 (lO o3_766) .nil)))))))))
def S3 (w : World) (os : OsState) : SharedT := ⟨T3 w.params, 950, (Life.mk [] [] [] 0 [] [] Bool.false (List.toArray []) [] 0 Bool.false Bool.false Bool.false 0 [2000, 10, 10] Bool.false 0 Bool.true [] [] 0 Bool.false), #[], (Drawn.mk 0 0 0 0), 1492, os⟩
def l1 : List Stmt := [top 0, top 1, top 2, top 3, top 4, top 5, top 6, top 7, top 8, top 9, top 10, top 11, top 12, top 13, top 14, top 15, top 16, top 17, top 18, top 19, top 20, top 21, top 22, top 23, top 24, top 25, top 26, top 27, top 28]
def l2 : List Stmt := [top 29, top 30, top 31, top 32, top 33, top 34, top 35, top 36, top 37, top 38, top 39, top 40, top 41, top 42, top 43, top 44, top 45]
def l3 : List Stmt := [top 46, top 47, top 48, top 49, top 50, top 51, top 52, top 53, top 54, top 55, top 56, top 57, top 58, top 59, top 60, top 61, top 62, top 63, top 64, top 65, top 66, top 67]
set_option maxHeartbeats 0 in
theorem run1 (w : World) (os : OsState) : firstF (stQ R.prog w) R.prog w (PySem.Value.ref 13) 14 (PySem.Pos.mk 0 0 0 0) 12 100 20000 l1 os = some (11, ⟨denQ tabQ (codT R.prog (PySem.Value.ref 13) 14), codT R.prog (PySem.Value.ref 13) 14, (PySem.Pos.mk 0 0 0 0), [topFrame (PySem.Pos.mk 0 0 0 0)]⟩, .next, codT R.prog (PySem.Value.ref 13) 14, .next, S1 w os, codT R.prog (PySem.Value.ref 13) 14, (PySem.Pos.mk 104 0 166 43)) := by
  kernel_rfl
set_option maxHeartbeats 0 in
theorem run2 (w : World) (os : OsState) : segF (stQ R.prog w) 11 (bootAnn w) 1 20000 (S1 w os) (piecesOf l2 (envT R.prog (PySem.Value.ref 13) 14) (codT R.prog (PySem.Value.ref 13) 14) (PySem.Pos.mk 104 0 166 43) [topFrame (PySem.Pos.mk 0 0 0 0)]) = some (.next, S2 w os, codT R.prog (PySem.Value.ref 13) 14, (PySem.Pos.mk 333 0 339 55)) := by
  kernel_rfl
set_option maxHeartbeats 0 in
theorem run3 (w : World) (os : OsState) : segF (stQ R.prog w) 11 (bootAnn w) 1 20000 (S2 w os) (piecesOf l3 (envT R.prog (PySem.Value.ref 13) 14) (codT R.prog (PySem.Value.ref 13) 14) (PySem.Pos.mk 333 0 339 55) [topFrame (PySem.Pos.mk 0 0 0 0)]) = some (.next, S3 w os, codT R.prog (PySem.Value.ref 13) 14, (PySem.Pos.mk 550 0 569 15)) := by
  kernel_rfl
set_option maxHeartbeats 0 in
theorem fin1 (w : World) (os : OsState) : (lastF (stQ R.prog w) R.prog w (PySem.Value.ref 13) 14 (PySem.Pos.mk 0 0 0 0) 11 10 100 [] (S3 w os) (PySem.Pos.mk 550 0 569 15)).map (fun x => (x.1, x.2.1, looksF R.prog (boot_heap w.params) x.2.2.abs)) = some (.next, codT R.prog (PySem.Value.ref 13) 14, true) := by
  kernel_rfl
set_option maxHeartbeats 0 in
theorem fin2 (w : World) (os : OsState) : (lastF (stQ R.prog w) R.prog w (PySem.Value.ref 13) 14 (PySem.Pos.mk 0 0 0 0) 11 10 100 [] (S3 w os) (PySem.Pos.mk 550 0 569 15)).map (fun x => seenQ (view R.prog [67]) nms (importedModules R.prog.main.body) (fun s => xlAt (view R.prog [67]) [] s && recOk R.toRowW.records s) x.2.2.abs) = some (openGood (view R.prog [67]) nms) := by
  kernel_rfl
set_option maxHeartbeats 0 in
theorem fin3 (w : World) (os : OsState) : (lastF (stQ R.prog w) R.prog w (PySem.Value.ref 13) 14 (PySem.Pos.mk 0 0 0 0) 11 10 100 [] (S3 w os) (PySem.Pos.mk 550 0 569 15)).map (fun x => ob x.2.2) = some (hk.val w) := by
  kernel_rfl
theorem bd : behindTheImports R.prog = l1 ++ (l2 ++ (l3 ++ [])) := by kernel_rfl
end
end K54
open PySem PySem.W PySem.Calls PyProof.Rows in
set_option maxHeartbeats 0 in
theorem PySem.Challenge.cw_turnmill_k54_links_of_fractions_holds : PySem.Challenge.rw_turnmill_k54_links_of_fractions.Holds := by
  refine law_open fun said => ?_
  refine Z.head_cut (r := OpenLaw.row PySem.Challenge.rw_turnmill_k54_links_of_fractions) (q := view (OpenLaw.row PySem.Challenge.rw_turnmill_k54_links_of_fractions).prog [67]) (H := K54.hk) (ob := K54.ob) (loose := K54.nms) (d := HandSHeadRun.topDef (OpenLaw.row PySem.Challenge.rw_turnmill_k54_links_of_fractions).prog 67) (kwd := []) K54.ob_eq
    (by kernel_rfl) (fun s => by kernel_rfl) K54.bd K54.run1 (Z.rest_seg K54.run2 (Z.rest_seg K54.run3 (Z.rest_last3 K54.fin1 K54.fin2 K54.fin3))) (by kernel_rfl) (by kernel_rfl) (by kernel_rfl) (by rfl) (by first | assumption | decide +kernel) (by decide +kernel) ⟨rfl, rfl, rfl, rfl, rfl, by decide +kernel⟩ ?hw ?hc
  case hw => w_witness2
  case hc =>
    refine LamX.walk_ofTsE (l := PySem.Challenge.rw_turnmill_k54_links_of_fractions) (n := 63) (k := 10) (x := "_law_script") (CX := fun w => L2.CX (OpenLaw.prog PySem.Challenge.rw_turnmill_k54_links_of_fractions) w) rfl (by decide) (by kernel_rfl) ⟨rfl, by decide, by decide⟩ ?F (fun _ _ _ _ _ ⟨_, _, _, _, _, _, _, _, _, _, _, _, z⟩ => z)
    intro w mg fa h Y G hmg0
    obtain ⟨K, KX, c⟩ := Y
    have hmg : mg ("law" : PySem.Str) = some (.ref fa) := by
      have e : (HandSHeadRun.topDef (OpenLaw.row PySem.Challenge.rw_turnmill_k54_links_of_fractions).prog 67).name = ("law" : PySem.Str) := by kernel_rfl
      rw [← e]
      exact hmg0
    exact ⟨K, KX, K54.all KX G hmg c rfl⟩
