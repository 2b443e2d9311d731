import PyProof.Rows.All
import Wide.All
import OpenK.AllK
import Wide.FinOn
import PyProof.EqAt
import PyProof.EqKinds
import PyProof.TupleCall
import HandS.Base
import HandS.Call
import HandS.List
import HandS.Comp
import HandS.Exc
import HandS.Lambda
import HandS.Words
import HandS.Text
import HandS.TupAny
import HandS.IsInst
import HandS.Wide
import HandS.Dict
import HandS.WordsDict
import HandS.Deep
import HandS.Flow
import HandS.Defaults
import HandS.ExcInit
import HandS.Property
import HandS.WordsExc
import HandS.FStr
import HandS.Iter
import HandS.Zip
import KE.KExcInit
import HandS.MakeKw
import HandS.ClsMeth
import HandS.Head0
import HandS.Head1
import HandS.Head2
import HandS.HeadEnd
import HandS.HeadHook1
import HandS.HeadHook2
import HandS.HeadWalk
import HandS.EndTab
import HandS.MakeKwOnly
import PyProof.ExcBaseAll.LookupError
import PyProof.ExcBaseAll.IndexError
import HandS.Style
import HandS.More
import HandS.StrMore
import HandS.RaiseMore
import KE.DataMinMax
import HandS.OwnEq
import HandS.TryMany
import HandS.ExcField
import HandS.HotCalls
import KE.KTryMore
import HandS.NestedK
import PyProof.StrLawsFirst
import PyProof.ListStr
import PyProof.StrLawsTight
import PyProof.FitsReplace
import HandS.TryOnly
import KE.KDictDisplayH
import HandS.Replace
import HandS.Finally
import HandS.Star
import PyProof.LongRange
import KE.KUnpackStar
import HandS.Conv
import KE.KDictPairs
import KE.IntTextLaws
import HandS.SuiteRaise
import HandS.RaiseFrom
import HandS.ExcInitHot
import PyProof.DictUpdate
import HandS.DictComp
import HandS.HeadHook3
import HandS.ListItems
import KE.KDictSum
import HandS.ListEq
import KE.KEqDict
import PyProof.NeKinds
import KE.KExcIs
import HandS.ExcIs
import KE.KSuper
import HandS.NoneIn
import HandS.SetBool
import KE.KDictKeyed
import HandS.Strs
import HandS.TupLen
import HandS.Small
import PyProof.Rows.Range3
import KE.GoesEnum
import HandS.TupSets
import KE.SortData
import PySem.Challenge.RW_turnmill_k26_whole_fewest_rooms
set_option Elab.async false
set_option linter.all false
set_option maxRecDepth 100000
set_option maxHeartbeats 4000000
open PySem PySem.W PySem.Calls PyProof.Rows in
set_option maxHeartbeats 0 in
theorem law_open (H : PySem.Challenge.rw_turnmill_k26_whole_fewest_rooms.row.wellSaid = true → PySem.Challenge.rw_turnmill_k26_whole_fewest_rooms.row.Holds) : PySem.Challenge.rw_turnmill_k26_whole_fewest_rooms.Holds := by
  w_on; o_law
  exact H (by assumption)
open PySem PySem.W PySem.Calls PyProof.Rows in
set_option maxHeartbeats 0 in
theorem law_bare : (OpenLaw.row PySem.Challenge.rw_turnmill_k26_whole_fewest_rooms).prog.bare := ⟨rfl, rfl, rfl, rfl, rfl, by decide +kernel⟩
namespace Z
open PySem PySem.Spec PyProof.Rows L2

inductive D where
  | non | bl (b : Bool) | int (i : Int) | str (x : Str) | ty (n : String) | ref (a : Addr)
  | tup (l : List D) | lst (l : List D) | dic (l : List (D × D)) | obj (C : Addr) (fs : List (Str × D)) | lk (l : List D)
  | fn (Q : L2.Hp → Addr → Prop)
  | tpl (l : List D)
  | dlk (l : List (D × D))
inductive Cell where
  | lst (l : List D) | dic (l : List (D × D)) | ins (C : Addr) (fs : List (Str × D))
  | tab (q : Str)
  | dit (l : List (D × D))
  | frd (o : Obj) (kvs : List (Key × V)) (l : List (D × D))
  | raw (o : Heap → Prop)
  | key (o : Heap → Prop) (bs : List (Addr × List (Option Int)))
def oV : Option Int → V
  | none => .non
  | some i => .int i
abbrev Sto := Addr → Option Cell
abbrev En := List (Option D)

def keyD : D → Option Key
  | .int i => some (.inl i)
  | .str x => some (.inr x)
  | _ => none
def keysD : List D → Option (List Key)
  | [] => some []
  | d :: r => match keyD d, keysD r with
    | some k, some ks => some (k :: ks)
    | _, _ => none
def keyT : D → Option (List Key)
  | .tup l => keysD l
  | _ => none

def Sub (G G' : Hp) : Prop := ∀ a o, G a = some o → G' a = some o
theorem Sub.rfl' {G : Hp} : Sub G G := fun _ _ h => h
theorem Sub.tr {G G1 G2 : Hp} (a : Sub G G1) (b : Sub G1 G2) : Sub G G2 := fun c o h => b c o (a c o h)
theorem Sub.rd {G G' : Hp} {a : Addr} {u : HO} (s : Sub G G') (h : Rd G a u) : Rd G' a u := h.imp (s _ _) fun ⟨o, h⟩ => ⟨o, s _ _ h⟩
theorem Sub.sqL {K : PySem.W.Frag} {G G' : Hp} {a : Addr} {xs : List V} (s : Sub G G') (h : SqL K G a xs) : SqL K G' a xs := by
  rcases h with (h | ⟨o, h⟩) | h
  · exact .inl (.inl (s _ _ h))
  · exact .inl (.inr ⟨o, s _ _ h⟩)
  · exact .inr h
theorem Sub.sqT {K : PySem.W.Frag} {G G' : Hp} {a : Addr} {xs : List V} (s : Sub G G') (h : SqT K G a xs) : SqT K G' a xs := by
  rcases h with (h | ⟨o, h⟩) | h
  · exact .inl (.inl (s _ _ h))
  · exact .inl (.inr ⟨o, s _ _ h⟩)
  · exact .inr h

mutual
inductive Rep (K : PySem.W.Frag) (G : Hp) : D → V → Prop
  | non : Rep K G .non .non
  | bl {b : Bool} : Rep K G (.bl b) (.bl b)
  | int {i : Int} : Rep K G (.int i) (.int i)
  | str {x : Str} : Rep K G (.str x) (.str x)
  | ty {n : String} : Rep K G (.ty n) (.ty n)
  | ref {a : Addr} : Rep K G (.ref a) (.ref a)
  | tup {l : List D} {a : Addr} {vs : List V} : SqT K G a vs → RepL K G l vs → Rep K G (.tup l) (.ref a)
  | tpl {l : List D} {a : Addr} {vs : List V} : G a = some (.tup vs) → RepL K G l vs → Rep K G (.tpl l) (.ref a)
  | fn {Q : Hp → Addr → Prop} {a : Addr} {G0 : Hp} : Sub G0 G → Q G0 a → Rep K G (.fn Q) (.ref a)
  | lst {l : List D} {a : Addr} {vs : List V} : Rd G a (.lst vs) → RepL K G l vs → Rep K G (.lst l) (.ref a)
  | lk {l : List D} {a : Addr} {vs : List V} : SqL K G a vs → RepL K G l vs → Rep K G (.lk l) (.ref a)
  | dic {l : List (D × D)} {a : Addr} {kvs : List (Key × V)} : G a = some (.dK kvs) → RepD K G l kvs → Rep K G (.dic l) (.ref a)
  | dit {l : List (D × D)} {a : Addr} {kvs : List (List Key × V)} : G a = some (.dT kvs) → RepT K G l kvs → Rep K G (.dic l) (.ref a)
  | dlk {l : List (D × D)} {a : Addr} {o : Obj} {kvs : List (Key × V)} : G a = some (.frz o (.dK kvs)) → RepD K G l kvs → Rep K G (.dlk l) (.ref a)
  | obj {C : Addr} {fs : List (Str × D)} {a dx : Addr} {fvs : List (Str × V)} : G a = some (.ins C dx fvs) → RepF K G fs fvs → Rep K G (.obj C fs) (.ref a)
inductive RepL (K : PySem.W.Frag) (G : Hp) : List D → List V → Prop
  | nil : RepL K G [] []
  | cons {d : D} {ds : List D} {v : V} {vs : List V} : Rep K G d v → RepL K G ds vs → RepL K G (d :: ds) (v :: vs)
inductive RepF (K : PySem.W.Frag) (G : Hp) : List (Str × D) → List (Str × V) → Prop
  | nil : RepF K G [] []
  | cons {f : Str} {d : D} {ds : List (Str × D)} {v : V} {vs : List (Str × V)} : Rep K G d v → RepF K G ds vs → RepF K G ((f, d) :: ds) ((f, v) :: vs)
inductive RepD (K : PySem.W.Frag) (G : Hp) : List (D × D) → List (Key × V) → Prop
  | nil : RepD K G [] []
  | cons {c d : D} {k : Key} {ds : List (D × D)} {v : V} {vs : List (Key × V)} : keyD c = some k → Rep K G d v → RepD K G ds vs → RepD K G ((c, d) :: ds) ((k, v) :: vs)
inductive RepT (K : PySem.W.Frag) (G : Hp) : List (D × D) → List (List Key × V) → Prop
  | nil : RepT K G [] []
  | cons {c d : D} {k : List Key} {ds : List (D × D)} {v : V} {vs : List (List Key × V)} : keyT c = some k → Rep K G d v → RepT K G ds vs → RepT K G ((c, d) :: ds) ((k, v) :: vs)
end

section
variable {K : PySem.W.Frag} {G G' : Hp}
mutual
theorem Rep.mono (s : Sub G G') : ∀ {d : D} {v : V}, Rep K G d v → Rep K G' d v
  | _, _, .non => .non
  | _, _, .bl => .bl
  | _, _, .int => .int
  | _, _, .str => .str
  | _, _, .ty => .ty
  | _, _, .ref => .ref
  | _, _, .tup h r => .tup (s.sqT h) (r.mono s)
  | _, _, .tpl h r => .tpl (s _ _ h) (r.mono s)
  | _, _, .fn h q => .fn (h.tr s) q
  | _, _, .lst h r => .lst (s.rd h) (r.mono s)
  | _, _, .lk h r => .lk (s.sqL h) (r.mono s)
  | _, _, .dic h r => .dic (s _ _ h) (r.mono s)
  | _, _, .dlk h r => .dlk (s _ _ h) (r.mono s)
  | _, _, .dit h r => .dit (s _ _ h) (r.mono s)
  | _, _, .obj h r => .obj (s _ _ h) (r.mono s)
theorem RepL.mono (s : Sub G G') : ∀ {d : List D} {v : List V}, RepL K G d v → RepL K G' d v
  | _, _, .nil => .nil
  | _, _, .cons h r => .cons (h.mono s) (r.mono s)
theorem RepF.mono (s : Sub G G') : ∀ {d : List (Str × D)} {v : List (Str × V)}, RepF K G d v → RepF K G' d v
  | _, _, .nil => .nil
  | _, _, .cons h r => .cons (h.mono s) (r.mono s)
theorem RepD.mono (s : Sub G G') : ∀ {d : List (D × D)} {v : List (Key × V)}, RepD K G d v → RepD K G' d v
  | _, _, .nil => .nil
  | _, _, .cons e h r => .cons e (h.mono s) (r.mono s)
theorem RepT.mono (s : Sub G G') : ∀ {d : List (D × D)} {v : List (List Key × V)}, RepT K G d v → RepT K G' d v
  | _, _, .nil => .nil
  | _, _, .cons e h r => .cons e (h.mono s) (r.mono s)
end
theorem RepL.length : ∀ {ds : List D} {vs : List V}, RepL K G ds vs → ds.length = vs.length
  | _, _, .nil => rfl
  | _, _, .cons _ r => congrArg (· + 1) r.length
theorem RepL.get : ∀ {ds : List D} {vs : List V} {i : Nat} {d : D}, RepL K G ds vs → ds[i]? = some d → ∃ v, vs[i]? = some v ∧ Rep K G d v
  | _, _, _, _, .nil, e => by simp at e
  | _, _, 0, _, .cons r _, e => by simp at e; subst e; exact ⟨_, rfl, r⟩
  | _, _, i + 1, d, .cons _ t, e => by
    obtain ⟨u, h1, h2⟩ := t.get (i := i) (d := d) (by simpa using e)
    exact ⟨u, by simpa using h1, h2⟩
theorem RepL.app : ∀ {xs ys : List D} {us ws : List V}, RepL K G xs us → RepL K G ys ws → RepL K G (xs ++ ys) (us ++ ws)
  | _, _, _, _, .nil, s => s
  | _, _, _, _, .cons r t, s => .cons r (t.app s)
theorem RepL.set {x : D} {u : V} (r : Rep K G x u) : ∀ {xs : List D} {us : List V} (i : Nat), RepL K G xs us → RepL K G (xs.set i x) (us.set i u)
  | _, _, _, .nil => .nil
  | _, _, 0, .cons _ t => .cons r t
  | _, _, i + 1, .cons q t => .cons q (RepL.set r i t)
theorem RepL.take : ∀ {xs : List D} {us : List V} (n : Nat), RepL K G xs us → RepL K G (xs.take n) (us.take n)
  | _, _, 0, _ => .nil
  | _, _, _ + 1, .nil => .nil
  | _, _, n + 1, .cons r t => .cons r (t.take n)
theorem RepL.drop : ∀ {xs : List D} {us : List V} (n : Nat), RepL K G xs us → RepL K G (xs.drop n) (us.drop n)
  | _, _, 0, r => r
  | _, _, _ + 1, .nil => .nil
  | _, _, n + 1, .cons _ t => t.drop n
theorem RepF.length : ∀ {ds : List (Str × D)} {vs : List (Str × V)}, RepF K G ds vs → ds.length = vs.length
  | _, _, .nil => rfl
  | _, _, .cons _ r => congrArg (· + 1) r.length
theorem RepF.look {f : Str} : ∀ {ds : List (Str × D)} {vs : List (Str × V)} {d : D}, RepF K G ds vs → ds.lookup f = some d → ∃ v, vs.lookup f = some v ∧ Rep K G d v
  | _, _, _, .nil, e => by cases e
  | _, _, d, .cons (f := g) r t, e => by
    rw [List.lookup_cons] at e ⊢
    cases q : f == g with
    | true => rw [q] at e; cases e; exact ⟨_, rfl, r⟩
    | false => rw [q] at e; exact t.look e
theorem RepF.none {f : Str} : ∀ {ds : List (Str × D)} {vs : List (Str × V)}, RepF K G ds vs → ds.lookup f = none → vs.lookup f = none
  | _, _, .nil, _ => rfl
  | _, _, .cons (f := g) r t, e => by
    rw [List.lookup_cons] at e ⊢
    cases q : f == g with
    | true => rw [q] at e; cases e
    | false => rw [q] at e; exact t.none e
end

def putD (f : Str) (d : D) : List (Str × D) → List (Str × D)
  | [] => [(f, d)]
  | (g, x) :: r => if g = f then (g, d) :: r else (g, x) :: putD f d r
end Z
namespace Z
open PySem PySem.Spec PyProof.Rows L2

def CellAt (K : PySem.W.Frag) (G H : Hp) (a : Addr) : Cell → Prop
  | .lst l => ∃ vs, H a = some (.lst vs) ∧ RepL K G l vs
  | .dic l => ∃ kvs, H a = some (.dK kvs) ∧ RepD K G l kvs
  | .dit l => ∃ kvs, H a = some (.dT kvs) ∧ RepT K G l kvs
  | .frd o kvs l => H a = some (.frz o (.dK kvs)) ∧ RepD K G l kvs
  | .raw o => H a = some (.ext o)
  | .key o bs => H a = some (.ext o) ∧ ∀ p ∈ bs, G p.1 = some (.tup (p.2.map oV))
  | .ins C fs => ∃ dx fvs, H a = some (.ins C dx fvs) ∧ RepF K G fs fvs
  | .tab q => ∃ ps : Array Value, H a = some (.tbl ps) ∧ TriplesOk ps.toList ∧ ∀ (pos : Pos) (cv : Value), codeAmong pos ps.toList = some cv → ∃ c, cv = .ref c ∧ G c = some (LamX.CodeO c q)
theorem CellAt.there {K : PySem.W.Frag} {G H : Hp} {a : Addr} {c : Cell} (h : CellAt K G H a c) : H a ≠ none := by
  cases c with
  | lst l => obtain ⟨_, e, _⟩ := h; rw [e]; simp
  | dic l => obtain ⟨_, e, _⟩ := h; rw [e]; simp
  | dit l => obtain ⟨_, e, _⟩ := h; rw [e]; simp
  | frd o kvs l => rw [h.1]; simp
  | raw o => rw [show H a = some (.ext o) from h]; simp
  | key o bs => rw [h.1]; simp
  | ins C fs => obtain ⟨_, _, e, _⟩ := h; rw [e]; simp
  | tab q => obtain ⟨_, e, _⟩ := h; rw [e]; simp
theorem CellAt.move {K : PySem.W.Frag} {G G' H H' : Hp} {a : Addr} {c : Cell} (s : Sub G G') (e : ∀ o, H a = some o → H' a = some o) (h : CellAt K G H a c) : CellAt K G' H' a c := by
  cases c with
  | lst l => obtain ⟨_, h, r⟩ := h; exact ⟨_, e _ h, r.mono s⟩
  | dic l => obtain ⟨_, h, r⟩ := h; exact ⟨_, e _ h, r.mono s⟩
  | dit l => obtain ⟨_, h, r⟩ := h; exact ⟨_, e _ h, r.mono s⟩
  | frd o kvs l => exact ⟨e _ h.1, h.2.mono s⟩
  | raw o => exact e _ h
  | key o bs => exact ⟨e _ h.1, fun p hp => s _ _ (h.2 p hp)⟩
  | ins C fs => obtain ⟨_, _, h, r⟩ := h; exact ⟨_, _, e _ h, r.mono s⟩
  | tab q => obtain ⟨_, h, t, r⟩ := h; exact ⟨_, e _ h, t, fun pos cv hc => let ⟨c, e1, e2⟩ := r pos cv hc; ⟨c, e1, s _ _ e2⟩⟩

structure Wd (K : PySem.W.Frag) (M : Sto) (H G : Hp) : Prop where
  sub : Sub G H
  cells : ∀ a c, M a = some c → G a = none ∧ CellAt K G H a c
structure Bs where
  H : Hp
  G : Hp
  M : Sto
structure Since (H0 G0 : Hp) (M0 : Sto) (M : Sto) (H G : Hp) : Prop where
  keep : ∀ a o, H0 a = some o → M0 a = none → H a = some o
  stay : ∀ a, H0 a ≠ none → H a ≠ none
  gsub : Sub G0 G
  gnew : ∀ a, G a ≠ none → G0 a = none → H0 a = none
  mnew : ∀ a, M a ≠ none → M0 a = none → H0 a = none
structure Rel (K : PySem.W.Frag) (B : Bs) (r : En) (M : Sto) (σ : L2.St) (H G : Hp) : Prop where
  wd : Wd K M H G
  len : r.length = σ.length
  slots : ∀ (i : Nat) d, r[i]? = some (some d) → ∃ v, σ[i]? = some (some v) ∧ Rep K G d v
  sin : Since B.H B.G B.M M H G

theorem Since.refl {H G : Hp} {M : Sto} : Since H G M M H G := ⟨fun _ _ h _ => h, fun _ h => h, Sub.rfl', fun _ h e => absurd e h, fun _ h e => absurd e h⟩
theorem Since.trans {K : PySem.W.Frag} {H0 G0 H1 G1 H2 G2 : Hp} {M0 M1 M2 : Sto} (w1 : Wd K M1 H1 G1) (a : Since H0 G0 M0 M1 H1 G1) (b : Since H1 G1 M1 M2 H2 G2) : Since H0 G0 M0 M2 H2 G2 where
  keep := fun c o h n => b.keep c o (a.keep c o h n) (by
    cases q : M1 c with
    | none => rfl
    | some x => have := a.mnew c (by rw [q]; simp) n; rw [this] at h; cases h)
  stay := fun c h => b.stay c (a.stay c h)
  gsub := a.gsub.tr b.gsub
  gnew := fun c h n => by
    cases q : G1 c with
    | some x => exact a.gnew c (by rw [q]; simp) n
    | none =>
      have h1 := b.gnew c h q
      cases z : H0 c with
      | none => rfl
      | some o => exact absurd h1 (a.stay c (by rw [z]; simp))
  mnew := fun c h n => by
    cases q : M1 c with
    | some x => exact a.mnew c (by rw [q]; simp) n
    | none =>
      have h1 := b.mnew c h q
      cases z : H0 c with
      | none => rfl
      | some o => exact absurd h1 (a.stay c (by rw [z]; simp))
theorem Rel.go {K : PySem.W.Frag} {B : Bs} {r : En} {M M' : Sto} {σ : L2.St} {H G H' G' : Hp} (R : Rel K B r M σ H G) (w : Wd K M' H' G') (s : Since H G M M' H' G') : Rel K B r M' σ H' G' :=
  ⟨w, R.len, fun i d e => let ⟨v, h1, h2⟩ := R.slots i d e; ⟨v, h1, h2.mono s.gsub⟩, Since.trans R.wd R.sin s⟩
structure Grow (H G H' G' : Hp) : Prop where
  same : ∀ a o, H a = some o → H' a = some o
  gsub : Sub G G'
  sub : Sub G' H'
  gnew : ∀ a, G' a ≠ none → G a = none → H a = none
theorem Grow.refl {H G : Hp} (s : Sub G H) : Grow H G H G := ⟨fun _ _ h => h, Sub.rfl', s, fun _ h e => absurd e h⟩
theorem Grow.since {K : PySem.W.Frag} {M : Sto} {H G H' G' : Hp} (w : Wd K M H G) (g : Grow H G H' G') : Since H G M M H' G' :=
  ⟨fun a o h _ => g.same a o h, fun a h => by
    cases q : H a with
    | none => exact absurd q h
    | some o => rw [g.same a o q]; simp, g.gsub, g.gnew, fun a h e => absurd e h⟩
theorem Grow.wd {K : PySem.W.Frag} {M : Sto} {H G H' G' : Hp} (w : Wd K M H G) (g : Grow H G H' G') : Wd K M H' G' :=
  ⟨g.sub, fun a c e => by
    obtain ⟨h1, h2⟩ := w.cells a c e
    refine ⟨?_, h2.move g.gsub (g.same a)⟩
    cases q : G' a with
    | none => rfl
    | some o => exact absurd (g.gnew a (by rw [q]; simp) h1) h2.there⟩
theorem Rel.grow {K : PySem.W.Frag} {B : Bs} {r : En} {M : Sto} {σ : L2.St} {H G H' G' : Hp} (R : Rel K B r M σ H G) (g : Grow H G H' G') : Rel K B r M σ H' G' := R.go (g.wd R.wd) (g.since R.wd)
theorem Grow.trans {H G H1 G1 H2 G2 : Hp} (a : Grow H G H1 G1) (b : Grow H1 G1 H2 G2) : Grow H G H2 G2 :=
  ⟨fun c o h => b.same c o (a.same c o h), a.gsub.tr b.gsub, b.sub, fun c h n => by
    cases q : G1 c with
    | some x => exact a.gnew c (by rw [q]; simp) n
    | none =>
      have h1 := b.gnew c h q
      cases z : H c with
      | none => rfl
      | some o => rw [a.same c o z] at h1; cases h1⟩
theorem grow_upd {H G : Hp} {p : Addr} {o : HO} (s : Sub G H) (hp : H p = none) : Grow H G (upd H p o) (upd G p o) where
  same := fun a u h => by rw [upd_ne (ne_of_none h hp)]; exact h
  gsub := fun a u h => by rw [upd_ne (ne_of_none (s _ _ h) hp)]; exact h
  sub := fun a u h => by
    by_cases e : a = p
    · subst e; rw [upd_same] at h ⊢; exact h
    · rw [upd_ne e] at h ⊢; exact s _ _ h
  gnew := fun a h n => by
    by_cases e : a = p
    · subst e; exact hp
    · rw [upd_ne e] at h; exact absurd n h

abbrev PD := D → Sto → Prop
abbrev DTE := En → Sto → PD → Prop
abbrev DTT := En → Sto → (Bool → Sto → Prop) → Prop
abbrev DTA := En → Sto → (List D → Sto → Prop) → Prop
structure Ek where
  nx : En → Sto → Prop
  rt : D → Sto → Prop
  bk : En → Sto → Prop := fun _ _ => False
  ct : En → Sto → Prop := fun _ _ => False
abbrev DTS := Ek → En → Sto → Prop
abbrev DTG := D → En → Sto → (En → Sto → Prop) → Prop

def lift (K : PySem.W.Frag) (B : Bs) (f : DTE) : TE := fun σ H Q => ∃ r M G Ψ, Rel K B r M σ H G ∧ f r M Ψ ∧ ∀ d M' v H' G', Ψ d M' → Rel K B r M' σ H' G' → Sub G G' → Rep K G' d v → Q v H'
def liftT (K : PySem.W.Frag) (B : Bs) (f : DTT) : TT := fun σ H Q => ∃ r M G Ψ, Rel K B r M σ H G ∧ f r M Ψ ∧ ∀ b M' H' G', Ψ b M' → Rel K B r M' σ H' G' → Sub G G' → Q b H'
def liftA (K : PySem.W.Frag) (B : Bs) (f : DTA) : TA := fun σ H Q => ∃ r M G Ψ, Rel K B r M σ H G ∧ f r M Ψ ∧ ∀ ds M' vs H' G', Ψ ds M' → Rel K B r M' σ H' G' → Sub G G' → RepL K G' ds vs → Q vs H'
structure EkOk (K : PySem.W.Frag) (B : Bs) (G : Hp) (E : Ek) (D' : Ends) : Prop where
  nx : ∀ r' M' σ' H' G', E.nx r' M' → Rel K B r' M' σ' H' G' → Sub G G' → D'.nx σ' H'
  rt : ∀ d r' M' v σ' H' G', E.rt d M' → Rel K B r' M' σ' H' G' → Rep K G' d v → D'.rt v H'
  bk : ∀ r' M' σ' H' G', E.bk r' M' → Rel K B r' M' σ' H' G' → Sub G G' → D'.bk σ' H'
  ct : ∀ r' M' σ' H' G', E.ct r' M' → Rel K B r' M' σ' H' G' → Sub G G' → D'.ct σ' H'
theorem EkOk.mono {K : PySem.W.Frag} {B : Bs} {G G1 : Hp} {E : Ek} {D' : Ends} (k : EkOk K B G E D') (s : Sub G G1) : EkOk K B G1 E D' :=
  ⟨fun r' M' σ' H' G' q R t => k.nx r' M' σ' H' G' q R (s.tr t), k.rt, fun r' M' σ' H' G' q R t => k.bk r' M' σ' H' G' q R (s.tr t), fun r' M' σ' H' G' q R t => k.ct r' M' σ' H' G' q R (s.tr t)⟩
def liftS (K : PySem.W.Frag) (B : Bs) (f : DTS) : TS := fun D σ H => ∃ r M G E, Rel K B r M σ H G ∧ f E r M ∧ EkOk K B G E D
def liftG (K : PySem.W.Frag) (B : Bs) (f : DTG) : TG := fun v σ H Q => ∃ d r M G Ψ, Rel K B r M σ H G ∧ Rep K G d v ∧ f d r M Ψ ∧ ∀ r' M' σ' H' G', Ψ r' M' → Rel K B r' M' σ' H' G' → Sub G G' → Q σ' H'

theorem PE_imp {X : Cx} {e : Expr} {t t' : TE} (h : PE X e t) (i : ∀ σ H Q, t' σ H Q → t σ H Q) : PE X e t' := ⟨fun pins s σ H Q I q => h.run pins s σ H Q I (i _ _ _ q)⟩
theorem PT_imp {X : Cx} {e : Expr} {t t' : TT} (h : PT X e t) (i : ∀ σ H Q, t' σ H Q → t σ H Q) : PT X e t' := ⟨fun pins s σ H Q I q => h.run pins s σ H Q I (i _ _ _ q)⟩
theorem PW_imp {X : Cx} {e : Expr} {t t' : TT} (h : PW X e t) (i : ∀ σ H Q, t' σ H Q → t σ H Q) : PW X e t' := ⟨fun wh pins s σ H Q I q => h.run wh pins s σ H Q I (i _ _ _ q)⟩
theorem PA_imp {X : Cx} {e : List Expr} {t t' : TA} (h : PA X e t) (i : ∀ σ H Q, t' σ H Q → t σ H Q) : PA X e t' := ⟨fun pos pins s σ H Q I q => h.run pos pins s σ H Q I (i _ _ _ q)⟩
theorem PS_imp {X : Cx} {e : Stmt} {t t' : TS} (h : PS X e t) (i : ∀ D σ H, t' D σ H → t D σ H) : PS X e t' := ⟨fun pins s σ H D I q => h.run pins s σ H D I (i _ _ _ q)⟩
theorem PSs_imp {X : Cx} {e : List Stmt} {t t' : TS} (h : PSs X e t) (i : ∀ D σ H, t' D σ H → t D σ H) : PSs X e t' := ⟨fun pins s σ H D I q => h.run pins s σ H D I (i _ _ _ q)⟩
theorem PG_imp {X : Cx} {e : Expr} {t t' : TG} (h : PG X e t) (i : ∀ v σ H Q, t' v σ H Q → t v σ H Q) : PG X e t' := ⟨fun pins s σ H x v Q I r q => h.run pins s σ H x v Q I r (i _ _ _ _ q)⟩
abbrev DE (X : Cx) (B : Bs) (e : Expr) (f : DTE) : Prop := PE X e (lift X.K B f)
abbrev DT (X : Cx) (B : Bs) (e : Expr) (f : DTT) : Prop := PT X e (liftT X.K B f)
abbrev DW (X : Cx) (B : Bs) (e : Expr) (f : DTT) : Prop := PW X e (liftT X.K B f)
abbrev DA (X : Cx) (B : Bs) (e : List Expr) (f : DTA) : Prop := PA X e (liftA X.K B f)
abbrev DS (X : Cx) (B : Bs) (e : Stmt) (f : DTS) : Prop := PS X e (liftS X.K B f)
abbrev DSs (X : Cx) (B : Bs) (e : List Stmt) (f : DTS) : Prop := PSs X e (liftS X.K B f)
abbrev DG (X : Cx) (B : Bs) (e : Expr) (f : DTG) : Prop := PG X e (liftG X.K B f)

section
variable {X : Cx} {B : Bs} {pos : Pos} {a b e : Expr} {es : List Expr} {fa fb : DTE} {ga : DTA}
def getS (r : En) (i : Nat) (k : D → Prop) : Prop := match r[i]? with
  | some (some d) => k d
  | _ => False
theorem getS_some {r : En} {i : Nat} {k : D → Prop} (h : getS r i k) : ∃ d, r[i]? = some (some d) ∧ k d := by
  unfold getS at h
  split at h
  · rename_i d e
    exact ⟨d, e, h⟩
  · exact h.elim
theorem de_var {i : Nat} {x : Str} (hN : X.N[i]? = some x := by rfl) (hv : Vis X.env.scope x := by first | exact Or.inl rfl | exact Or.inr (Or.inl rfl) | exact Or.inr (Or.inr rfl)) (hd : (x == ("__debug__" : Str)) = false := by decide)
    (hcd : (x == ("__classdict__" : Str)) = false := by decide) : DE X B (.Name x pos) (fun r M Ψ => getS r i fun d => Ψ d M) := by
  refine PE_imp (pe_var hN hv hd hcd) fun σ H Q ⟨r, M, G, Ψ, R, h, k⟩ => ?_
  obtain ⟨d, e, h⟩ := getS_some h
  obtain ⟨v, h1, h2⟩ := R.slots _ _ e
  exact ⟨v, h1, k d M v H G h R Sub.rfl' h2⟩
theorem de_c {v : V} (h : PE X e (tC v)) {d : D} (hr : ∀ G, Rep X.K G d v) : DE X B e (fun _ M Ψ => Ψ d M) :=
  PE_imp h fun σ H Q ⟨r, M, G, Ψ, R, h, k⟩ => k _ _ _ _ _ h R Sub.rfl' (hr G)
theorem de_int {i j} : DE X B (.Constant (.int i) j pos) (fun _ M Ψ => Ψ (.int i) M) := de_c pe_int fun _ => .int
theorem de_bl {b j} : DE X B (.Constant (.bool b) j pos) (fun _ M Ψ => Ψ (.bl b) M) := de_c pe_bl fun _ => .bl
theorem de_non {j} : DE X B (.Constant .none j pos) (fun _ M Ψ => Ψ .non M) := de_c pe_non fun _ => .non
theorem de_str {x j} : DE X B (.Constant (.str x) j pos) (fun _ M Ψ => Ψ (.str x) M) := de_c pe_str fun _ => .str
theorem de_glob {x : Str} {v : V} {u : Value} {d : D} (hm : X.mg x = some u) (r : RelV v u) (hr : ∀ G, Rep X.K G d v) (hg : Gl X x := by rfl) (hd : (x == ("__debug__" : Str)) = false := by decide) : DE X B (.Name x pos) (fun _ M Ψ => Ψ d M) := de_c (pe_glob hg hm r hd) hr

theorem da_nil : DA X B [] (fun _ M Ψ => Ψ [] M) := PA_imp pa_nil fun σ H Q ⟨r, M, G, Ψ, R, h, k⟩ => k [] M [] H G h R Sub.rfl' .nil
theorem da_cons {fs : DTA} (ha : DE X B e fa) (hr : DA X B es fs) (hs : starEach (e :: es) X.env = (false, eval e X.env) :: starEach es X.env := by rfl) :
    DA X B (e :: es) (fun r M Ψ => fa r M fun d M1 => fs r M1 fun ds M2 => Ψ (d :: ds) M2) := by
  refine PA_imp (pa_cons ha hr hs) fun σ H Q ⟨r, M, G, Ψ, R, h, k⟩ => ?_
  refine ⟨r, M, G, _, R, h, fun d M1 v H1 G1 q1 R1 s1 p1 => ?_⟩
  exact ⟨r, M1, G1, _, R1, q1, fun ds M2 vs H2 G2 q2 R2 s2 p2 => k _ _ _ _ _ q2 R2 (s1.tr s2) (.cons (p1.mono s2) p2)⟩
theorem de_tup {x1} (h : DA X B es ga) : DE X B (.Tuple es x1 pos) (fun r M Ψ => ga r M fun ds M1 => ds.length ≤ sizeLine ∧ Ψ (.tup ds) M1) := by
  refine PE_imp (pe_tup h) fun σ H Q ⟨r, M, G, Ψ, R, h, k⟩ => ?_
  refine ⟨r, M, G, _, R, h, fun ds M1 vs H1 G1 ⟨z, q⟩ R1 s1 p1 => ⟨by rw [← p1.length]; exact z, fun p hp => ?_⟩⟩
  have g : Grow H1 G1 (upd H1 p (.tup vs)) (upd G1 p (.tup vs)) := grow_upd R1.wd.sub hp
  exact k _ _ _ _ _ q (R1.grow g) (s1.tr g.gsub) (.tup (SqT.of upd_same) (p1.mono g.gsub))
theorem de_lst (h : DA X B es ga) : DE X B (.List es pos) (fun r M Ψ => ga r M fun ds M1 => ds.length ≤ sizeLine ∧ Ψ (.lst ds) M1) := by
  refine PE_imp (pe_lst h) fun σ H Q ⟨r, M, G, Ψ, R, h, k⟩ => ?_
  refine ⟨r, M, G, _, R, h, fun ds M1 vs H1 G1 ⟨z, q⟩ R1 s1 p1 => ⟨by rw [← p1.length]; exact z, fun p hp => ?_⟩⟩
  have g : Grow H1 G1 (upd H1 p (.lst vs)) (upd G1 p (.lst vs)) := grow_upd R1.wd.sub hp
  exact k _ _ _ _ _ q (R1.grow g) (s1.tr g.gsub) (.lst (.inl upd_same) (p1.mono g.gsub))
def updM (M : Sto) (p : Addr) (c : Cell) : Sto := fun a => if a = p then some c else M a
theorem updM_same {M : Sto} {p : Addr} {c : Cell} : updM M p c p = some c := if_pos rfl
theorem updM_ne {M : Sto} {p a : Addr} {c : Cell} (h : a ≠ p) : updM M p c a = M a := if_neg h
theorem updM_updM {M : Sto} {p : Addr} {c c' : Cell} : updM (updM M p c) p c' = updM M p c' := by
  funext a; unfold updM; split <;> rfl
theorem cell_new {K : PySem.W.Frag} {M : Sto} {H G : Hp} {p : Addr} {o : HO} {c : Cell} (w : Wd K M H G) (hp : H p = none) (hc : CellAt K G (upd H p o) p c) : Wd K (updM M p c) (upd H p o) G ∧ Since H G M (updM M p c) (upd H p o) G := by
  have gp : G p = none := by
    cases q : G p with
    | none => rfl
    | some u => rw [w.sub _ _ q] at hp; cases hp
  refine ⟨⟨fun a u h => ?_, fun a u h => ?_⟩, ⟨fun a u h n => ?_, fun a h => ?_, Sub.rfl', fun a h n => absurd n h, fun a h n => ?_⟩⟩
  · rw [upd_ne (ne_of_none (w.sub _ _ h) hp)]; exact w.sub _ _ h
  · by_cases e : a = p
    · subst e; rw [updM_same] at h; cases h; exact ⟨gp, hc⟩
    · rw [updM_ne e] at h
      obtain ⟨h1, h2⟩ := w.cells a u h
      exact ⟨h1, h2.move Sub.rfl' fun o z => by rw [upd_ne e]; exact z⟩
  · rw [upd_ne (ne_of_none h hp)]; exact h
  · by_cases e : a = p
    · subst e; rw [upd_same]; simp
    · rw [upd_ne e]; exact h
  · by_cases e : a = p
    · subst e; exact hp
    · rw [updM_ne e] at h; exact absurd n h
theorem cell_put {K : PySem.W.Frag} {M : Sto} {H G : Hp} {p : Addr} {o : HO} {c c0 : Cell} (w : Wd K M H G) (hp : M p = some c0) (hc : CellAt K G (upd H p o) p c) : Wd K (updM M p c) (upd H p o) G ∧ Since H G M (updM M p c) (upd H p o) G := by
  obtain ⟨gp, hat⟩ := w.cells p c0 hp
  refine ⟨⟨fun a u h => ?_, fun a u h => ?_⟩, ⟨fun a u h n => ?_, fun a h => ?_, Sub.rfl', fun a h n => absurd n h, fun a h n => ?_⟩⟩
  · rw [upd_ne (ne_of_none h gp)]; exact w.sub _ _ h
  · by_cases e : a = p
    · subst e; rw [updM_same] at h; cases h; exact ⟨gp, hc⟩
    · rw [updM_ne e] at h
      obtain ⟨h1, h2⟩ := w.cells a u h
      exact ⟨h1, h2.move Sub.rfl' fun o z => by rw [upd_ne e]; exact z⟩
  · have e : a ≠ p := fun z => by subst z; rw [hp] at n; cases n
    rw [upd_ne e]; exact h
  · by_cases e : a = p
    · subst e; rw [upd_same]; simp
    · rw [upd_ne e]; exact h
  · by_cases e : a = p
    · subst e; rw [hp] at n; cases n
    · rw [updM_ne e] at h; exact absurd n h
theorem Wd.nomem {K : PySem.W.Frag} {M : Sto} {H G : Hp} {p : Addr} (w : Wd K M H G) (hp : H p = none) : M p = none := by
  cases q : M p with
  | none => rfl
  | some c => exact absurd hp (w.cells p c q).2.there
theorem de_lstM (h : DA X B es ga) : DE X B (.List es pos) (fun r M Ψ => ga r M fun ds M1 => ds.length ≤ sizeLine ∧ ∀ p, M1 p = none → Ψ (.ref p) (updM M1 p (.lst ds))) := by
  refine PE_imp (pe_lst h) fun σ H Q ⟨r, M, G, Ψ, R, h, k⟩ => ?_
  refine ⟨r, M, G, _, R, h, fun ds M1 vs H1 G1 ⟨z, q⟩ R1 s1 p1 => ⟨by rw [← p1.length]; exact z, fun p hp => ?_⟩⟩
  obtain ⟨w, s⟩ := cell_new (c := .lst ds) (o := .lst vs) R1.wd hp ⟨vs, upd_same, p1⟩
  exact k _ _ _ _ _ (q p (R1.wd.nomem hp)) (R1.go w s) s1 .ref

def Ok2 (K : PySem.W.Frag) (r : R2) (g : Sto → D → D → (D → Prop) → Prop) : Prop := ∀ (M : Sto) (H G : Hp) (x y : D) (v u : V) (φ : D → Prop) (Q : VK), Wd K M H G → Rep K G x v → Rep K G y u → g M x y φ →
  (∀ d w H' G', φ d → Grow H G H' G' → Rep K G' d w → Q w H') → r v u H Q
theorem tOp_ok {r : R2} {g : Sto → D → D → (D → Prop) → Prop} (ok : Ok2 X.K r g) {σ : L2.St} {H : Hp} {Q : VK} (h : lift X.K B (fun r M Ψ => fa r M fun x M1 => fb r M1 fun y M2 => g M2 x y fun z => Ψ z M2) σ H Q) : tOp r (lift X.K B fa) (lift X.K B fb) σ H Q := by
  obtain ⟨r, M, G, Ψ, R, h, k⟩ := h
  refine ⟨r, M, G, _, R, h, fun d M1 v H1 G1 q1 R1 s1 p1 => ?_⟩
  refine ⟨r, M1, G1, _, R1, q1, fun y M2 u H2 G2 q2 R2 s2 p2 => ?_⟩
  exact ok M2 H2 G2 _ _ _ _ _ _ R2.wd (p1.mono s2) p2 q2 fun d w H' G' f g p => k _ _ _ _ _ f (R2.grow g) ((s1.tr s2).tr g.gsub) p
theorem de_op {op : Operator} {r : R2} {g : Sto → D → D → (D → Prop) → Prop} (ho : OpR X (binaryOp op) r) (ok : Ok2 X.K r g) (ha : DE X B a fa) (hb : DE X B b fb) :
    DE X B (.BinOp a op b pos) (fun r M Ψ => fa r M fun x M1 => fb r M1 fun y M2 => g M2 x y fun z => Ψ z M2) := PE_imp (pe_op ho ha hb) fun σ H Q h => tOp_ok ok h
theorem de_cmp {op : CmpOp} {r : R2} {g : Sto → D → D → (D → Prop) → Prop} (ho : OpR X (compareOp op) r) (ok : Ok2 X.K r g) (hm : behindInMarks op b = false) (ha : DE X B a fa) (hb : DE X B b fb) :
    DE X B (.Compare a [op] [b] pos) (fun r M Ψ => fa r M fun x M1 => fb r M1 fun y M2 => g M2 x y fun z => Ψ z M2) := PE_imp (pe_cmpR ho ha hb hm) fun σ H Q h => tOp_ok ok h
end
end Z
namespace Z
open PySem PySem.Spec PyProof.Rows L2

def lstOf (M : Sto) : D → Option (List D)
  | .lst l => some l
  | .ref p => match M p with
    | some (.lst l) => some l
    | _ => none
  | _ => none
def tupOf : D → Option (List D)
  | .tup l => some l
  | .tpl l => some l
  | _ => none
section
variable {K : PySem.W.Frag} {M : Sto} {H G : Hp} {d : D} {v : V} {l : List D}
theorem lstOf_ref {a : Addr} (e : lstOf M (.ref a) = some l) : M a = some (.lst l) := by
  have e' : (match M a with | some (.lst l) => some l | _ => none) = some l := e
  split at e'
  · rename_i l' q
    rw [q, Option.some.inj e']
  · cases e'
theorem lst_rep (w : Wd K M H G) (r : Rep K G d v) (e : lstOf M d = some l) : ∃ a vs, v = .ref a ∧ Rd H a (.lst vs) ∧ RepL K G l vs := by
  cases r with
  | lst h r => cases e; exact ⟨_, _, rfl, w.sub.rd h, r⟩
  | ref =>
    obtain ⟨_, vs, h, r⟩ := w.cells _ _ (lstOf_ref e)
    exact ⟨_, vs, rfl, .inl h, r⟩
  | _ => cases e
theorem lst_rep' (w : Wd K M H G) (r : Rep K G d v) (e : lstOf M d = some l) : ∃ a vs, v = .ref a ∧ SqL K H a vs ∧ RepL K G l vs :=
  let ⟨a, vs, h1, h2, h3⟩ := lst_rep w r e
  ⟨a, vs, h1, .inl h2, h3⟩
theorem tup_rep (w : Wd K M H G) (r : Rep K G d v) (e : tupOf d = some l) : ∃ a vs, v = .ref a ∧ SqT K H a vs ∧ RepL K G l vs := by
  cases r with
  | tup h r => cases e; exact ⟨_, _, rfl, w.sub.sqT h, r⟩
  | tpl h r => cases e; exact ⟨_, _, rfl, w.sub.sqT (SqT.of h), r⟩
  | _ => cases e
theorem repL_ints {ns : List Int} : ∀ {vs : List V}, RepL K G (ns.map D.int) vs → vs = ns.map V.int := by
  induction ns with
  | nil => intro vs r; cases r; rfl
  | cons n ns ih => intro vs r; cases r with | cons r1 r2 => cases r1; rw [ih r2]; rfl
theorem repL_bls {ns : List Bool} : ∀ {vs : List V}, RepL K G (ns.map D.bl) vs → vs = ns.map V.bl := by
  induction ns with
  | nil => intro vs r; cases r; rfl
  | cons n ns ih => intro vs r; cases r with | cons r1 r2 => cases r1; rw [ih r2]; rfl
end

def Dok (j : Int) : Prop := j ≠ 0 ∧ j.natAbs.log2 < 9000
theorem dok_of {j : Int} {n : Nat} (h0 : j ≠ 0) (h : j.natAbs < 2 ^ n) (hn : n ≤ 9000 := by decide) : Dok j := by
  refine ⟨h0, Nat.lt_of_lt_of_le ((Nat.log2_lt (by omega)).mpr h) hn⟩
theorem mok_of {i j : Int} {a b : Nat} (ha : i.natAbs < 2 ^ a) (hb : j.natAbs < 2 ^ b) (h0 : 0 < a := by decide) (h1 : 0 < b := by decide) (h : a + b ≤ 1000000 := by decide) : IntMulOk i j := CMulW.ok (wide_mul ha hb h0 h1 h)
def addD (M : Sto) (x y : D) (φ : D → Prop) : Prop := match x, y with
  | .int i, .int j => φ (.int (i + j))
  | .str a, .str b => a.length + b.length ≤ sizeLine ∧ φ (.str (a ++ b))
  | .tup a, .tup b => a.length + b.length ≤ sizeLine ∧ φ (.tup (a ++ b))
  | .int i, .bl b => φ (.int (i + b2i b))
  | x, y => ∃ a b, lstOf M x = some a ∧ lstOf M y = some b ∧ a.length + b.length ≤ sizeLine ∧ φ (.lst (a ++ b))
def subD (_ : Sto) (x y : D) (φ : D → Prop) : Prop := match x, y with
  | .int i, .int j => φ (.int (i - j))
  | _, _ => False
def mulD (_ : Sto) (x y : D) (φ : D → Prop) : Prop := match x, y with
  | .int i, .int j => IntMulOk i j ∧ φ (.int (i * j))
  | _, _ => False
def fdivD (_ : Sto) (x y : D) (φ : D → Prop) : Prop := match x, y with
  | .int i, .int j => Dok j ∧ φ (.int (i.fdiv j))
  | _, _ => False
def fmodD (_ : Sto) (x y : D) (φ : D → Prop) : Prop := match x, y with
  | .int i, .int j => j ≠ 0 ∧ φ (.int (i.fmod j))
  | _, _ => False
def powD (_ : Sto) (x y : D) (φ : D → Prop) : Prop := match x, y with
  | .int i, .int j => CPow i j ∧ φ (.int (i ^ j.toNat))
  | _, _ => False
section
variable {X : Cx}
theorem rd_lst {pins : List (Addr × Obj)} {σ : L2.St} {H : Hp} {s : Shared} {l : Addr} {xs : List V} (I : Inv X pins σ H s) (h : Rd H l (.lst xs)) : xs.length ≤ sizeLine ∧ ∃ (its : List Value) (n : Nat), Vals xs its ∧ xs.length = its.length ∧ s.heap.get? l = some { cls := .type "list", data := .seq its.toArray n } := by
  obtain ⟨z, its, n, r, e⟩ := h.ok I.hok
  exact ⟨z, its, n, r, r.length, e⟩
def rCatL : R2 := fun x y H Q => ∃ l b xs zs, x = .ref l ∧ y = .ref b ∧ Rd H l (.lst xs) ∧ Rd H b (.lst zs) ∧ xs.length + zs.length ≤ sizeLine ∧ ∀ p, H p = none → Q (.ref p) (upd H p (.lst (xs ++ zs)))
theorem op_catL : OpR X (binaryOp .Add) rCatL := by
  intro pins s σ H x y v u Q I rx ry h
  obtain ⟨l, b, xs, zs, rfl, rfl, hH, hB, hz, q⟩ := h
  cases rx
  cases ry
  obtain ⟨z, its, n, r, hl, e⟩ := rd_lst I hH
  obtain ⟨z2, its2, n2, r2, hl2, e2⟩ := rd_lst I hB
  refine PySem.P.add_list e e2 ?_ (by rw [List.size_toArray, List.size_toArray]; omega)
  have ea : its.toArray ++ its2.toArray = (its ++ its2).toArray := by simp
  rw [ea]
  exact ⟨.ref _, _, I.lnew (t' := s.toks) (r.append r2) (by rw [List.length_append]; omega), rfl, q _ I.fresh⟩
theorem op_fdivZ : OpR X (binaryOp .FloorDiv) (rI (fun _ j => Dok j) fun i j => .int (i.fdiv j)) := opI fun _ _ _ _ _ _ _ hc q => floordiv_int hc.1 q (.inl (PyProof.noPylong_of_log2 hc.2))
theorem op_mulZ : OpR X (binaryOp .Mult) (rI IntMulOk fun i j => .int (i * j)) := opI fun _ _ _ _ _ _ _ hc q => mul_int q hc

theorem ok_int (C : Int → Int → Prop) (g : Int → Int → V) (gd : Int → Int → D) (hg : ∀ K G i j, Rep K G (gd i j) (g i j)) (f : Sto → D → D → (D → Prop) → Prop) (hf : ∀ M x y φ, f M x y φ → ∃ i j, x = .int i ∧ y = .int j ∧ C i j ∧ φ (gd i j)) {K : PySem.W.Frag} : Ok2 K (rI C g) f := fun M H G x y v u φ Q w rx ry h k => by
  obtain ⟨i, j, rfl, rfl, c, q⟩ := hf _ _ _ _ h
  cases rx
  cases ry
  exact ⟨i, j, rfl, rfl, c, k _ _ _ _ q (Grow.refl w.sub) (hg _ _ _ _)⟩
theorem ok_sub {K : PySem.W.Frag} : Ok2 K (rI0 fun i j => .int (i - j)) subD := fun M H G x y v u φ Q w rx ry h k => by
  unfold subD at h
  split at h
  · cases rx; cases ry; exact ⟨_, _, rfl, rfl, k _ _ _ _ h (Grow.refl w.sub) .int⟩
  · exact h.elim
theorem ok_mul {K : PySem.W.Frag} : Ok2 K (rI IntMulOk fun i j => .int (i * j)) mulD := ok_int _ _ (fun i j => .int (i * j)) (fun _ _ _ _ => .int) _ fun M x y φ h => by
  unfold mulD at h
  split at h
  · exact ⟨_, _, rfl, rfl, h⟩
  · exact h.elim
theorem ok_fdiv {K : PySem.W.Frag} : Ok2 K (rI (fun _ j => Dok j) fun i j => .int (i.fdiv j)) fdivD := ok_int _ _ (fun i j => .int (i.fdiv j)) (fun _ _ _ _ => .int) _ fun M x y φ h => by
  unfold fdivD at h
  split at h
  · exact ⟨_, _, rfl, rfl, h⟩
  · exact h.elim
theorem ok_fmod {K : PySem.W.Frag} : Ok2 K (rI (fun _ j => j ≠ 0) fun i j => .int (i.fmod j)) fmodD := ok_int _ _ (fun i j => .int (i.fmod j)) (fun _ _ _ _ => .int) _ fun M x y φ h => by
  unfold fmodD at h
  split at h
  · exact ⟨_, _, rfl, rfl, h⟩
  · exact h.elim
theorem ok_pow {K : PySem.W.Frag} : Ok2 K (rI CPow fun i j => .int (i ^ j.toNat)) powD := ok_int _ _ (fun i j => .int (i ^ j.toNat)) (fun _ _ _ _ => .int) _ fun M x y φ h => by
  unfold powD at h
  split at h
  · exact ⟨_, _, rfl, rfl, h⟩
  · exact h.elim
def rAddA (K : PySem.W.Frag) : R2 := fun x y H Q => rI0 (fun i j => .int (i + j)) x y H Q ∨ (∃ i j, x = .str i ∧ y = .str j ∧ i.length + j.length ≤ sizeLine ∧ Q (.str (i ++ j)) H) ∨ rCatA K x y H Q ∨
  (∃ i k, x = .int i ∧ y = .bl k ∧ Q (.int (i + b2i k)) H) ∨ rCatL x y H Q
theorem op_addA : OpR X (binaryOp .Add) (rAddA X.K) := op_add.or (op_add_str.or (op_catA.or (op_add_ib.or op_catL)))
theorem ok_add {K : PySem.W.Frag} : Ok2 K (rAddA K) addD := fun M H G x y v u φ Q w rx ry h k => by
  unfold addD at h
  split at h
  · cases rx; cases ry; exact .inl ⟨_, _, rfl, rfl, k _ _ _ _ h (Grow.refl w.sub) .int⟩
  · cases rx; cases ry; exact .inr (.inl ⟨_, _, rfl, rfl, h.1, k _ _ _ _ h.2 (Grow.refl w.sub) .str⟩)
  · rename_i a b
    obtain ⟨p, vs, rfl, h1, r1⟩ := tup_rep w rx (l := a) rfl
    obtain ⟨q, us, rfl, h2, r2⟩ := tup_rep w ry (l := b) rfl
    refine .inr (.inr (.inl ⟨p, q, vs, us, rfl, rfl, h1, h2, by rw [← r1.length, ← r2.length]; exact h.1, fun e => ?_, fun _ e => ?_, fun _ _ p hp => ?_⟩))
    · subst e; cases r1
      exact k _ _ _ _ h.2 (Grow.refl w.sub) ry
    · subst e; cases r2
      rw [List.append_nil] at h
      exact k _ _ _ _ h.2 (Grow.refl w.sub) rx
    · have g : Grow H G (upd H p (.tup (vs ++ us))) (upd G p (.tup (vs ++ us))) := grow_upd w.sub hp
      exact k _ _ _ _ h.2 g (.tup (SqT.of upd_same) ((r1.app r2).mono g.gsub))
  · cases rx; cases ry; exact .inr (.inr (.inr (.inl ⟨_, _, rfl, rfl, k _ _ _ _ h (Grow.refl w.sub) .int⟩)))
  · obtain ⟨a, b, e1, e2, z, q⟩ := h
    obtain ⟨p, vs, rfl, h1, r1⟩ := lst_rep w rx e1
    obtain ⟨q', us, rfl, h2, r2⟩ := lst_rep w ry e2
    refine .inr (.inr (.inr (.inr ⟨p, q', vs, us, rfl, rfl, h1, h2, by rw [← r1.length, ← r2.length]; exact z, fun p hp => ?_⟩)))
    have g : Grow H G (upd H p (.lst (vs ++ us))) (upd G p (.lst (vs ++ us))) := grow_upd w.sub hp
    exact k _ _ _ _ q g (.lst (.inl upd_same) ((r1.app r2).mono g.gsub))
end
section
variable {X : Cx} {B : Bs} {pos : Pos} {a b e : Expr} {es : List Expr} {fa fb : DTE} {ga : DTA}
theorem de_add (ha : DE X B a fa) (hb : DE X B b fb) : DE X B (.BinOp a .Add b pos) (fun r M Ψ => fa r M fun x M1 => fb r M1 fun y M2 => addD M2 x y fun z => Ψ z M2) := de_op op_addA ok_add ha hb
theorem de_sub (ha : DE X B a fa) (hb : DE X B b fb) : DE X B (.BinOp a .Sub b pos) (fun r M Ψ => fa r M fun x M1 => fb r M1 fun y M2 => subD M2 x y fun z => Ψ z M2) := de_op op_sub ok_sub ha hb
theorem de_mul (ha : DE X B a fa) (hb : DE X B b fb) : DE X B (.BinOp a .Mult b pos) (fun r M Ψ => fa r M fun x M1 => fb r M1 fun y M2 => mulD M2 x y fun z => Ψ z M2) := de_op op_mulZ ok_mul ha hb
theorem de_fdiv (ha : DE X B a fa) (hb : DE X B b fb) : DE X B (.BinOp a .FloorDiv b pos) (fun r M Ψ => fa r M fun x M1 => fb r M1 fun y M2 => fdivD M2 x y fun z => Ψ z M2) := de_op op_fdivZ ok_fdiv ha hb
theorem de_fmod (ha : DE X B a fa) (hb : DE X B b fb) : DE X B (.BinOp a .Mod b pos) (fun r M Ψ => fa r M fun x M1 => fb r M1 fun y M2 => fmodD M2 x y fun z => Ψ z M2) := de_op op_modN ok_fmod ha hb
theorem de_pow (ha : DE X B a fa) (hb : DE X B b fb) : DE X B (.BinOp a .Pow b pos) (fun r M Ψ => fa r M fun x M1 => fb r M1 fun y M2 => powD M2 x y fun z => Ψ z M2) := de_op op_pow ok_pow ha hb
theorem de_neg (ha : DE X B a fa) : DE X B (.UnaryOp .USub a pos) (fun r M Ψ => fa r M fun x M1 => match x with | .int i => Ψ (.int (-i)) M1 | _ => False) :=
  PE_imp (pe_un un_neg ha) fun σ H Q ⟨r, M, G, Ψ, R, h, k⟩ => by
    refine ⟨r, M, G, _, R, h, fun d M1 v H1 G1 q1 R1 s1 p1 => ?_⟩
    cases p1 with
    | int => exact ⟨_, rfl, k _ _ _ _ _ q1 R1 s1 .int⟩
    | _ => exact q1.elim
end
end Z
namespace Z
open PySem PySem.Spec PyProof.Rows L2

mutual
def pd : D → Option PyData
  | .non => some .none
  | .bl b => some (.bool b)
  | .int i => some (.int i)
  | .str x => some (.str x)
  | .tup l => (pdL l).map .tuple
  | .lst l => (pdL l).map .list
  | .tpl l => (pdL l).map .tuple
  | _ => none
def pdL : List D → Option (List PyData)
  | [] => some []
  | d :: r => match pd d, pdL r with
    | some x, some xs => some (x :: xs)
    | _, _ => none
end
def toPd (M : Sto) (d : D) : Option PyData := match lstOf M d with
  | some l => (pdL l).map .list
  | none => pd d
section
variable {K : PySem.W.Frag} {G H : Hp}
mutual
theorem dp_of (s : Sub G H) : ∀ (d : D) (v : V) (p : PyData), Rep K G d v → pd d = some p → Dp K H v p
  | .non, _, _, r, e => by cases r; cases e; exact .non
  | .bl b, _, _, r, e => by cases r; cases e; exact .bl b
  | .int i, _, _, r, e => by cases r; cases e; exact .int i
  | .str x, _, _, r, e => by cases r; cases e; exact .str x
  | .tup l, _, _, r, e => by
    cases r with
    | tup h r =>
      obtain ⟨q, e1, e2⟩ := Option.map_eq_some_iff.mp (show (pdL l).map PyData.tuple = some _ from e)
      subst e2
      exact .tup (s.sqT h) (dp_all s l _ _ r e1)
  | .lst l, _, _, r, e => by
    cases r with
    | lst h r =>
      obtain ⟨q, e1, e2⟩ := Option.map_eq_some_iff.mp (show (pdL l).map PyData.list = some _ from e)
      subst e2
      exact .lst (.inl (s.rd h)) (dp_all s l _ _ r e1)
  | .tpl l, _, _, r, e => by
    cases r with
    | tpl h r =>
      obtain ⟨q, e1, e2⟩ := Option.map_eq_some_iff.mp (show (pdL l).map PyData.tuple = some _ from e)
      subst e2
      exact .tup (s.sqT (SqT.of h)) (dp_all s l _ _ r e1)
  | .ty _, _, _, _, e => by cases e
  | .ref _, _, _, _, e => by cases e
  | .dic _, _, _, _, e => by cases e
  | .dlk _, _, _, _, e => by cases e
  | .fn _, _, _, _, e => by cases e
  | .obj _ _, _, _, _, e => by cases e
theorem dp_all (s : Sub G H) : ∀ (l : List D) (vs : List V) (ps : List PyData), RepL K G l vs → pdL l = some ps → DpAll K H vs ps
  | [], _, _, r, e => by cases r; cases e; exact .nil
  | d :: l, _, _, r, e => by
    cases r with
    | cons r1 r2 =>
      unfold pdL at e
      split at e
      · rename_i x xs e1 e2
        cases e
        exact .cons (dp_of s d _ _ r1 e1) (dp_all s l _ _ r2 e2)
      · cases e
end
theorem toPd_dp {M : Sto} {d : D} {v : V} {p : PyData} (w : Wd K M H G) (r : Rep K G d v) (e : toPd M d = some p) : Dp K H v p := by
  unfold toPd at e
  split at e
  · rename_i l q
    obtain ⟨a, vs, rfl, h, r2⟩ := lst_rep' w r q
    obtain ⟨ps, e1, e2⟩ := Option.map_eq_some_iff.mp e
    subst e2
    exact .lst h (dp_all w.sub l _ _ r2 e1)
  · exact dp_of w.sub d v p r e
end
def eqvD (M : Sto) (x y : D) (φ : Bool → Prop) : Prop := match x, y with
  | .int i, .int j => φ (decide (i = j))
  | .str a, .str b => φ (decide (a = b))
  | .bl a, .bl b => φ (decide (a = b))
  | x, y => ∃ p q, toPd M x = some p ∧ toPd M y = some q ∧ SeqAt.shaped p = true ∧ SeqAt.shaped q = true ∧ φ (PyData.eqv p q)
@[irreducible] def eqD (M : Sto) (x y : D) (φ : D → Prop) : Prop := eqvD M x y fun b => φ (.bl b)
@[irreducible] def neD (M : Sto) (x y : D) (φ : D → Prop) : Prop := eqvD M x y fun b => φ (.bl (!b))
def cmpD (p : Int → Int → Bool) (_ : Sto) (x y : D) (φ : D → Prop) : Prop := match x, y with
  | .int i, .int j => φ (.bl (p i j))
  | _, _ => False
abbrev ltD := cmpD fun i j => decide (i < j)
abbrev leD := cmpD fun i j => decide (i ≤ j)
abbrev gtD := cmpD fun i j => decide (j < i)
abbrev geD := cmpD fun i j => decide (j ≤ i)
def isN (d : D) : Bool := match d with
  | .non => true
  | _ => false
def isntD (_ : Sto) (x y : D) (φ : D → Prop) : Prop := match y with
  | .non => φ (.bl (!isN x))
  | _ => False
def flatD (d : D) : Bool := match d with
  | .non => true
  | .bl _ => true
  | .int _ => true
  | .str _ => true
  | _ => false
def inQ (M : Sto) (x y : D) (φ : Bool → Prop) : Prop := match y with
  | .str z => ∃ c, x = .str ⟨#[c]⟩ ∧ φ (decide (c ∈ z.cps.toList))
  | .tup l => ∃ p ps, pd x = some p ∧ pdL l = some ps ∧ l.all flatD = true ∧
      flatD x = true ∧ φ (ps.any fun z => PyData.eqv z p)
  | y => ∃ l p ps, lstOf M y = some l ∧ toPd M x = some p ∧ pdL l = some ps ∧ SeqAt.shaped p = true ∧ SeqAt.shaped (.list ps) = true ∧ φ (ps.any fun z => PyData.eqv z p)
def inD (M : Sto) (x y : D) (φ : D → Prop) : Prop := inQ M x y fun b => φ (.bl b)
def ninD (M : Sto) (x y : D) (φ : D → Prop) : Prop := inQ M x y fun b => φ (.bl (!b))

section
variable {K : PySem.W.Frag} {M : Sto} {H G : Hp}
theorem repN {d : D} {v : V} (r : Rep K G d v) : decide (v = .non) = isN d := by
  cases r <;> simp [isN]
def rEqA (K : PySem.W.Frag) : R2 := fun x y H Q => rEq x y H Q ∨ rEqD K x y H Q
def rNeA (K : PySem.W.Frag) : R2 := fun x y H Q => rNe x y H Q ∨ rNeD K x y H Q
theorem ok_eq : Ok2 K (rEqA K) eqD := fun M H G x y v u φ Q w rx ry h k => by
  unfold eqD eqvD at h
  split at h
  · cases rx; cases ry
    exact .inl ⟨rfl, k _ _ _ _ h (Grow.refl w.sub) (by rw [show decide (V.int _ = V.int _) = _ from dec_int, Bool.beq_eq_decide_eq]; exact .bl)⟩
  · cases rx; cases ry
    exact .inl ⟨rfl, k _ _ _ _ h (Grow.refl w.sub) (by rw [show decide (V.str _ = V.str _) = _ from dec_str, Bool.beq_eq_decide_eq]; exact .bl)⟩
  · cases rx; cases ry
    exact .inl ⟨rfl, k _ _ _ _ h (Grow.refl w.sub) (by rw [show decide (V.bl _ = V.bl _) = _ from dec_bl, Bool.beq_eq_decide_eq]; exact .bl)⟩
  · obtain ⟨p, q, e1, e2, s1, s2, h⟩ := h
    exact .inr ⟨p, q, toPd_dp w rx e1, toPd_dp w ry e2, s1, s2, k _ _ _ _ h (Grow.refl w.sub) .bl⟩
theorem ok_ne : Ok2 K (rNeA K) neD := fun M H G x y v u φ Q w rx ry h k => by
  unfold neD eqvD at h
  split at h
  · cases rx; cases ry
    exact .inl ⟨rfl, k _ _ _ _ h (Grow.refl w.sub) (by rw [show decide (V.int _ = V.int _) = _ from dec_int, Bool.beq_eq_decide_eq]; exact .bl)⟩
  · cases rx; cases ry
    exact .inl ⟨rfl, k _ _ _ _ h (Grow.refl w.sub) (by rw [show decide (V.str _ = V.str _) = _ from dec_str, Bool.beq_eq_decide_eq]; exact .bl)⟩
  · cases rx; cases ry
    exact .inl ⟨rfl, k _ _ _ _ h (Grow.refl w.sub) (by rw [show decide (V.bl _ = V.bl _) = _ from dec_bl, Bool.beq_eq_decide_eq]; exact .bl)⟩
  · obtain ⟨p, q, e1, e2, s1, s2, h⟩ := h
    exact .inr ⟨p, q, toPd_dp w rx e1, toPd_dp w ry e2, s1, s2, k _ _ _ _ h (Grow.refl w.sub) .bl⟩
theorem ok_cmp (p : Int → Int → Bool) : Ok2 K (rI0 fun i j => .bl (p i j)) (cmpD p) := fun M H G x y v u φ Q w rx ry h k => by
  unfold cmpD at h
  split at h
  · cases rx; cases ry; exact ⟨_, _, rfl, rfl, k _ _ _ _ h (Grow.refl w.sub) .bl⟩
  · exact h.elim
theorem ok_isnt : Ok2 K (fun x y H Q => y = .non ∧ Q (.bl (!decide (x = .non))) H) isntD := fun M H G x y v u φ Q w rx ry h k => by
  unfold isntD at h
  split at h
  · cases ry
    exact ⟨rfl, by rw [repN rx]; exact k _ _ _ _ h (Grow.refl w.sub) .bl⟩
  · exact h.elim
end
theorem pd_flat {K : PySem.W.Frag} {G : Hp} {d : D} {v : V} {p : PyData} (r : Rep K G d v) (e : pd d = some p) (f : flatD d = true) : flatV v = true := by
  cases r <;> first | rfl | exact absurd f Bool.false_ne_true
theorem eqv_flat {K : PySem.W.Frag} {G : Hp} {d c : D} {v u : V} {p q : PyData} (r : Rep K G d v) (r' : Rep K G c u) (e : pd d = some p) (e' : pd c = some q) (f : flatD d = true)
    (f' : flatD c = true) : eqV v u = PyData.eqv p q := by
  cases r <;> first | exact absurd f Bool.false_ne_true | (cases r' <;> first | exact absurd f' Bool.false_ne_true | (cases e; cases e'; simp [eqV, PyData.eqv]))
theorem any_flat {K : PySem.W.Frag} {G : Hp} {c : D} {u : V} {q : PyData} (r' : Rep K G c u) (e' : pd c = some q) (f' : flatD c = true) :
    ∀ {l : List D} {vs : List V} {ps : List PyData}, RepL K G l vs → pdL l = some ps → l.all flatD = true →
      vs.all flatV = true ∧ inV u vs = ps.any fun z => PyData.eqv z q
  | _, _, _, .nil, e, f => by cases e; exact ⟨rfl, rfl⟩
  | d :: l, v :: vs, ps, .cons r1 r2, e, f => by
    unfold pdL at e
    split at e
    · rename_i x xs e1 e2
      cases e
      rw [List.all_cons, Bool.and_eq_true] at f
      obtain ⟨h1, h2⟩ := any_flat r' e' f' r2 e2 f.2
      refine ⟨by rw [List.all_cons, Bool.and_eq_true]; exact ⟨pd_flat r1 e1 f.1, h1⟩, ?_⟩
      unfold inV at h2 ⊢
      rw [List.any_cons, List.any_cons, h2, eqv_flat r1 r' e1 e' f.1 f']
    · cases e
section
variable {X : Cx}
def rInA (K : PySem.W.Frag) : R2 := fun x y H Q => (∃ (c : Nat) (z : Str), x = .str ⟨#[c]⟩ ∧ y = .str z ∧ Q (.bl (decide (c ∈ z.cps.toList))) H) ∨ rIn K false x y H Q ∨ rInD K x y H Q
def rNinA (K : PySem.W.Frag) : R2 := fun x y H Q => (∃ (c : Nat) (z : Str), x = .str ⟨#[c]⟩ ∧ y = .str z ∧ Q (.bl (!decide (c ∈ z.cps.toList))) H) ∨ rIn K true x y H Q ∨ rNotInD K x y H Q
theorem ok_in {K : PySem.W.Frag} : Ok2 K (rInA K) inD := fun M H G x y v u φ Q w rx ry h k => by
  unfold inD inQ at h
  split at h
  · obtain ⟨c, rfl, h⟩ := h
    cases rx; cases ry
    exact .inl ⟨c, _, rfl, rfl, k _ _ _ _ h (Grow.refl w.sub) .bl⟩
  · rename_i l
    obtain ⟨p, ps, e1, e2, f, f', h⟩ := h
    obtain ⟨a, vs, rfl, h1, r1⟩ := tup_rep w ry (l := l) rfl
    obtain ⟨z1, z2⟩ := any_flat rx e1 f' r1 e2 f
    refine .inr (.inl ⟨a, vs, rfl, .inr h1, pd_flat rx e1 f', z1, ?_⟩)
    show Q (.bl (inV v vs)) H
    rw [z2]
    exact k _ _ _ _ h (Grow.refl w.sub) .bl
  · obtain ⟨l, p, ps, e0, e1, e2, s1, s2, h⟩ := h
    obtain ⟨a, vs, rfl, h1, r1⟩ := lst_rep' w ry e0
    exact .inr (.inr ⟨p, ps, toPd_dp w rx e1, .lst h1 (dp_all w.sub l _ _ r1 e2), s1, s2, k _ _ _ _ h (Grow.refl w.sub) .bl⟩)
theorem ok_nin {K : PySem.W.Frag} : Ok2 K (rNinA K) ninD := fun M H G x y v u φ Q w rx ry h k => by
  unfold ninD inQ at h
  split at h
  · obtain ⟨c, rfl, h⟩ := h
    cases rx; cases ry
    exact .inl ⟨c, _, rfl, rfl, k _ _ _ _ h (Grow.refl w.sub) .bl⟩
  · rename_i l
    obtain ⟨p, ps, e1, e2, f, f', h⟩ := h
    obtain ⟨a, vs, rfl, h1, r1⟩ := tup_rep w ry (l := l) rfl
    obtain ⟨z1, z2⟩ := any_flat rx e1 f' r1 e2 f
    refine .inr (.inl ⟨a, vs, rfl, .inr h1, pd_flat rx e1 f', z1, ?_⟩)
    show Q (.bl (!inV v vs)) H
    rw [z2]
    exact k _ _ _ _ h (Grow.refl w.sub) .bl
  · obtain ⟨l, p, ps, e0, e1, e2, s1, s2, h⟩ := h
    obtain ⟨a, vs, rfl, h1, r1⟩ := lst_rep' w ry e0
    exact .inr (.inr ⟨p, ps, toPd_dp w rx e1, .lst h1 (dp_all w.sub l _ _ r1 e2), s1, s2, k _ _ _ _ h (Grow.refl w.sub) .bl⟩)
theorem room65 {k : Nat} {A : Around} (r : Room k A) : A.units + 65 < cLine := by have := r.un; omega
end

section
variable {X : Cx} {B : Bs} {pos : Pos} {a b c e : Expr} {es : List Expr} {fa fb fc : DTE} {ga : DTA} {ta tb : DTT} {k : Nat}
abbrev bin2 (g : Sto → D → D → (D → Prop) → Prop) (fa fb : DTE) : DTE := fun r M Ψ => fa r M fun x M1 => fb r M1 fun y M2 => g M2 x y fun z => Ψ z M2
theorem de_eq (hr : Room k X.A) (ha : DE X B a fa) (hb : DE X B b fb) : DE X B (.Compare a [.Eq] [b] pos) (bin2 eqD fa fb) := de_cmp (op_eq.or (op_eqD hr.units)) ok_eq (nomark _) ha hb
theorem de_lt (ha : DE X B a fa) (hb : DE X B b fb) : DE X B (.Compare a [.Lt] [b] pos) (bin2 ltD fa fb) := de_cmp op_lt (ok_cmp _) (nomark _) ha hb
theorem de_ge (ha : DE X B a fa) (hb : DE X B b fb) : DE X B (.Compare a [.GtE] [b] pos) (bin2 geD fa fb) := de_cmp op_ge (ok_cmp _) (nomark _) ha hb
theorem de_in (hr : Room k X.A) (ha : DE X B a fa) (hb : DE X B b fb) (hm : behindInMarks .In b = false := by rfl) : DE X B (.Compare a [.In] [b] pos) (bin2 inD fa fb) := de_cmp (op_in_sign.or (op_in_seq.or (op_inD (room65 hr)))) ok_in hm ha hb
@[irreducible] def blD (k : Bool → Prop) (d : D) : Prop := match d with
  | .bl b => k b
  | _ => False
theorem tTest_ok (σ : L2.St) (H : Hp) (Q : Bool → Hp → Prop) (h : liftT X.K B (fun r M Ψ => fa r M fun x M1 => blD (fun b => Ψ b M1) x) σ H Q) : tTest (lift X.K B fa) σ H Q := by
  obtain ⟨r, M, G, Ψ, R, h, k⟩ := h
  refine ⟨r, M, G, _, R, h, fun d M1 v H1 G1 q1 R1 s1 p1 => ?_⟩
  unfold blD at q1
  cases p1 with
  | bl => exact ⟨_, rfl, k _ _ _ _ q1 R1 s1⟩
  | _ => exact q1.elim
theorem PE_test {t : TE} (h : PE X e t) (he : ∀ whole, isTrue e X.env whole = (do let v ← whole; standAt e.pos; holding [v] (truthy v)) := by intro _; rfl) : PT X e (tTest t) := by
  refine ⟨fun pins s σ H Q I hw => ?_⟩
  refine isTrue_plain (thn (h.run pins s σ H _ I hw) fun v s1 ⟨x, H1, I1, r1, q1⟩ => ?_) (he _)
  obtain ⟨d, rfl, q⟩ := q1
  cases r1
  exact wpAny_truthy_bool ⟨H1, I1, q⟩
theorem dt_val (h : DE X B e fa) (he : ∀ whole, isTrue e X.env whole = (do let v ← whole; standAt e.pos; holding [v] (truthy v)) := by intro _; rfl) : DT X B e (fun r M Ψ => fa r M fun x M1 => blD (fun b => Ψ b M1) x) :=
  PT_imp (PE_test h he) tTest_ok
theorem tOp_okT {r : R2} {g : Sto → D → D → (D → Prop) → Prop} (ok : Ok2 X.K r g) (σ : L2.St) (H : Hp) (Q : Bool → Hp → Prop) (h : liftT X.K B (fun r M Ψ => fa r M fun x M1 => fb r M1 fun y M2 => g M2 x y fun z => blD (fun b => Ψ b M2) z) σ H Q) :
    tTest (tOp r (lift X.K B fa) (lift X.K B fb)) σ H Q := by
  obtain ⟨r, M, G, Ψ, R, h, k⟩ := h
  refine ⟨r, M, G, _, R, h, fun d M1 v H1 G1 q1 R1 s1 p1 => ?_⟩
  refine ⟨r, M1, G1, _, R1, q1, fun y M2 u H2 G2 q2 R2 s2 p2 => ?_⟩
  refine ok M2 H2 G2 _ _ _ _ _ _ R2.wd (p1.mono s2) p2 q2 fun d w H' G' f g p => ?_
  unfold blD at f
  cases p with
  | bl => exact ⟨_, rfl, k _ _ _ _ f (R2.grow g) ((s1.tr s2).tr g.gsub)⟩
  | _ => exact f.elim
abbrev bin2T (g : Sto → D → D → (D → Prop) → Prop) (fa fb : DTE) : DTT := fun r M Ψ => fa r M fun x M1 => fb r M1 fun y M2 => g M2 x y fun z => blD (fun b => Ψ b M2) z
theorem dt_cmp {op : CmpOp} {r : R2} {g : Sto → D → D → (D → Prop) → Prop} (ho : OpR X (compareOp op) r) (ok : Ok2 X.K r g) (hm : behindInMarks op b = false) (ha : DE X B a fa) (hb : DE X B b fb) :
    DT X B (.Compare a [op] [b] pos) (bin2T g fa fb) := PT_imp (pt_cmpR ho ha hb hm) (tOp_okT ok)
theorem dt_eq (hr : Room k X.A) (ha : DE X B a fa) (hb : DE X B b fb) : DT X B (.Compare a [.Eq] [b] pos) (bin2T eqD fa fb) := dt_cmp (op_eq.or (op_eqD hr.units)) ok_eq (nomark _) ha hb
theorem dt_ne (hr : Room k X.A) (ha : DE X B a fa) (hb : DE X B b fb) : DT X B (.Compare a [.NotEq] [b] pos) (bin2T neD fa fb) := dt_cmp (op_ne.or (op_neD hr.units)) ok_ne (nomark _) ha hb
theorem dt_lt (ha : DE X B a fa) (hb : DE X B b fb) : DT X B (.Compare a [.Lt] [b] pos) (bin2T ltD fa fb) := dt_cmp op_lt (ok_cmp _) (nomark _) ha hb
theorem dt_le (ha : DE X B a fa) (hb : DE X B b fb) : DT X B (.Compare a [.LtE] [b] pos) (bin2T leD fa fb) := dt_cmp op_le (ok_cmp _) (nomark _) ha hb
theorem dt_gt (ha : DE X B a fa) (hb : DE X B b fb) : DT X B (.Compare a [.Gt] [b] pos) (bin2T gtD fa fb) := dt_cmp op_gt (ok_cmp _) (nomark _) ha hb
theorem dt_ge (ha : DE X B a fa) (hb : DE X B b fb) : DT X B (.Compare a [.GtE] [b] pos) (bin2T geD fa fb) := dt_cmp op_ge (ok_cmp _) (nomark _) ha hb
theorem dt_isnt (ha : DE X B a fa) (hb : DE X B b fb) : DT X B (.Compare a [.IsNot] [b] pos) (bin2T isntD fa fb) := dt_cmp op_notN ok_isnt (nomark _) ha hb
theorem dt_nin (hr : Room k X.A) (ha : DE X B a fa) (hb : DE X B b fb) (hm : behindInMarks .NotIn b = false := by rfl) : DT X B (.Compare a [.NotIn] [b] pos) (bin2T ninD fa fb) := dt_cmp (op_notIn_sign.or (op_notIn_seq.or (op_notInD (room65 hr)))) ok_nin hm ha hb
def chainD (g g' : Sto → D → D → (D → Prop) → Prop) (fa fb fc : DTE) (r : En) (M : Sto) (Ψ : Bool → Sto → Prop) : Prop :=
  fa r M fun x M1 => fb r M1 fun y M2 => g M2 x y fun z => blD (fun b => if b = true then fc r M2 fun u M3 => g' M3 y u fun z' => blD (fun b => Ψ b M3) z' else Ψ false M2) z
theorem tChain_ok {r r' : R2} {g g' : Sto → D → D → (D → Prop) → Prop} (ok : Ok2 X.K r g) (ok' : Ok2 X.K r' g') (σ : L2.St) (H : Hp) (Q : VK) (h : lift X.K B (fun r M Ψ => chainD g g' fa fb fc r M fun b M1 => Ψ (.bl b) M1) σ H Q) :
    tChain r r' (lift X.K B fa) (lift X.K B fb) (lift X.K B fc) σ H Q := by
  obtain ⟨r, M, G, Ψ, R, h, k⟩ := h
  refine ⟨r, M, G, _, R, h, fun d M1 v H1 G1 q1 R1 s1 p1 => ?_⟩
  refine ⟨r, M1, G1, _, R1, q1, fun y M2 u H2 G2 q2 R2 s2 p2 => ?_⟩
  refine ok M2 H2 G2 _ _ _ _ _ _ R2.wd (p1.mono s2) p2 q2 fun d w H' G' f g p => ?_
  have s3 : Sub G G' := (s1.tr s2).tr g.gsub
  unfold blD at f
  cases p with
  | @bl c =>
    refine ⟨c, rfl, ?_⟩
    cases c with
    | false => exact k _ _ _ _ _ f (R2.grow g) s3 .bl
    | true =>
      refine ⟨r, M2, G', _, R2.grow g, f, fun z M4 w H4 G4 q4 R4 s4 p4 => ?_⟩
      refine ok' M4 H4 G4 _ _ _ _ _ _ R4.wd (p2.mono (g.gsub.tr s4)) p4 q4 fun d w H5 G5 f g p => ?_
      cases p with
      | bl => exact k _ _ _ _ _ f (R4.grow g) ((s3.tr s4).tr g.gsub) .bl
      | _ => exact f.elim
  | _ => exact f.elim
theorem de_chain {op op' : CmpOp} {r r' : R2} {g g' : Sto → D → D → (D → Prop) → Prop} (o : OpR X (compareOp op) r ∧ Ok2 X.K r g) (o' : OpR X (compareOp op') r' ∧ Ok2 X.K r' g') (ha : DE X B a fa) (hb : DE X B b fb) (hc : DE X B c fc) (hm : lastMarks [op, op'] [b, c] = false := by rfl) :
    DE X B (.Compare a [op, op'] [b, c] pos) (fun r M Ψ => chainD g g' fa fb fc r M fun b M1 => Ψ (.bl b) M1) := PE_imp (pe_chain o.1 o'.1 ha hb hc hm) (tChain_ok o.2 o'.2)
theorem oc_le : OpR X (compareOp .LtE) (rI0 fun i j => .bl (decide (i ≤ j))) ∧ Ok2 X.K (rI0 fun i j => .bl (decide (i ≤ j))) leD := ⟨op_le, ok_cmp _⟩
theorem dt_not (ha : DT X B a ta) : DT X B (.UnaryOp .Not a pos) (fun r M Ψ => ta r M fun b M1 => Ψ (!b) M1) :=
  PT_imp (pt_not ha) fun σ H Q ⟨r, M, G, Ψ, R, h, k⟩ => ⟨r, M, G, _, R, h, fun b M' H' G' q R' s => k _ _ _ _ q R' s⟩
theorem dw_and1 (ha : DT X B a ta) : DW X B (.BoolOp .And [a] pos) ta := pw_and1 ha
theorem dw_or1 (ha : DT X B a ta) : DW X B (.BoolOp .Or [a] pos) ta := pw_or1 ha
theorem dw_and (ha : DT X B a ta) (hb : DW X B (.BoolOp .And (b :: es) pos) tb) : DW X B (.BoolOp .And (a :: b :: es) pos) (fun r M Ψ => ta r M fun c M1 => if c = true then tb r M1 Ψ else Ψ false M1) :=
  PW_imp (pw_and ha hb) fun σ H Q ⟨r, M, G, Ψ, R, h, k⟩ => by
    refine ⟨r, M, G, _, R, h, fun c M1 H1 G1 q R1 s1 => ?_⟩
    cases c with
    | true => exact ⟨r, M1, G1, Ψ, R1, q, fun b M' H' G' q R' s => k _ _ _ _ q R' (s1.tr s)⟩
    | false => exact k _ _ _ _ q R1 s1
theorem dw_or (ha : DT X B a ta) (hb : DW X B (.BoolOp .Or (b :: es) pos) tb) : DW X B (.BoolOp .Or (a :: b :: es) pos) (fun r M Ψ => ta r M fun c M1 => if c = true then Ψ true M1 else tb r M1 Ψ) :=
  PW_imp (pw_or ha hb) fun σ H Q ⟨r, M, G, Ψ, R, h, k⟩ => by
    refine ⟨r, M, G, _, R, h, fun c M1 H1 G1 q R1 s1 => ?_⟩
    cases c with
    | false => exact ⟨r, M1, G1, Ψ, R1, q, fun b M' H' G' q R' s => k _ _ _ _ q R' (s1.tr s)⟩
    | true => exact k _ _ _ _ q R1 s1
theorem de_and1 {op} (ha : DE X B a fa) : DE X B (.BoolOp op [a] pos) fa := pe_one ha
theorem de_and (ha : DE X B a fa) (hb : DE X B (.BoolOp .And (b :: es) pos) fb) : DE X B (.BoolOp .And (a :: b :: es) pos) (fun r M Ψ => fa r M fun x M1 => blD (fun c => if c = true then fb r M1 Ψ else Ψ (.bl false) M1) x) :=
  PE_imp (pe_and ha hb) fun σ H Q ⟨r, M, G, Ψ, R, h, k⟩ => by
    refine ⟨r, M, G, _, R, h, fun d M1 v H1 G1 q R1 s1 p1 => ?_⟩
    unfold blD at q
    cases p1 with
    | @bl c =>
      refine ⟨c, rfl, ?_⟩
      cases c with
      | true => exact ⟨r, M1, G1, Ψ, R1, q, fun d M' v H' G' q R' s p => k _ _ _ _ _ q R' (s1.tr s) p⟩
      | false => exact k _ _ _ _ _ q R1 s1 .bl
    | _ => exact q.elim
theorem de_not (ha : DE X B a fa) : DE X B (.UnaryOp .Not a pos) (fun r M Ψ => fa r M fun x M1 => blD (fun c => Ψ (.bl (!c)) M1) x) :=
  PE_imp (pe_not ha) fun σ H Q ⟨r, M, G, Ψ, R, h, k⟩ => by
    refine ⟨r, M, G, _, R, h, fun d M1 v H1 G1 q R1 s1 p1 => ?_⟩
    unfold blD at q
    cases p1 with
    | bl => exact ⟨_, rfl, k _ _ _ _ _ q R1 s1 .bl⟩
    | _ => exact q.elim
theorem de_if (hc : DT X B c ta) (ha : DE X B a fa) (hb : DE X B b fb) : DE X B (.IfExp c a b pos) (fun r M Ψ => ta r M fun t M1 => if t = true then fa r M1 Ψ else fb r M1 Ψ) :=
  PE_imp (pe_ifExp hc ha hb) fun σ H Q ⟨r, M, G, Ψ, R, h, k⟩ => by
    refine ⟨r, M, G, _, R, h, fun t M1 H1 G1 q R1 s1 => ?_⟩
    cases t with
    | true => exact ⟨r, M1, G1, Ψ, R1, q, fun d M' v H' G' q R' s p => k _ _ _ _ _ q R' (s1.tr s) p⟩
    | false => exact ⟨r, M1, G1, Ψ, R1, q, fun d M' v H' G' q R' s p => k _ _ _ _ _ q R' (s1.tr s) p⟩
end
end Z
namespace Z
open PySem PySem.Spec PyProof.Rows L2

theorem Rel.set {K : PySem.W.Frag} {B : Bs} {r : En} {M : Sto} {σ : L2.St} {H G : Hp} {d : D} {v : V} (R : Rel K B r M σ H G) (p : Rep K G d v) (i : Nat) : Rel K B (r.set i (some d)) M (σ.set i (some v)) H G where
  wd := R.wd
  len := by rw [List.length_set, List.length_set]; exact R.len
  slots := fun j e h => by
    by_cases hj : i = j
    · subst hj
      by_cases hi : i < r.length
      · rw [List.getElem?_set_self hi] at h
        cases h
        exact ⟨v, by rw [List.getElem?_set_self (by rw [← R.len]; exact hi)], p⟩
      · rw [List.getElem?_eq_none (by simpa using hi)] at h; cases h
    · rw [List.getElem?_set_ne hj] at h ⊢
      exact R.slots j e h
  sin := R.sin
theorem Rel.unset {K : PySem.W.Frag} {B : Bs} {r : En} {M : Sto} {σ : L2.St} {H G : Hp} (R : Rel K B r M σ H G) (i : Nat) (o : Option V) : Rel K B (r.set i none) M (σ.set i o) H G where
  wd := R.wd
  len := by rw [List.length_set, List.length_set]; exact R.len
  slots := fun j e h => by
    by_cases hj : i = j
    · subst hj
      by_cases hi : i < r.length
      · rw [List.getElem?_set_self hi] at h; cases h
      · rw [List.getElem?_eq_none (by simpa using hi)] at h; cases h
    · rw [List.getElem?_set_ne hj] at h ⊢
      exact R.slots j e h
  sin := R.sin

def Wk (M0 : Sto) (r : En) (M : Sto) (r' : En) (M' : Sto) : Prop := ∀ (K : PySem.W.Frag) (B : Bs) (σ : L2.St) (H G : Hp), B.M = M0 → Rel K B r M σ H G → ∃ G', Rel K B r' M' σ H G' ∧ Sub G G'
theorem Wk.refl {M0 : Sto} {r : En} {M : Sto} : Wk M0 r M r M := fun _ _ _ _ G _ R => ⟨G, R, Sub.rfl'⟩
theorem Wk.trans {M0 : Sto} {r r1 r2 : En} {M M1 M2 : Sto} (a : Wk M0 r M r1 M1) (b : Wk M0 r1 M1 r2 M2) : Wk M0 r M r2 M2 := fun K B σ H G e R => by
  obtain ⟨G1, R1, s1⟩ := a K B σ H G e R
  obtain ⟨G2, R2, s2⟩ := b K B σ H G1 e R1
  exact ⟨G2, R2, s1.tr s2⟩
theorem Wk.slots {M0 : Sto} {r r' : En} {M : Sto} (hl : r'.length = r.length) (h : ∀ (i : Nat) d, r'[i]? = some (some d) → r[i]? = some (some d)) : Wk M0 r M r' M := fun K B σ H G _ R =>
  ⟨G, ⟨R.wd, hl.trans R.len, fun i d e => R.slots i d (h i d e), R.sin⟩, Sub.rfl'⟩
def Cl (M0 : Sto) (P : En → Sto → Prop) (r : En) (M : Sto) : Prop := ∃ r' M', Wk M0 r M r' M' ∧ P r' M'
theorem Cl.of {M0 : Sto} {P : En → Sto → Prop} {r : En} {M : Sto} (h : P r M) : Cl M0 P r M := ⟨r, M, Wk.refl, h⟩

mutual
def sb (g : Addr → D) : D → D
  | .non => .non
  | .bl b => .bl b
  | .int i => .int i
  | .str x => .str x
  | .ty n => .ty n
  | .ref a => g a
  | .tup l => .tup (sbL g l)
  | .lst l => .lst (sbL g l)
  | .lk l => .lk (sbL g l)
  | .dic l => .dic (sbD g l)
  | .dlk l => .dlk (sbD g l)
  | .obj C fs => .obj C (sbF g fs)
  | .fn Q => .fn Q
  | .tpl l => .tpl (sbL g l)
def sbL (g : Addr → D) : List D → List D
  | [] => []
  | d :: r => sb g d :: sbL g r
def sbD (g : Addr → D) : List (D × D) → List (D × D)
  | [] => []
  | (c, d) :: r => (c, sb g d) :: sbD g r
def sbF (g : Addr → D) : List (Str × D) → List (Str × D)
  | [] => []
  | (c, d) :: r => (c, sb g d) :: sbF g r
end
section
variable {K : PySem.W.Frag} {G : Hp} {g : Addr → D}
mutual
theorem Rep.sb (hg : ∀ a, Rep K G (g a) (.ref a)) : ∀ {d : D} {v : V}, Rep K G d v → Rep K G (sb g d) v
  | _, _, .non => .non
  | _, _, .bl => .bl
  | _, _, .int => .int
  | _, _, .str => .str
  | _, _, .ty => .ty
  | _, _, .ref => hg _
  | _, _, .fn h q => .fn h q
  | _, _, .tpl h r => .tpl h (r.sb hg)
  | _, _, .tup h r => .tup h (r.sb hg)
  | _, _, .lst h r => .lst h (r.sb hg)
  | _, _, .lk h r => .lk h (r.sb hg)
  | _, _, .dic h r => .dic h (r.sb hg)
  | _, _, .dlk h r => .dlk h (r.sb hg)
  | _, _, .dit h r => .dit h (r.sb hg)
  | _, _, .obj h r => .obj h (r.sb hg)
theorem RepL.sb (hg : ∀ a, Rep K G (g a) (.ref a)) : ∀ {d : List D} {v : List V}, RepL K G d v → RepL K G (sbL g d) v
  | _, _, .nil => .nil
  | _, _, .cons h r => .cons (h.sb hg) (r.sb hg)
theorem RepF.sb (hg : ∀ a, Rep K G (g a) (.ref a)) : ∀ {d : List (Str × D)} {v : List (Str × V)}, RepF K G d v → RepF K G (sbF g d) v
  | _, _, .nil => .nil
  | _, _, .cons h r => .cons (h.sb hg) (r.sb hg)
theorem RepD.sb (hg : ∀ a, Rep K G (g a) (.ref a)) : ∀ {d : List (D × D)} {v : List (Key × V)}, RepD K G d v → RepD K G (sbD g d) v
  | _, _, .nil => .nil
  | _, _, .cons e h r => .cons e (h.sb hg) (r.sb hg)
theorem RepT.sb (hg : ∀ a, Rep K G (g a) (.ref a)) : ∀ {d : List (D × D)} {v : List (List Key × V)}, RepT K G d v → RepT K G (sbD g d) v
  | _, _, .nil => .nil
  | _, _, .cons e h r => .cons e (h.sb hg) (r.sb hg)
end
end
def sbC (g : Addr → D) (a : Addr) : Option Cell → D
  | some (.lst l) => .lst (sbL g l)
  | some (.dic l) => .dic (sbD g l)
  | some (.dit l) => .dic (sbD g l)
  | some (.frd _ _ _) => .ref a
  | some (.ins C fs) => .obj C (sbF g fs)
  | some (.tab _) => .ref a
  | some (.raw _) => .ref a
  | some (.key _ _) => .ref a
  | none => .ref a
def fzA (M0 M : Sto) : Nat → Addr → D
  | 0, a => .ref a
  | n + 1, a => match M0 a with
    | some _ => .ref a
    | none => sbC (fzA M0 M n) a (M a)
def fz (M0 M : Sto) (n : Nat) (d : D) : D := sb (fzA M0 M n) d
def rs (M0 M : Sto) : Sto := fun a => match M0 a with
  | some _ => M a
  | none => none
def frzG (M0 M : Sto) (H G : Hp) : Hp := fun a => match G a with
  | some o => some o
  | none => match M0 a, M a with
    | none, some _ => H a
    | _, _ => none
section
variable {K : PySem.W.Frag} {M0 M : Sto} {H G : Hp}
theorem frzG_sub : Sub G (frzG M0 M H G) := fun a o h => by unfold frzG; rw [h]
theorem frzG_at {a : Addr} (w : Wd K M H G) (h0 : M0 a = none) {c : Cell} (h : M a = some c) : frzG M0 M H G a = H a := by
  unfold frzG
  rw [(w.cells a c h).1, h0, h]
theorem rep_frz (w : Wd K M H G) : ∀ (n : Nat) (a : Addr), Rep K (frzG M0 M H G) (fzA M0 M n a) (.ref a)
  | 0, a => .ref
  | n + 1, a => by
    have ih := rep_frz w n
    unfold fzA
    split
    · exact .ref
    · rename_i h0
      cases q : M a with
      | none => exact .ref
      | some c =>
        have hat := (w.cells a c q).2
        have e := frzG_at w h0 q
        cases c with
        | lst l =>
          obtain ⟨vs, h, r⟩ := hat
          exact .lst (.inl (e.trans h)) ((r.mono frzG_sub).sb ih)
        | dic l => obtain ⟨vs, h, r⟩ := hat; exact .dic (e.trans h) ((r.mono frzG_sub).sb ih)
        | dit l => obtain ⟨vs, h, r⟩ := hat; exact .dit (e.trans h) ((r.mono frzG_sub).sb ih)
        | frd o kvs l => exact .ref
        | raw o => exact .ref
        | key o bs => exact .ref
        | ins C fs =>
          obtain ⟨dx, vs, h, r⟩ := hat
          exact .obj (e.trans h) ((r.mono frzG_sub).sb ih)
        | tab q => exact .ref
theorem frz_end {H0 G0 : Hp} (w : Wd K M H G) (s : Since H0 G0 M0 M H G) : Wd K (rs M0 M) H (frzG M0 M H G) ∧ Since H0 G0 M0 (rs M0 M) H (frzG M0 M H G) := by
  refine ⟨⟨fun a o h => ?_, fun a c h => ?_⟩, ⟨s.keep, s.stay, s.gsub.tr frzG_sub, fun a h n => ?_, fun a h n => ?_⟩⟩
  · unfold frzG at h
    split at h
    · rename_i o' q; cases h; exact w.sub _ _ q
    · split at h
      · exact h
      · cases h
  · unfold rs at h
    split at h
    · rename_i x q
      obtain ⟨h1, h2⟩ := w.cells a c h
      refine ⟨?_, h2.move frzG_sub fun _ z => z⟩
      unfold frzG
      rw [h1, q]
    · cases h
  · unfold frzG at h
    split at h
    · rename_i o q; exact s.gnew a (by rw [q]; simp) n
    · split at h
      · rename_i q1 q2; exact s.mnew a (by rw [q2]; simp) q1
      · exact absurd rfl h
  · unfold rs at h
    rw [n] at h
    exact absurd rfl h
def frz1 (p : Addr) (H G : Hp) : Hp := fun a => if a = p then H a else G a
end

theorem EkOk.of {K : PySem.W.Frag} {B : Bs} {f : DTS} {D' : Ends} {σ : L2.St} {H : Hp} (h : liftS K B f D' σ H) : ∃ r M G E, Rel K B r M σ H G ∧ f E r M ∧ EkOk K B G E D' := h
theorem EkOk.to {K : PySem.W.Frag} {B : Bs} {f : DTS} {D' : Ends} {σ : L2.St} {H : Hp} {r : En} {M : Sto} {G : Hp} {E : Ek} (R : Rel K B r M σ H G) (h : f E r M) (k : EkOk K B G E D') : liftS K B f D' σ H := ⟨r, M, G, E, R, h, k⟩
section
variable {X : Cx} {B : Bs} {pos : Pos} {e c : Expr} {es : List Expr} {fa : DTE} {ta : DTT} {st : Stmt} {ss body els : List Stmt} {f g : DTS}
theorem dss_nil : DSs X B [] (fun E r M => E.nx r M) := PSs_imp pss_nil fun D' σ H h => let ⟨r, M, G, E, R, q, k⟩ := EkOk.of h; k.nx _ _ _ _ _ q R Sub.rfl'
theorem dss_cons (h1 : DS X B st f) (h2 : DSs X B ss g) : DSs X B (st :: ss) (fun E r M => f { E with nx := g E } r M) := PSs_imp (pss_cons h1 h2) fun D' σ H h => by
  obtain ⟨r, M, G, E, R, q, k⟩ := EkOk.of h
  exact EkOk.to R q ⟨fun r' M' σ' H' G' q' R' s => EkOk.to R' q' (k.mono s), k.rt, k.bk, k.ct⟩
theorem dss_one (h1 : DS X B st f) : DSs X B [st] f := pss_one h1
theorem ds_expr (he : DE X B e fa) (hs : swapsWith e none pos.line X.env = pure false := by rfl) : DS X B (.Expr e pos) (fun E r M => fa r M fun _ M1 => E.nx r M1) := PS_imp (ps_expr he hs) fun D' σ H h => by
  obtain ⟨r, M, G, E, R, q, k⟩ := EkOk.of h
  exact ⟨r, M, G, _, R, q, fun d M' v H' G' q' R' s p => k.nx _ _ _ _ _ q' R' s⟩
theorem ds_ret (he : DE X B e fa) : DS X B (.Return (some e) pos) (fun E r M => fa r M fun d M1 => E.rt d M1) := PS_imp (ps_ret he) fun D' σ H h => by
  obtain ⟨r, M, G, E, R, q, k⟩ := EkOk.of h
  exact ⟨r, M, G, _, R, q, fun d M' v H' G' q' R' s p => k.rt _ _ _ _ _ _ _ q' R' p⟩
theorem ds_if (hc : DT X B c ta) (ha : DSs X B body f) (hb : DSs X B els g) : DS X B (.If c body els pos) (fun E r M => ta r M fun b M1 => if b = true then f E r M1 else g E r M1) := PS_imp (ps_if hc ha hb) fun D' σ H h => by
  obtain ⟨r, M, G, E, R, q, k⟩ := EkOk.of h
  refine ⟨r, M, G, _, R, q, fun b M' H' G' q' R' s => ?_⟩
  cases b with
  | true => exact EkOk.to R' q' (k.mono s)
  | false => exact EkOk.to R' q' (k.mono s)
abbrev DTGs := List D → En → Sto → (En → Sto → Prop) → Prop
def liftGs (K : PySem.W.Frag) (B : Bs) (f : DTGs) : TGs := fun vs σ H Q => ∃ ds r M G Ψ, Rel K B r M σ H G ∧ RepL K G ds vs ∧ f ds r M Ψ ∧ ∀ r' M' σ' H' G', Ψ r' M' → Rel K B r' M' σ' H' G' → Sub G G' → Q σ' H'
abbrev DGs (X : Cx) (B : Bs) (es : List Expr) (f : DTGs) : Prop := PGs X es (liftGs X.K B f)
theorem PGs_imp {X : Cx} {e : List Expr} {t t' : TGs} (h : PGs X e t) (i : ∀ v σ H Q, t' v σ H Q → t v σ H Q) : PGs X e t' := ⟨fun pins s σ H vs us Q I r q => h.run pins s σ H vs us Q I r (i _ _ _ _ q)⟩
theorem dg_name {i : Nat} {x : Str} (hN : X.N.Nodup) (hi : X.N[i]? = some x := by rfl) (hx : Loc X.env.scope x := by first | exact Or.inl rfl | exact Or.inr rfl)
    (hf : X.fn x = true ∨ X.env.scope.names.lookup x = some .local := by first | exact .inl rfl | exact .inr rfl | assumption) : DG X B (.Name x pos) (fun d r M Ψ => Ψ (r.set i (some d)) M) :=
  PG_imp (pg_name hN hi hx hf) fun v σ H Q ⟨d, r, M, G, Ψ, R, p, h, k⟩ => k _ _ _ _ _ h (R.set p i) Sub.rfl'
theorem dgs_nil : DGs X B [] (fun ds r M Ψ => ds = [] ∧ Ψ r M) := PGs_imp pgs_nil fun vs σ H Q ⟨ds, r, M, G, Ψ, R, p, ⟨e, h⟩, k⟩ => by
  subst e; cases p
  exact ⟨rfl, k _ _ _ _ _ h R Sub.rfl'⟩
theorem dgs_cons {f : DTG} {fs : DTGs} (h1 : DG X B e f) (h2 : DGs X B es fs) (hs : (assignEach (e :: es) X.env).map (·.2) = assign e X.env :: (assignEach es X.env).map (·.2) := by rfl) :
    DGs X B (e :: es) (fun ds r M Ψ => match ds with | d :: l => f d r M fun r1 M1 => fs l r1 M1 Ψ | [] => False) := PGs_imp (pgs_cons h1 h2 hs) fun vs σ H Q ⟨ds, r, M, G, Ψ, R, p, h, k⟩ => by
  cases p with
  | nil => exact h.elim
  | cons p1 p2 => exact ⟨_, _, rfl, _, r, M, G, _, R, p1, h, fun r' M' σ' H' G' q R' s => ⟨_, r', M', G', Ψ, R', p2.mono s, q, fun _ _ _ _ _ q R s' => k _ _ _ _ _ q R (s.tr s')⟩⟩
def tupN (n : Nat) (f : DTGs) : DTG := fun d r M Ψ => match d with
  | .tup l => l.length = n ∧ f l r M Ψ
  | .tpl l => l.length = n ∧ f l r M Ψ
  | _ => False
theorem dg_tup {k n : Nat} {f : DTGs} (hc : X.calm = true) (h : DGs X B es f) (hn : (assignEach es X.env).length = n := by rfl) (hf : List.findIdx? (fun x => x.fst) (assignEach es X.env) = none := by rfl) : DG X B (.Tuple es k pos) (tupN n f) :=
  PG_imp (pg_tup hc h hn hf) fun v σ H Q ⟨d, r, M, G, Ψ, R, p, h, k⟩ => by
    cases p with
    | tup h1 r1 => exact ⟨_, _, rfl, R.wd.sub.sqT h1, by rw [← r1.length]; exact h.1, _, r, M, G, Ψ, R, r1, h.2, k⟩
    | tpl h1 r1 => exact ⟨_, _, rfl, R.wd.sub.sqT (SqT.of h1), by rw [← r1.length]; exact h.1, _, r, M, G, Ψ, R, r1, h.2, k⟩
    | _ => exact h.elim
theorem ds_asg {tg : Expr} {g : DTG} (he : DE X B e fa) (hg : DG X B tg g) (hs : swapsWithSole [tg] e pos.line X.env = pure false := by rfl) (hw : swappedStores [tg] e X.env = pure none := by rfl)
    (h1 : (assignEach [tg] X.env).map (·.2) = [assign tg X.env] := by rfl) : DS X B (.Assign [tg] e pos) (fun E r M => fa r M fun d M1 => g d r M1 E.nx) := PS_imp (ps_asg he hg hs hw h1) fun D' σ H h => by
  obtain ⟨r, M, G, E, R, q, k⟩ := EkOk.of h
  exact ⟨r, M, G, _, R, q, fun d M' v H' G' q' R' s p => ⟨d, r, M', G', _, R', p, q', fun _ _ _ _ _ q R t => k.nx _ _ _ _ _ q R (s.tr t)⟩⟩
theorem ds_set {i : Nat} {x : Str} {pos' : Pos} (hN : X.N.Nodup) (he : DE X B e fa) (hi : X.N[i]? = some x := by rfl) (hx : Loc X.env.scope x := by first | exact Or.inl rfl | exact Or.inr rfl)
    (hs : swapsWith e (some (.Name x pos')) pos.line X.env = pure false := by rfl) (hf : X.fn x = true ∨ X.env.scope.names.lookup x = some .local := by first | exact .inl rfl | exact .inr rfl | assumption) :
    DS X B (.Assign [.Name x pos'] e pos) (fun E r M => fa r M fun d M1 => E.nx (r.set i (some d)) M1) := PS_imp (ps_set hN hi hx he hs hf) fun D' σ H h => by
  obtain ⟨r, M, G, E, R, q, k⟩ := EkOk.of h
  exact ⟨r, M, G, _, R, q, fun d M' v H' G' q' R' s p => k.nx _ _ _ _ _ q' (R'.set p i) s⟩
theorem ds_par {i j : Nat} {x y : Str} {a b : Expr} {ga : DTA} {px py pt : Pos} {kt k2 : Nat} {pt2 : Pos} (hc : X.calm = true) (hN : X.N.Nodup) (ha : DA X B [a, b] ga) (hi : X.N[i]? = some x := by rfl) (hj : X.N[j]? = some y := by rfl) (hij : i ≠ j := by decide)
    (hx : X.env.scope.names.lookup x = some .local := by rfl) (hy : X.env.scope.names.lookup y = some .local := by rfl)
    (hw : swappedStores [.Tuple [.Name x px, .Name y py] kt pt] (.Tuple [a, b] k2 pt2) X.env = pure (some [x, y]) := by rfl) (hs : swapsWithSole [.Tuple [.Name x px, .Name y py] kt pt] (.Tuple [a, b] k2 pt2) pos.line X.env = pure false := by rfl) :
    DS X B (.Assign [.Tuple [.Name x px, .Name y py] kt pt] (.Tuple [a, b] k2 pt2) pos) (fun E r M => ga r M fun ds M1 => match ds with | [d, d'] => E.nx ((r.set i (some d)).set j (some d')) M1 | _ => False) :=
  PS_imp (ps_par hc hN hi hj hij hx hy ha hw hs) fun D' σ H h => by
    obtain ⟨r, M, G, E, R, q, k⟩ := EkOk.of h
    refine ⟨r, M, G, _, R, q, fun ds M' vs H' G' q' R' s p => ?_⟩
    split at q'
    · cases p with
      | cons p1 p2 => cases p2 with
        | cons p2 p3 => cases p3; exact ⟨_, _, rfl, k.nx _ _ _ _ _ q' ((R'.set p1 i).set p2 j) s⟩
    · exact q'.elim
theorem ds_aug {i : Nat} {x : Str} {op : Operator} {ti : TIp} {g : Sto → D → D → (D → Prop) → Prop} {pos' : Pos} (ho : PIp X op ti) (ok : Ok2 X.K ti g) (hN : X.N.Nodup) (he : DE X B e fa) (hi : X.N[i]? = some x := by rfl) (hx : Loc X.env.scope x := by first | exact Or.inl rfl | exact Or.inr rfl)
    (hf : X.fn x = true ∨ X.env.scope.names.lookup x = some .local := by first | exact .inl rfl | exact .inr rfl | assumption) :
    DS X B (.AugAssign (.Name x pos') op e pos) (fun E r M => getS r i fun d => fa r M fun d' M1 => g M1 d d' fun z => E.nx (r.set i (some z)) M1) := PS_imp (ps_aug hN hi hx he ho hf) fun D' σ H h => by
  obtain ⟨r, M, G, E, R, q, k⟩ := EkOk.of h
  obtain ⟨d, e1, q⟩ := getS_some q
  obtain ⟨v, h1, h2⟩ := R.slots _ _ e1
  refine ⟨v, h1, r, M, G, _, R, q, fun d' M' v' H' G' q' R' s p => ?_⟩
  exact ok M' H' G' _ _ _ _ _ _ R'.wd (h2.mono s) p q' fun z w H2 G2 f g p2 => k.nx _ _ _ _ _ f ((R'.grow g).set p2 i) (s.tr g.gsub)

theorem ds_while (hp : PassesOwn (model X.prog X.w) X.A X.env X.xe) (hc : DT X B c ta) (hb : DSs X B body f) : DS X B (.While c body [] pos) (fun E r M => ∃ (Iv : En → Sto → Prop) (μ : En → Sto → Nat), Cl B.M Iv r M ∧ ∀ r M, Iv r M →
    ta r M fun b M1 => if b = true then f { E with nx := Cl B.M fun r' M' => Iv r' M' ∧ μ r' M' < μ r M, ct := Cl B.M fun r' M' => Iv r' M' ∧ μ r' M' < μ r M, bk := E.nx } r M1 else E.nx r M1) := PS_imp (ps_while hp hc hb) fun D' σ H h => by
  obtain ⟨r, M, G, E, R, ⟨Iv, μ, ⟨r0, M0, w0, i0⟩, turn⟩, k⟩ := EkOk.of h
  obtain ⟨G0, R0, s0⟩ := w0 _ _ _ _ _ rfl R
  refine ⟨fun n σ H => ∃ r M G1, Rel X.K B r M σ H G1 ∧ Sub G G1 ∧ Iv r M ∧ n = μ r M, ⟨_, r0, M0, G0, R0, s0, i0, rfl⟩, ?_⟩
  rintro n σ1 H1 ⟨r1, M1, G1, R1, s1, i1, rfl⟩
  refine ⟨r1, M1, G1, _, R1, turn r1 M1 i1, fun b M' H' G' q' R' s => ?_⟩
  cases b with
  | false => exact k.nx _ _ _ _ _ q' R' (s1.tr s)
  | true =>
    refine ⟨fun σ2 H2 => ∃ r2 M2 G2, Rel X.K B r2 M2 σ2 H2 G2 ∧ Sub G G2 ∧ Iv r2 M2 ∧ μ r2 M2 < μ r1 M1, fun σ2 H2 ⟨r2, M2, G2, R2, s2, i2, l2⟩ => ⟨_, l2, r2, M2, G2, R2, s2, i2, rfl⟩, EkOk.to R' q' ?_⟩
    have cl : ∀ r' M' σ' H' G2, Cl B.M (fun r' M' => Iv r' M' ∧ μ r' M' < μ r1 M1) r' M' → Rel X.K B r' M' σ' H' G2 → Sub G' G2 → ∃ r2 M2 G2, Rel X.K B r2 M2 σ' H' G2 ∧ Sub G G2 ∧ Iv r2 M2 ∧ μ r2 M2 < μ r1 M1 := fun r' M' σ' H' G2 ⟨r3, M3, w3, i3, l3⟩ R3 t => by
      obtain ⟨G3, R3, t3⟩ := w3 _ _ _ _ _ rfl R3
      exact ⟨r3, M3, G3, R3, ((s1.tr s).tr t).tr t3, i3, l3⟩
    exact ⟨cl, k.rt, fun _ _ _ _ _ q R t => k.nx _ _ _ _ _ q R ((s1.tr s).tr t), cl⟩
def Yld (K : PySem.W.Frag) (B : Bs) (J : It) (G0 : Hp) (xs : List D) (S : Sto → Prop) : Prop := ∀ i r M σ H G, Rel K B r M σ H G → Sub G0 G → S M →
  (i < xs.length → J.go i H ∧ ∀ x H', J.yld i H x H' → ∃ G' d, Grow H G H' G' ∧ xs[i]? = some d ∧ Rep K G' d x) ∧ (xs.length ≤ i → J.stop i H)
abbrev DTI := En → Sto → (List D → (Sto → Prop) → Sto → Prop) → Prop
def liftI (K : PySem.W.Frag) (B : Bs) (f : DTI) : TI := fun σ H Q => ∃ r M G Ψ, Rel K B r M σ H G ∧ f r M Ψ ∧ ∀ xs S M' J H' G', Ψ xs S M' → Rel K B r M' σ H' G' → Sub G G' → Yld K B J G' xs S → Q J H'
abbrev DI (X : Cx) (B : Bs) (tg iter : Expr) (f : DTI) : Prop := PI X tg iter (liftI X.K B f)
theorem PI_imp {X : Cx} {tg iter : Expr} {t t' : TI} (h : PI X tg iter t) (i : ∀ σ H Q, t' σ H Q → t σ H Q) : PI X tg iter t' := ⟨fun pins s σ H Q I q => h.run pins s σ H Q I (i _ _ _ q)⟩
@[irreducible] def forD (M0 : Sto) (wi : DTI) (g : DTG) (f : DTS) : DTS := fun E r M => wi r M fun xs S M1 => ∃ Iv : Nat → En → Sto → Prop, Cl M0 (Iv 0) r M1 ∧ (∀ i r M, Iv i r M → S M) ∧
  (∀ i d r M, xs[i]? = some d → Iv i r M → g d r M fun r' M' => f { E with nx := Cl M0 (Iv (i + 1)), ct := Cl M0 (Iv (i + 1)), bk := E.nx } r' M') ∧ ∀ r M, Iv xs.length r M → E.nx r M
theorem ds_for {tg iter : Expr} {wi : DTI} {g : DTG} (hp : PassesOwn (model X.prog X.w) X.A X.env X.xe) (hc : X.calm = true) (hi : DI X B tg iter wi) (hg : DG X B tg g) (hb : DSs X B body f) (h1 : ∀ x, foldedSetIterable iter X.env x = pure x := by intro _; rfl) :
    DS X B (.For tg iter body [] pos) (forD B.M wi g f) := PS_imp (ps_for hp hc hi hg hb h1) fun D' σ H h => by
  obtain ⟨r, M, G, E, R, q, k⟩ := EkOk.of h
  unfold forD at q
  refine ⟨r, M, G, _, R, q, fun xs S M' J H' G' ⟨Iv, ⟨r0, M0, w0, i0⟩, hS, turn, fin⟩ R' s y => ?_⟩
  obtain ⟨G0, R0, s0⟩ := w0 _ _ _ _ _ rfl R'
  refine ⟨fun i m σ H => ∃ r M G, Rel X.K B r M σ H G ∧ Sub G' G ∧ Iv i r M ∧ i ≤ xs.length ∧ m = xs.length - i, ⟨_, r0, M0, G0, R0, s0, i0, Nat.zero_le _, rfl⟩, ?_⟩
  rintro i m σ1 H1 ⟨r1, M1, G1, R1, s1, i1, hi, rfl⟩
  obtain ⟨y1, y2⟩ := y i r1 M1 σ1 H1 G1 R1 s1 (hS _ _ _ i1)
  by_cases hl : i < xs.length
  · obtain ⟨y3, y4⟩ := y1 hl
    refine .inr ⟨y3, fun σ2 H2 => ∃ r2 M2 G2, Rel X.K B r2 M2 σ2 H2 G2 ∧ Sub G' G2 ∧ Iv (i + 1) r2 M2, fun σ2 H2 ⟨r2, M2, G2, R2, s2, i2⟩ => ⟨_, by omega, r2, M2, G2, R2, s2, i2, hl, rfl⟩, fun x H2 hy => ?_⟩
    obtain ⟨G2, d, g2, hd, p⟩ := y4 x H2 hy
    have R2 := R1.grow g2
    have s2 := g2.gsub
    refine ⟨d, r1, M1, G2, _, R2, p, turn i d r1 M1 hd i1, fun r3 M3 σ3 H3 G3 q3 R3 s3 => EkOk.to R3 q3 ?_⟩
    have t3 : Sub G' G3 := (s1.tr s2).tr s3
    have cl : ∀ r' M' σ' H' G2, Cl B.M (Iv (i + 1)) r' M' → Rel X.K B r' M' σ' H' G2 → Sub G3 G2 → ∃ r2 M2 G2, Rel X.K B r2 M2 σ' H' G2 ∧ Sub G' G2 ∧ Iv (i + 1) r2 M2 := fun r' M' σ' H' G2 ⟨r4, M4, w4, i4⟩ R4 t => by
      obtain ⟨G4, R4, t4⟩ := w4 _ _ _ _ _ rfl R4
      exact ⟨r4, M4, G4, R4, (t3.tr t).tr t4, i4⟩
    exact ⟨cl, k.rt, fun _ _ _ _ _ q R t => k.nx _ _ _ _ _ q R ((s.tr t3).tr t), cl⟩
  · have e : i = xs.length := by omega
    subst e
    exact .inl ⟨y2 (Nat.le_refl _), k.nx _ _ _ _ _ (fin _ _ i1) R1 (s.tr s1)⟩
theorem di_list {l : Expr} {tg : Expr} (hl : DE X B l fa) : DI X B tg l (fun r M Ψ => fa r M fun d M1 => ∃ xs, lstOf M1 d = some xs ∧ Ψ xs (fun M => lstOf M d = some xs) M1) := PI_imp (pi_list hl) fun σ H Q ⟨r, M, G, Ψ, R, h, k⟩ => by
  refine ⟨r, M, G, _, R, h, fun d M1 v H1 G1 ⟨xs, e, q⟩ R1 s1 p => ?_⟩
  obtain ⟨a, vs, rfl, h1, r1⟩ := lst_rep' R1.wd p e
  refine ⟨a, rfl, ⟨vs, h1⟩, k xs _ M1 _ H1 G1 q R1 s1 fun i r2 M2 σ2 H2 G2 R2 t2 e2 => ?_⟩
  obtain ⟨a', vs', ea, h2, r2⟩ := lst_rep' R2.wd (p.mono t2) e2
  cases ea
  have hl := r2.length
  refine ⟨fun hi => ?_, fun hi => ⟨vs', h2, by omega⟩⟩
  obtain ⟨d', hd⟩ : ∃ d', xs[i]? = some d' := ⟨xs[i], by simp [hi]⟩
  obtain ⟨x, hx, px⟩ := r2.get hd
  refine ⟨⟨vs', x, h2, hx⟩, fun y H' hy => ?_⟩
  obtain ⟨e3, hy⟩ := hy
  subst e3
  have q3 := hy vs' h2
  rw [hx] at q3
  cases q3
  exact ⟨G2, d', Grow.refl R2.wd.sub, hd, px⟩
theorem di_tup {l : Expr} {tg : Expr} (hl : DE X B l fa) : DI X B tg l (fun r M Ψ => fa r M fun d M1 => ∃ xs, tupOf d = some xs ∧ Ψ xs (fun _ => True) M1) := PI_imp (pi_tup hl) fun σ H Q ⟨r, M, G, Ψ, R, h, k⟩ => by
  refine ⟨r, M, G, _, R, h, fun d M1 v H1 G1 ⟨xs, e, q⟩ R1 s1 p => ?_⟩
  obtain ⟨a, vs, rfl, h1, r1⟩ := tup_rep R1.wd p e
  refine ⟨a, rfl, ⟨vs, h1⟩, k xs _ M1 _ H1 G1 q R1 s1 fun i r2 M2 σ2 H2 G2 R2 t2 _ => ?_⟩
  obtain ⟨a', vs', ea, h2, r2⟩ := tup_rep R2.wd (p.mono t2) e
  cases ea
  have hl := r2.length
  refine ⟨fun hi => ?_, fun hi => ⟨vs', h2, by omega⟩⟩
  obtain ⟨d', hd⟩ : ∃ d', xs[i]? = some d' := ⟨xs[i], by simp [hi]⟩
  obtain ⟨x, hx, px⟩ := r2.get hd
  refine ⟨⟨vs', x, h2, hx⟩, fun y H' hy => ?_⟩
  obtain ⟨e3, hy⟩ := hy
  subst e3
  have q3 := hy vs' h2
  rw [hx] at q3
  cases q3
  exact ⟨G2, d', Grow.refl R2.wd.sub, hd, px⟩
def rngD (lo : Int) (n : Nat) : List D := (List.range n).map fun i => .int (lo + (i : Nat))
theorem rng_get {lo : Int} {n i : Nat} (h : i < n) : (rngD lo n)[i]? = some (.int (lo + i)) := by
  unfold rngD
  rw [List.getElem?_map, List.getElem?_range h]; rfl
theorem rng_len {lo : Int} {n : Nat} : (rngD lo n).length = n := by unfold rngD; rw [List.length_map, List.length_range]
theorem yld_rng {K : PySem.W.Frag} {G : Hp} {lo : Int} {n : Nat} : Yld K B (Itr lo n) G (rngD lo n) (fun _ => True) := fun i r M σ H G R s _ => by
  rw [rng_len]
  exact ⟨fun hi => ⟨hi, fun x H' ⟨e, ex⟩ => by subst e ex; exact ⟨G, _, Grow.refl R.wd.sub, rng_get hi, .int⟩⟩, fun hi => hi⟩
def fitR (i : Int) : Prop := -(2 ^ 62) ≤ i ∧ i < 2 ^ 62
theorem di_range1 {a : Expr} {tg : Expr} {ga : DTA} {p : Pos} (hm : X.mg "range" = none) (ha : DA X B [a] ga) (hg : Gl X "range" := by rfl) (hs : starEach [a] X.env = [(false, eval a X.env)] := by rfl) :
    DI X B tg (.Call (.Name "range" p) [a] [] pos) (fun r M Ψ => ga r M fun ds M1 => match ds with | [.int j] => fitR j ∧ Ψ (rngD 0 j.toNat) (fun _ => True) M1 | _ => False) := PI_imp (pi_range1 hg hm ha hs) fun σ H Q ⟨r, M, G, Ψ, R, h, k⟩ => by
  refine ⟨r, M, G, _, R, h, fun ds M1 vs H1 G1 q R1 s1 p => ?_⟩
  split at q
  · cases p with
    | cons p1 p2 => cases p1; cases p2; exact ⟨_, rfl, q.1.1, q.1.2, k _ _ _ _ _ _ q.2 R1 s1 yld_rng⟩
  · exact q.elim
theorem di_range2 {a b : Expr} {tg : Expr} {ga : DTA} {p : Pos} (hm : X.mg "range" = none) (ha : DA X B [a, b] ga) (hg : Gl X "range" := by rfl) (hs : starEach [a, b] X.env = [(false, eval a X.env), (false, eval b X.env)] := by rfl) (hs2 : starEach [b] X.env = [(false, eval b X.env)] := by rfl) :
    DI X B tg (.Call (.Name "range" p) [a, b] [] pos) (fun r M Ψ => ga r M fun ds M1 => match ds with | [.int i, .int j] => (fitR i ∧ fitR j) ∧ Ψ (rngD i (j - i).toNat) (fun _ => True) M1 | _ => False) := PI_imp (pi_range2 hg hm ha hs hs2) fun σ H Q ⟨r, M, G, Ψ, R, h, k⟩ => by
  refine ⟨r, M, G, _, R, h, fun ds M1 vs H1 G1 q R1 s1 p => ?_⟩
  split at q
  · cases p with
    | cons p1 p2 => cases p2 with
      | cons p2 p3 => cases p1; cases p2; cases p3; exact ⟨_, _, rfl, ⟨q.1.1.1, q.1.1.2, q.1.2.1, q.1.2.2⟩, k _ _ _ _ _ _ q.2 R1 s1 yld_rng⟩
  · exact q.elim
end
end Z
namespace Z
open PySem PySem.Spec PyProof.Rows L2

abbrev XD := Addr × List (Str × D)
structure RepX (K : PySem.W.Frag) (G H : Hp) (x : XD) (cls : Value) (d : Option Addr) : Prop where
  cls : cls = .ref x.1
  own : ∃ dd fvs, d = some dd ∧ H dd = some (.xd fvs) ∧ RepF K G x.2 fvs
def wOf (K : PySem.W.Frag) (B : Bs) (Ξ : XD → En → Sto → Prop) : WX := fun cls d σ H => ∃ x r M G, Ξ x r M ∧ Rel K B r M σ H G ∧ RepX K G H x cls d
structure Zx (X : Cx) (B : Bs) (Ξ : XD → En → Sto → Prop) : Prop where
  tk : Takes X (wOf X.K B Ξ)
  po : PassesOwn (model X.prog X.w) X.A X.env X.xe

abbrev Ct := List D → Sto → (D → Sto → Prop) → (XD → Sto → Prop) → Prop
def spC (K : PySem.W.Frag) (n : Nat) (c : Ct) : Sp := fun vs H Q E => vs.length = n ∧ ∃ ds G M Ψ Ξ, Wd K M H G ∧ RepL K G ds vs ∧ c ds M Ψ Ξ ∧
  (∀ d M' v H' G', Ψ d M' → Wd K M' H' G' → Since H G M M' H' G' → Rep K G' d v → Q v H') ∧ ∀ x M' H' G' cls dd, Ξ x M' → Wd K M' H' G' → Since H G M M' H' G' → RepX K G' H' x cls dd → E cls dd H'

inductive FzR (M0 M' : Sto) : D → D → Sto → Prop where
  | same {d : D} : FzR M0 M' d d M'
  | drop {d : D} : FzR M0 M' d d (rs M0 M')
  | frz (n : Nat) {d : D} : FzR M0 M' d (fz M0 M' n d) (rs M0 M')
def rtF (M0 : Sto) (Ψ : D → Sto → Prop) : D → Sto → Prop := fun d M' => ∃ d' M'', FzR M0 M' d d' M'' ∧ Ψ d' M''
inductive FzX (M0 M' : Sto) : Sto → Prop where
  | same : FzX M0 M' M'
  | drop : FzX M0 M' (rs M0 M')
def exF (M0 : Sto) (Ξ : XD → Sto → Prop) : XD → En → Sto → Prop := fun x _ M' => ∃ M'', FzX M0 M' M'' ∧ Ξ x M''

theorem exF_take {K : PySem.W.Frag} {B : Bs} {Ξ : XD → Sto → Prop} {E : XK} (hE : ∀ x M' H' G' cls dd, Ξ x M' → Wd K M' H' G' → Since B.H B.G B.M M' H' G' → RepX K G' H' x cls dd → E cls dd H') :
    ∀ cls d σ H, wOf K B (exF B.M Ξ) cls d σ H → E cls d H := fun cls d σ H ⟨x, r, M, G, ⟨M', f, q⟩, R, rx⟩ => by
  cases f with
  | same => exact hE x M H G cls d q R.wd R.sin rx
  | drop =>
    obtain ⟨w1, s1⟩ := frz_end R.wd R.sin
    obtain ⟨e, dd, fvs, e1, e2, r2⟩ := rx
    exact hE x _ H _ cls d q w1 s1 ⟨e, dd, fvs, e1, e2, r2.mono frzG_sub⟩

section
variable {P : Program} {w : World} {K : PySem.W.Frag} {mg : Str → Option Value} {base : Heap}
def ent (N : Nat) (ds : List D) : En := ds.map some ++ List.replicate (N - ds.length) none
theorem rel_start {ds : List D} {vs : List V} {N : List Str} {H G : Hp} {M : Sto} (w : Wd K M H G) (r : RepL K G ds vs) : Rel K ⟨H, G, M⟩ (ent N.length ds) M (L2.start N vs) H G where
  wd := w
  len := by
    unfold ent L2.start
    rw [List.length_append, List.length_append, List.length_map, List.length_map, List.length_replicate, List.length_replicate, r.length]
  slots := fun i d h => by
    unfold ent at h
    unfold L2.start
    by_cases hi : i < ds.length
    · rw [List.getElem?_append_left (by simpa using hi), List.getElem?_map] at h
      cases e : ds[i]? with
      | none => rw [e] at h; cases h
      | some a =>
        rw [e] at h; cases h
        obtain ⟨v, h1, h2⟩ := r.get e
        exact ⟨v, by rw [List.getElem?_append_left (by rw [List.length_map, ← r.length]; exact hi), List.getElem?_map, h1]; rfl, h2⟩
    · rw [List.getElem?_append_right (by simpa using hi), List.getElem?_replicate] at h
      split at h <;> cases h
  sin := Since.refl
end

def BindD (K : PySem.W.Frag) (fd : FuncData) (ps : List Str) (b : Nat × List Str × (List D → List D → List D)) : Prop :=
  (∀ ds zs, ds.length = b.1 → zs.length = b.2.1.length → (b.2.2 ds zs).length = ps.length) ∧ ∃ gl gV, KBn K fd ps b.1 b.2.1 gl gV ∧ ∀ (G : Hp) ds vs zs us, RepL K G ds vs → RepL K G zs us → RepL K G (b.2.2 ds zs) (gV vs us)
structure Gf (P : Program) (w : World) (K : PySem.W.Frag) (mg : Str → Option Value) (base : Heap) (x : Str) (k : Nat) (c : Ct) (bs : List (Nat × List Str × (List D → List D → List D))) : Prop where
  ex : ∃ f fd ps, mg x = some (.ref f) ∧ PySem.W.keepIn K (.ref f) = true ∧ FnOk P w K mg base (L2.CX P w) k f fd ps (spC K ps.length c) ∧ ∀ b ∈ bs, BindD K fd ps b
def pos (n : Nat) : Nat × List Str × (List D → List D → List D) := (n, [], fun ds _ => ds)
section
variable {X : Cx} {B : Bs} {Ξ : XD → En → Sto → Prop} {k : Nat} {f : Addr} {fd : FuncData} {ps ks : List Str} {c : Ct} {pos apos : Pos} {e : Expr} {es : List Expr} {kws : List Keyword} {ga gk : DTA} {fa : DTE}
theorem run_c {pins : List (Addr × Obj)} {r : En} {M : Sto} {σ : L2.St} {H G : Hp} {s : Shared} {Q : VK} {vs zs : List V} {us ws : List Value} {ds dz : List D} {b : Nat × List Str × (List D → List D → List D)} {Ψ : D → Sto → Prop}
    (F : FnOk X.prog X.w X.K X.mg X.base (L2.CX X.prog X.w) k f fd ps (spC X.K ps.length c)) (hr : Room k X.A) (hb : BindD X.K fd ps b) (tk : Takes X (wOf X.K B Ξ)) (I : L2.Inv X pins σ H s) (R : Rel X.K B r M σ H G)
    (hv : Vals vs us) (hz : Vals zs ws) (rv : RepL X.K G ds vs) (rz : RepL X.K G dz zs) (l1 : ds.length = b.1) (l2 : dz.length = b.2.1.length) (hc : c (b.2.2 ds dz) M Ψ (fun x M' => Ξ x r M'))
    (hQ : ∀ d M' v H' G', Ψ d M' → Rel X.K B r M' σ H' G' → Sub G G' → Rep X.K G' d v → Q v H') : wpAny (model X.prog X.w) X.A (call (.ref f) us (b.2.1.zip ws)) (EP X pins σ Q) X.xe s := by
  obtain ⟨hl, gl, gV, kb, rel⟩ := hb
  have l3 := hl ds dz l1 l2
  have u1 : us.length = b.1 := by rw [← hv.length, ← rv.length]; exact l1
  have u2 : ws.length = b.2.1.length := by rw [← hz.length, ← rz.length]; exact l2
  have rr := rel G ds vs dz zs rv rz
  have hsp : spC X.K ps.length c (gV vs zs) H Q (fun cls d H' => wOf X.K B Ξ cls d σ H') := by
    refine ⟨by rw [← rr.length]; exact l3, _, G, M, Ψ, _, R.wd, rr, hc, fun d M' v H' G' q w s p => hQ d M' v H' G' q (R.go w s) s.gsub p, fun x M' H' G' cls dd q w s rx => ?_⟩
    exact ⟨x, r, M', G', q, R.go w s, rx⟩
  refine wpAny_call (codeAny_mono (F.run X.A X.stack s H ⟨us, b.2.1.zip ws⟩ (gl us ws) (gV vs zs) Q _ hr I.env0 (kb.to s us ws I.kIn u1 u2) (kb.rel hv hz) hsp) fun fr s' hq => ?_)
  cases fr with
  | error e => exact tk e s' (XE.of_call I (fun cls d H' h => h) hq)
  | ok fl =>
    cases fl with
    | ret u => exact I.after hq
    | next => exact False.elim hq
    | brk => exact False.elim hq
    | cont => exact False.elim hq
variable {P : Program} {w : World} {K : PySem.W.Frag} {mg : Str → Option Value} {base : Heap} {x : Str} {bs : List (Nat × List Str × (List D → List D → List D))} {n j : Nat} {g : List D → List D → List D} {p : Pos}
def callD (n m : Nat) (g : List D → List D → List D) (c : Ct) (Ξ : XD → En → Sto → Prop) (ds dz : List D) (r : En) (M : Sto) (Ψ : PD) : Prop := ds.length = n ∧ dz.length = m ∧ c (g ds dz) M Ψ (fun x M' => Ξ x r M')
theorem de_call (F : Gf X.prog X.w X.K X.mg X.base x j c bs) (hr : Room k X.A) (z : Zx X B Ξ) (hb : (n, [], g) ∈ bs) (ha : DA X B (e :: es) ga) (hj : j ≤ k := by decide) (hg : Gl X x := by rfl) (hdb : (x == ("__debug__" : Str)) = false := by decide)
    (he : starEach (e :: es) X.env = (false, eval e X.env) :: starEach es X.env := by rfl) (hpl : (backTo pos (starEach es X.env)).any (·.1) = false := by rfl) :
    DE X B (.Call (.Name x p) (e :: es) [] pos) (fun r M Ψ => ga r M fun ds M1 => callD n 0 g c Ξ ds [] r M1 Ψ) := by
  obtain ⟨f, fd, ps, hm, hk, FO, hbs⟩ := F.ex
  refine ⟨fun pins s σ H Q I ⟨r, M, G, Ψ, R, h, kk⟩ => ?_⟩
  refine wpAny_Call_Name_kw (ld_glob I hg hm ?_ hdb)
  refine PySem.W.callWith_K (h₀ := X.base) I.ok.mod.kin hk (thn (ha.run pos pins s σ H _ I ⟨r, M, G, _, R, h, fun ds M1 vs H1 G1 q R1 s1 p1 => (⟨ds, M1, G1, q, R1, s1, p1⟩ : ∃ ds M1 G1, callD n 0 g c Ξ ds [] r M1 Ψ ∧ Rel X.K B r M1 σ H1 G1 ∧ Sub G G1 ∧ RepL X.K G1 ds vs)⟩) fun us s1 ⟨vs, H1, I1, rv, ds, M1, G1, ⟨l1, _, q⟩, R1, t1, p1⟩ => ⟨I1.kIn, ?_⟩) he hpl
  exact run_c (zs := []) (ws := []) (dz := []) FO (hr.mono hj) (hbs _ hb) z.tk I1 R1 rv .nil p1 .nil l1 rfl q fun d M' v H' G' q R' s' p' => kk _ _ _ _ _ q R' (t1.tr s') p'
end
end Z
namespace Z
open PySem PySem.Spec PyProof.Rows L2

abbrev Post (K : PySem.W.Frag) (H G : Hp) (M : Sto) (φ : D → Sto → Prop) (Q : VK) : Prop := ∀ d M' w H' G', φ d M' → Wd K M' H' G' → Since H G M M' H' G' → Rep K G' d w → Q w H'
theorem Post.id {K : PySem.W.Frag} {H G : Hp} {M : Sto} {φ : D → Sto → Prop} {Q : VK} (k : Post K H G M φ Q) (w : Wd K M H G) {d : D} {v : V} (h : φ d M) (p : Rep K G d v) : Q v H := k _ _ _ _ _ h w Since.refl p
theorem Post.grow {K : PySem.W.Frag} {H G H' G' : Hp} {M : Sto} {φ : D → Sto → Prop} {Q : VK} (k : Post K H G M φ Q) (w : Wd K M H G) (g : Grow H G H' G') {d : D} {v : V} (h : φ d M) (p : Rep K G' d v) : Q v H' := k _ _ _ _ _ h (g.wd w) (g.since w) p
theorem CallR_or {X : Cx} {f : Value} {r r' : List V → Hp → VK → Prop} (h : CallR X f r) (h' : CallR X f r') : CallR X f (fun xs H Q => r xs H Q ∨ r' xs H Q) := by
  intro pins s σ H xs us Q I rx q
  rcases q with q | q
  · exact h pins s σ H xs us Q I rx q
  · exact h' pins s σ H xs us Q I rx q
def OkC (K : PySem.W.Frag) (r : List V → Hp → VK → Prop) (g : Sto → List D → PD → Prop) : Prop := ∀ (M : Sto) (H G : Hp) (ds : List D) (vs : List V) (φ : PD) (Q : VK), Wd K M H G → RepL K G ds vs → g M ds φ → Post K H G M φ Q → r vs H Q
section
variable {X : Cx} {B : Bs} {pos apos : Pos} {a b e o : Expr} {es : List Expr} {fa fb fo : DTE} {ga : DTA} {k : Nat}
theorem de_callB {r : List V → Hp → VK → Prop} {g : Sto → List D → PD → Prop} {x : Str} {id : String} {p : Pos} (hc : CallR X (.builtin id) r) (ok : OkC X.K r g) (hm : X.mg x = none) (hv : bootBuiltins x = some (.builtin id)) (ha : DA X B (e :: es) ga)
    (hg : Gl X x := by rfl) (hn : x ≠ "__name__" := by decide) (hdb : (x == ("__debug__" : Str)) = false := by decide)
    (he : starEach (e :: es) X.env = (false, eval e X.env) :: starEach es X.env := by rfl) (hpl : (backTo pos (starEach es X.env)).any (·.1) = false := by rfl) :
    DE X B (.Call (.Name x p) (e :: es) [] pos) (fun r M Ψ => ga r M fun ds M1 => g M1 ds Ψ) := PE_imp (pe_callB hc hg hm hv ha hn hdb he hpl) fun σ H Q ⟨r, M, G, Ψ, R, h, k⟩ =>
  ⟨r, M, G, _, R, h, fun ds M1 vs H1 G1 q R1 s1 p1 => ok M1 H1 G1 ds vs Ψ Q R1.wd p1 q fun d M' w H' G' f w' s' p' => k _ _ _ _ _ f (R1.go w' s') (s1.tr s'.gsub) p'⟩
theorem de_callT {r : List V → Hp → VK → Prop} {g : Sto → List D → PD → Prop} {x : Str} {id : String} {p : Pos} (hc : CallR X (.type id) r) (ok : OkC X.K r g) (hm : X.mg x = none) (hv : bootBuiltins x = some (.type id)) (ha : DA X B (e :: es) ga)
    (hg : Gl X x := by rfl) (hn : x ≠ "__name__" := by decide) (hdb : (x == ("__debug__" : Str)) = false := by decide)
    (he : starEach (e :: es) X.env = (false, eval e X.env) :: starEach es X.env := by rfl) (hpl : (backTo pos (starEach es X.env)).any (·.1) = false := by rfl) :
    DE X B (.Call (.Name x p) (e :: es) [] pos) (fun r M Ψ => ga r M fun ds M1 => g M1 ds Ψ) := PE_imp (pe_callTy hc hg hm hv ha hn hdb he hpl) fun σ H Q ⟨r, M, G, Ψ, R, h, k⟩ =>
  ⟨r, M, G, _, R, h, fun ds M1 vs H1 G1 q R1 s1 p1 => ok M1 H1 G1 ds vs Ψ Q R1.wd p1 q fun d M' w H' G' f w' s' p' => k _ _ _ _ _ f (R1.go w' s') (s1.tr s'.gsub) p'⟩
theorem de_ty {x : Str} {n : String} (hm : X.mg x = none) (hv : bootBuiltins x = some (.type n)) (hg : Gl X x := by rfl) (hn : x ≠ "__name__" := by decide) (hd : (x == ("__debug__" : Str)) = false := by decide) : DE X B (.Name x pos) (fun _ M Ψ => Ψ (.ty n) M) :=
  de_c (v := .ty n) (pe_bltn hg hm hv rfl hn hd) fun _ => .ty

def dicOf (M : Sto) : D → Option (List (D × D))
  | .dic l => some l
  | .dlk l => some l
  | .ref p => match M p with
    | some (.dic l) => some l
    | some (.dit l) => some l
    | _ => none
  | _ => none
theorem dicOf_ref {M : Sto} {a : Addr} {l : List (D × D)} (e : dicOf M (.ref a) = some l) : M a = some (.dic l) ∨ M a = some (.dit l) := by
  have e' : (match M a with | some (.dic l) => some l | some (.dit l) => some l | _ => none) = some l := e
  split at e'
  · rename_i l' q
    exact .inl (by rw [q, Option.some.inj e'])
  · rename_i l' q
    exact .inr (by rw [q, Option.some.inj e'])
  · cases e'
theorem dic_rep {K : PySem.W.Frag} {M : Sto} {H G : Hp} {d : D} {v : V} {l : List (D × D)} (w : Wd K M H G) (r : Rep K G d v) (e : dicOf M d = some l) : ∃ a, v = .ref a ∧ ((∃ kvs, Rd H a (.dK kvs) ∧ RepD K G l kvs) ∨ ∃ kvs, H a = some (.dT kvs) ∧ RepT K G l kvs) := by
  cases r with
  | dic h r => cases e; exact ⟨_, rfl, .inl ⟨_, .inl (w.sub _ _ h), r⟩⟩
  | dlk h r => cases e; exact ⟨_, rfl, .inl ⟨_, .inr ⟨_, w.sub _ _ h⟩, r⟩⟩
  | dit h r => cases e; exact ⟨_, rfl, .inr ⟨_, w.sub _ _ h, r⟩⟩
  | ref =>
    rcases dicOf_ref e with e | e
    · obtain ⟨kvs, h1, h2⟩ := (w.cells _ _ e).2
      exact ⟨_, rfl, .inl ⟨kvs, .inl h1, h2⟩⟩
    · exact ⟨_, rfl, .inr (w.cells _ _ e).2⟩
  | _ => cases e
theorem RepD.length {K : PySem.W.Frag} {G : Hp} : ∀ {l : List (D × D)} {kvs : List (Key × V)}, RepD K G l kvs → l.length = kvs.length
  | _, _, .nil => rfl
  | _, _, .cons _ _ r => congrArg (· + 1) r.length
theorem RepT.length {K : PySem.W.Frag} {G : Hp} : ∀ {l : List (D × D)} {kvs : List (List Key × V)}, RepT K G l kvs → l.length = kvs.length
  | _, _, .nil => rfl
  | _, _, .cons _ _ r => congrArg (· + 1) r.length
def lenD (M : Sto) (ds : List D) (φ : PD) : Prop := match ds with
  | [.str x] => x.length ≤ sizeLine ∧ φ (.int x.length) M
  | [.tup l] => φ (.int l.length) M
  | [.lst l] => φ (.int l.length) M
  | [d] => ∃ l, lstOf M d = some l ∧ φ (.int l.length) M
  | _ => False
theorem ok_len {K : PySem.W.Frag} : OkC K (fun xs H Q => ∃ x n, xs = [x] ∧ LenV K x H n ∧ Q (.int n) H) lenD := fun M H G ds vs φ Q w r h k => by
  unfold lenD at h
  split at h
  · cases r with
    | cons r1 r2 => cases r2; cases r1; exact ⟨_, _, rfl, ⟨h.1, rfl⟩, k.id w h.2 .int⟩
  · cases r with
    | cons r1 r2 =>
      cases r2
      obtain ⟨p, us, rfl, h1, r3⟩ := tup_rep w r1 rfl
      exact ⟨_, _, rfl, .inr ⟨_, h1, rfl⟩, by rw [← r3.length]; exact k.id w h .int⟩
  · cases r with
    | cons r1 r2 =>
      cases r2
      obtain ⟨p, us, rfl, h1, r3⟩ := lst_rep' w r1 rfl
      exact ⟨_, _, rfl, .inl ⟨_, h1, rfl⟩, by rw [← r3.length]; exact k.id w h .int⟩
  · cases r with
    | cons r1 r2 =>
      cases r2
      obtain ⟨l, e, h⟩ := h
      obtain ⟨p, us, rfl, h1, r3⟩ := lst_rep' w r1 e
      exact ⟨_, _, rfl, .inl ⟨_, h1, rfl⟩, by rw [← r3.length]; exact k.id w h .int⟩
  · exact h.elim
theorem de_len {p : Pos} (hm : X.mg "len" = none) (ha : DA X B [a] ga) (hg : Gl X "len" := by rfl) (he : starEach [a] X.env = (false, eval a X.env) :: starEach [] X.env := by rfl) : DE X B (.Call (.Name "len" p) [a] [] pos) (fun r M Ψ => ga r M fun ds M1 => lenD M1 ds Ψ) :=
  de_callB call_len ok_len hm PySem.boot_len ha hg (by decide) (by decide) he rfl
def absD (M : Sto) (ds : List D) (φ : PD) : Prop := match ds with
  | [.int i] => φ (.int (if i < 0 then -i else i)) M
  | _ => False
def max2D (M : Sto) (ds : List D) (φ : PD) : Prop := match ds with
  | [.int i, .int j] => φ (.int (if j > i then j else i)) M
  | _ => False
def min2D (M : Sto) (ds : List D) (φ : PD) : Prop := match ds with
  | [.int i, .int j] => φ (.int (if j < i then j else i)) M
  | _ => False
def intD (M : Sto) (ds : List D) (φ : PD) : Prop := match ds with
  | [.int i] => φ (.int i) M
  | [.bl b] => φ (.int (if b then 1 else 0)) M
  | _ => False
def sumD (M : Sto) (ds : List D) (φ : PD) : Prop := match ds with
  | [d] => ∃ ns : List Int, lstOf M d = some (ns.map .int) ∧ φ (.int ns.sum) M
  | _ => False
def allD (M : Sto) (ds : List D) (φ : PD) : Prop := match ds with
  | [d] => ∃ bs : List Bool, lstOf M d = some (bs.map .bl) ∧ φ (.bl (bs.all id)) M
  | _ => False
def anyD (M : Sto) (ds : List D) (φ : PD) : Prop := match ds with
  | [d] => ∃ bs : List Bool, lstOf M d = some (bs.map .bl) ∧ φ (.bl (bs.any id)) M
  | _ => False
def tupleD (M : Sto) (ds : List D) (φ : PD) : Prop := match ds with
  | [.tup l] => φ (.tup l) M
  | [d] => ∃ l, lstOf M d = some l ∧ φ (.tup l) M
  | _ => False
section
variable {K : PySem.W.Frag}
theorem ok_abs : OkC K (fun xs H Q => ∃ i, xs = [.int i] ∧ Q (.int (if i < 0 then -i else i)) H) absD := fun M H G ds vs φ Q w r h k => by
  unfold absD at h
  split at h
  · cases r with | cons r1 r2 => cases r2; cases r1; exact ⟨_, rfl, k.id w h .int⟩
  · exact h.elim
theorem ok_min2 : OkC K (fun xs H Q => ∃ i j, xs = [.int i, .int j] ∧ Q (.int (if j < i then j else i)) H) min2D := fun M H G ds vs φ Q w r h k => by
  unfold min2D at h
  split at h
  · cases r with | cons r1 r2 => cases r2 with | cons r2 r3 => cases r3; cases r1; cases r2; exact ⟨_, _, rfl, k.id w h .int⟩
  · exact h.elim
theorem ok_int1 : OkC K (fun xs H Q => (∃ i, xs = [.int i] ∧ Q (.int i) H) ∨ ∃ k, xs = [.bl k] ∧ Q (.int (if k then 1 else 0)) H) intD := fun M H G ds vs φ Q w r h k => by
  unfold intD at h
  split at h
  · cases r with | cons r1 r2 => cases r2; cases r1; exact .inl ⟨_, rfl, k.id w h .int⟩
  · cases r with | cons r1 r2 => cases r2; cases r1; exact .inr ⟨_, rfl, k.id w h .int⟩
  · exact h.elim
theorem one_lst {M : Sto} {H G : Hp} {d : D} {vs : List V} {l : List D} (w : Wd K M H G) (r : RepL K G [d] vs) (e : lstOf M d = some l) : ∃ a us, vs = [.ref a] ∧ SqL K H a us ∧ RepL K G l us := by
  cases r with
  | cons r1 r2 =>
    cases r2
    obtain ⟨a, us, rfl, h1, h2⟩ := lst_rep' w r1 e
    exact ⟨a, us, rfl, h1, h2⟩
theorem ok_sum : OkC K (rSum K) sumD := fun M H G ds vs φ Q w r h k => by
  unfold sumD at h
  split at h
  · obtain ⟨ns, e, h⟩ := h
    obtain ⟨a, us, rfl, h1, h2⟩ := one_lst w r e
    have := repL_ints h2; subst this
    exact ⟨a, ns, rfl, h1, k.id w h .int⟩
  · exact h.elim
theorem ok_all : OkC K (rAll K) allD := fun M H G ds vs φ Q w r h k => by
  unfold allD at h
  split at h
  · obtain ⟨ns, e, h⟩ := h
    obtain ⟨a, us, rfl, h1, h2⟩ := one_lst w r e
    have := repL_bls h2; subst this
    exact ⟨a, ns, rfl, h1, k.id w h .bl⟩
  · exact h.elim
theorem ok_any : OkC K (rAny K) anyD := fun M H G ds vs φ Q w r h k => by
  unfold anyD at h
  split at h
  · obtain ⟨ns, e, h⟩ := h
    obtain ⟨a, us, rfl, h1, h2⟩ := one_lst w r e
    have := repL_bls h2; subst this
    exact ⟨a, ns, rfl, h1, k.id w h .bl⟩
  · exact h.elim
theorem ok_tuple1 : OkC K (fun xs H Q => ∃ p ys, xs = [.ref p] ∧ ((SqL K H p ys ∧ ∀ l, H l = none → Q (.ref l) (upd H l (.tup ys))) ∨ (SqT K H p ys ∧ Q (.ref p) H))) tupleD := fun M H G ds vs φ Q w r h k => by
  unfold tupleD at h
  split at h
  · cases r with
    | cons r1 r2 =>
      cases r2
      obtain ⟨p, us, rfl, h1, r3⟩ := tup_rep w r1 rfl
      exact ⟨p, us, rfl, .inr ⟨h1, k.id w h r1⟩⟩
  · obtain ⟨l, e, h⟩ := h
    obtain ⟨a, us, rfl, h1, r3⟩ := one_lst w r e
    refine ⟨a, us, rfl, .inl ⟨h1, fun l hl => ?_⟩⟩
    have g := grow_upd (o := .tup us) w.sub hl
    exact k.grow w g h (.tup (SqT.of upd_same) (r3.mono g.gsub))
  · exact h.elim
end
def tyN (M : Sto) : D → Option String
  | .non => some "NoneType"
  | .bl _ => some "bool"
  | .int _ => some "int"
  | .str _ => some "str"
  | .tup _ => some "tuple"
  | .tpl _ => some "tuple"
  | .lst _ => some "list"
  | .dic _ => some "dict"
  | .ref p => match M p with
    | some (.lst _) => some "list"
    | some (.dic _) => some "dict"
    | some (.dit _) => some "dict"
    | _ => none
  | _ => none
def isB (t c : String) : Bool := t == c || (t == "bool" && c == "int")
def okTy : List String := ["NoneType", "bool", "int", "str", "tuple", "list", "dict"]
def okCl : List String := ["bool", "int", "str", "tuple", "list"]
theorem kit_isB {K : PySem.W.Frag} : ∀ t ∈ okTy, ∀ c ∈ okCl, PySem.W.kitOne K (.type t) (.type c) = some (isB t c) := by
  have h : ∀ t ∈ okTy, ∀ c ∈ okCl, kitB t c = some (isB t c) := by decide +kernel
  exact fun t ht c hc => kit_ty (h t ht c hc)
theorem tyN_ok {M : Sto} {d : D} {t : String} (e : tyN M d = some t) : t ∈ okTy := by
  unfold tyN at e
  split at e <;> first | (cases e; decide) | (split at e <;> first | (cases e; decide) | cases e) | cases e
theorem tyN_x {K : PySem.W.Frag} {M : Sto} {H G : Hp} {d : D} {v : V} {t : String} (w : Wd K M H G) (r : Rep K G d v) (e : tyN M d = some t) : TyX K H v (.type t) := by
  cases r with
  | non => cases e; exact .base .non
  | bl => cases e; exact .base (.bl _)
  | int => cases e; exact .base (.int _)
  | str => cases e; exact .base (.str _)
  | ty => cases e
  | tup h r =>
    cases e
    rcases w.sub.sqT h with (h | ⟨o, h⟩) | ⟨o, its, n, h1, h2, _⟩
    · exact .base (.tup h)
    · exact .fTuple h
    · exact .kTuple h1 h2
  | tpl h r => cases e; exact .base (.tup (w.sub _ _ h))
  | lst h r =>
    cases e
    rcases w.sub.rd h with h | ⟨o, h⟩
    · exact .base (.lst h)
    · exact .base (.frz h)
  | dic h r => cases e; exact .base (.dK (w.sub _ _ h))
  | dit h r => cases e; exact .base (.dT (w.sub _ _ h))
  | obj h r => cases e
  | lk h r => cases e
  | fn h q => cases e
  | dlk h r => cases e
  | @ref a =>
    have e' : (match M a with | some (.lst _) => some "list" | some (.dic _) => some "dict" | some (.dit _) => some "dict" | _ => none) = some t := e
    split at e'
    · rename_i l q
      cases e'
      obtain ⟨_, vs, h, _⟩ := w.cells _ _ q
      exact .base (.lst h)
    · rename_i l q
      cases e'
      obtain ⟨vs, h, _⟩ := (w.cells _ _ q).2
      exact .base (.dK h)
    · rename_i l q
      cases e'
      obtain ⟨vs, h, _⟩ := (w.cells _ _ q).2
      exact .base (.dT h)
    · cases e'
def isiD (M : Sto) (ds : List D) (φ : PD) : Prop := match ds with
  | [d, .ty c] => c ∈ okCl ∧ ∃ t, tyN M d = some t ∧ φ (.bl (isB t c)) M
  | [d, .tup cs] => ∃ ns : List String, cs = ns.map .ty ∧ (∀ c ∈ ns, c ∈ okCl) ∧ ∃ t, tyN M d = some t ∧ φ (.bl (ns.any fun c => isB t c)) M
  | _ => False
def rIsiS (K : PySem.W.Frag) : List V → Hp → VK → Prop := fun xs H Q => ∃ (x : V) (tp : Addr) (cs : List V) (t : Value) (us : List Value) (b : Bool), xs = [x, .ref tp] ∧ SqT K H tp cs ∧ Paired ClsV cs us ∧ TyX K H x t ∧ PySem.W.kitAny K t us = some b ∧ Q (.bl b) H
theorem call_isiS : CallR X (.builtin "isinstance") (rIsiS X.K) := by
  intro pins s σ H xs us Q I r h
  obtain ⟨x, tp, cs, t, ws, b, rfl, hT, k, ty, e, q⟩ := h
  obtain ⟨u1, u2, rfl, r1, r2⟩ := vals2 r
  cases (show u2 = Value.ref tp from r2)
  obtain ⟨P, Z, p, hx⟩ := kit_of I r1 ty
  obtain ⟨its, rv, ⟨o, h1, h2, n, h3⟩, _⟩ := I.tuple hT
  have e3 := ClsV.all k rv
  subst e3
  obtain ⟨oc, od, dt, sl⟩ := o
  simp only at h2 h3
  subst h2 h3
  exact PySem.W.kia_tup Z I.kIn p h1 e hx fun tk => ⟨.bl b, H, I.tok tk, rfl, q⟩
theorem kit_any {K : PySem.W.Frag} {t : String} (ht : t ∈ okTy) : ∀ {ns : List String}, (∀ c ∈ ns, c ∈ okCl) → PySem.W.kitAny K (.type t) (ns.map Value.type) = some (ns.any fun c => isB t c)
  | [], _ => rfl
  | c :: ns, h => by
    have h1 := kit_isB (K := K) t ht c (h c List.mem_cons_self)
    have ih := kit_any (K := K) ht (ns := ns) fun d hd => h d (List.mem_cons_of_mem _ hd)
    rw [List.map_cons, List.any_cons]
    unfold PySem.W.kitAny
    rw [h1]
    cases isB t c with
    | true => rfl
    | false => exact ih
theorem repL_tys {K : PySem.W.Frag} {G : Hp} : ∀ {ns : List String} {vs : List V}, RepL K G (ns.map D.ty) vs → vs = ns.map V.ty
  | [], _, r => by cases r; rfl
  | n :: ns, _, r => by cases r with | cons r1 r2 => cases r1; rw [repL_tys r2]; rfl
theorem cls_tys : ∀ ns : List String, Paired ClsV (ns.map V.ty) (ns.map Value.type)
  | [] => .nil
  | n :: ns => .cons (.ty n) (cls_tys ns)
theorem ok_isi {K : PySem.W.Frag} : OkC K (fun xs H Q => rIsi K xs H Q ∨ rIsiS K xs H Q) isiD := fun M H G ds vs φ Q w r h k => by
  unfold isiD at h
  split at h
  · obtain ⟨hc, t, e, h⟩ := h
    cases r with
    | cons r1 r2 => cases r2 with
      | cons r2 r3 =>
        cases r3; cases r2
        exact .inl ⟨_, _, _, _, _, rfl, .ty _, tyN_x w r1 e, kit_isB t (tyN_ok e) _ hc, k.id w h .bl⟩
  · obtain ⟨ns, rfl, hc, t, e, h⟩ := h
    cases r with
    | cons r1 r2 => cases r2 with
      | cons r2 r3 =>
        cases r3
        obtain ⟨p, us, rfl, h1, r4⟩ := tup_rep w r2 rfl
        have := repL_tys r4; subst this
        exact .inr ⟨_, p, _, _, _, _, rfl, h1, cls_tys ns, tyN_x w r1 e, kit_any (tyN_ok e) hc, k.id w h .bl⟩
  · exact h.elim
theorem boot_isinstance : bootBuiltins "isinstance" = some (.builtin "isinstance") := by decide +kernel
theorem de_isi {p : Pos} (hm : X.mg "isinstance" = none) (ha : DA X B [a, b] ga) (hg : Gl X "isinstance" := by rfl) (he : starEach [a, b] X.env = (false, eval a X.env) :: starEach [b] X.env := by rfl) (hpl : (backTo pos (starEach [b] X.env)).any (·.1) = false := by rfl) :
    DE X B (.Call (.Name "isinstance" p) [a, b] [] pos) (fun r M Ψ => ga r M fun ds M1 => isiD M1 ds Ψ) :=
  de_callB (CallR_or call_isi call_isiS) ok_isi hm boot_isinstance ha hg (by decide) (by decide) he hpl
end
end Z
namespace Z
open PySem PySem.Spec PyProof.Rows L2

def optK {α : Type} (o : Option α) (φ : α → Prop) : Prop := match o with
  | some d => φ d
  | none => False
theorem optK_some {α : Type} {o : Option α} {φ : α → Prop} (h : optK o φ) : ∃ d, o = some d ∧ φ d := by
  unfold optK at h
  split at h
  · exact ⟨_, rfl, h⟩
  · exact h.elim
theorem optK_of {α : Type} {o : Option α} {φ : α → Prop} {d : α} (e : o = some d) (h : φ d) : optK o φ := by rw [e]; exact h
def ixD (M : Sto) (x y : D) (φ : D → Prop) : Prop := match x, y with
  | .tup l, .int i => optK (atI l i) φ
  | .str z, .int i => z.length ≤ sizeLine ∧ optK (atI z.cps.toList i) fun c => φ (.str ⟨#[c]⟩)
  | x, .int i => optK (lstOf M x) fun l => optK (atI l i) φ
  | _, _ => False
theorem RepL.atI {K : PySem.W.Frag} {G : Hp} {l : List D} {vs : List V} {i : Int} {d : D} (r : RepL K G l vs) (e : L2.atI l i = some d) : ∃ v, L2.atI vs i = some v ∧ Rep K G d v := by
  unfold L2.atI at e ⊢
  rw [← r.length]
  cases q : ixN l.length i with
  | none => rw [q] at e; cases e
  | some j => rw [q] at e; exact r.get e
theorem ok_ix {K : PySem.W.Frag} : Ok2 K (rIx K) ixD := fun M H G x y v u φ Q w rx ry h k => by
  unfold ixD at h
  split at h
  · rename_i l i
    obtain ⟨d, e, h⟩ := optK_some h
    obtain ⟨a, vs, rfl, h1, r1⟩ := tup_rep w rx (l := l) rfl
    cases ry
    obtain ⟨v, e2, p⟩ := r1.atI e
    exact .inr (.inl ⟨a, vs, _, v, rfl, rfl, h1, e2, k _ _ _ _ h (Grow.refl w.sub) p⟩)
  · obtain ⟨z, h⟩ := h
    obtain ⟨c, e, h⟩ := optK_some h
    cases rx; cases ry
    exact .inr (.inr ⟨_, _, c, rfl, rfl, z, e, k _ _ _ _ h (Grow.refl w.sub) .str⟩)
  · obtain ⟨l, e0, h⟩ := optK_some h
    obtain ⟨d, e, h⟩ := optK_some h
    obtain ⟨a, vs, rfl, h1, r1⟩ := lst_rep' w rx e0
    cases ry
    obtain ⟨v, e2, p⟩ := r1.atI e
    exact .inl ⟨a, vs, _, v, rfl, rfl, h1, e2, k _ _ _ _ h (Grow.refl w.sub) p⟩
  · exact h.elim
section
variable {X : Cx} {B : Bs} {pos apos p2 : Pos} {a b e o : Expr} {es : List Expr} {fa fb fo fc : DTE} {ga : DTA} {k : Nat}
theorem de_ix (ha : DE X B a fa) (hb : DE X B b fb) (hs : PlainIx b := by exact fun _ _ => rfl) : DE X B (.Subscript a b pos) (bin2 ixD fa fb) := PE_imp (pe_ix ix_seq ha hb hs) fun σ H Q h => tOp_ok ok_ix h
def liftO (K : PySem.W.Frag) (B : Bs) (f : En → Sto → (Option Int → Sto → Prop) → Prop) : TO := fun σ H Q => ∃ r M G Ψ, Rel K B r M σ H G ∧ f r M Ψ ∧ ∀ b M' H' G', Ψ b M' → Rel K B r M' σ H' G' → Sub G G' → Q b H'
theorem PO_imp {X : Cx} {e : Option Expr} {t t' : TO} (h : PO X e t) (i : ∀ σ H Q, t' σ H Q → t σ H Q) : PO X e t' := ⟨fun pins s σ H Q I q => h.run pins s σ H Q I (i _ _ _ q)⟩
abbrev DO (X : Cx) (B : Bs) (e : Option Expr) (f : En → Sto → (Option Int → Sto → Prop) → Prop) : Prop := PO X e (liftO X.K B f)
theorem do_none : DO X B none (fun _ M Ψ => Ψ none M) := PO_imp po_none fun σ H Q ⟨r, M, G, Ψ, R, h, k⟩ => k _ _ _ _ h R Sub.rfl'
def inK (d : D) (φ : Int → Prop) : Prop := match d with
  | .int i => φ i
  | _ => False
theorem do_some (h : DE X B e fa) : DO X B (some e) (fun r M Ψ => fa r M fun d M1 => inK d fun i => Ψ (some i) M1) := PO_imp (po_some h) fun σ H Q ⟨r, M, G, Ψ, R, h, k⟩ => by
  refine ⟨r, M, G, _, R, h, fun d M1 v H1 G1 q R1 s1 p1 => ?_⟩
  cases p1 with
  | int => exact ⟨_, rfl, k _ _ _ _ q R1 s1⟩
  | _ => exact q.elim
def cutD {α : Type} (xs : List α) (lo hi : Option Int) : List α := (xs.drop (HT.sIx xs.length 0 lo)).take (HT.sIx xs.length xs.length hi - HT.sIx xs.length 0 lo)
def slD (M : Sto) (x : D) (lo hi : Option Int) (φ : D → Prop) : Prop := match x with
  | .str z => z.length ≤ sizeLine ∧ φ (.str (cutS z lo hi))
  | .tup l => φ (.tup (cutD l lo hi))
  | .lk l => φ (.lst (cutD l lo hi))
  | x => optK (lstOf M x) fun l => φ (.lst (cutD l lo hi))
theorem RepL.cut {K : PySem.W.Frag} {G : Hp} {l : List D} {vs : List V} (r : RepL K G l vs) (lo hi : Option Int) : RepL K G (cutD l lo hi) (cutV vs lo hi) := by
  unfold cutD cutV
  rw [← r.length]
  exact (r.drop _).take _
def rSlAll (K : PySem.W.Frag) : V → Option Int → Option Int → Hp → VK → Prop := fun x lo hi H Q => rSlL K x lo hi H Q ∨ rSlA K x lo hi H Q ∨ rSlS x lo hi H Q
theorem cut_whole {α : Type} (l : List α) (lo hi : Option Int) (h : HT.sIx l.length 0 lo = 0 ∧ HT.sIx l.length l.length hi = l.length) : cutD l lo hi = l := by
  unfold cutD
  rw [h.1, h.2]
  simp
theorem sl_ok {K : PySem.W.Frag} {M : Sto} {H G : Hp} {x : D} {v : V} {lo hi : Option Int} {φ : D → Prop} {Q : VK} (w : Wd K M H G) (rx : Rep K G x v) (h : slD M x lo hi φ) (k : ∀ d w H' G', φ d → Grow H G H' G' → Rep K G' d w → Q w H') : rSlAll K v lo hi H Q := by
  unfold slD at h
  split at h
  · cases rx
    exact .inr (.inr ⟨_, rfl, h.1, k _ _ _ _ h.2 (Grow.refl w.sub) .str⟩)
  · rename_i l
    obtain ⟨a, vs, rfl, h1, r1⟩ := tup_rep w rx (l := l) rfl
    have hl := r1.length
    refine .inr (.inl ⟨a, vs, rfl, h1, fun e => ?_, fun e p hp => ?_⟩)
    · rw [← hl] at e
      rw [cut_whole l lo hi e] at h
      exact k _ _ _ _ h (Grow.refl w.sub) rx
    · have g := grow_upd (o := .tup (cutV vs lo hi)) w.sub hp
      exact k _ _ _ _ h g (.tup (SqT.of upd_same) ((r1.cut lo hi).mono g.gsub))
  · rename_i l
    cases rx with
    | @lk _ _ vs h1 r1 =>
      refine .inl ⟨_, vs, rfl, w.sub.sqL h1, fun p hp => ?_⟩
      have g := grow_upd (o := .lst (cutV vs lo hi)) w.sub hp
      exact k _ _ _ _ h g (.lst (.inl upd_same) ((r1.cut lo hi).mono g.gsub))
  · obtain ⟨l, e, h⟩ := optK_some h
    obtain ⟨a, vs, rfl, h1, r1⟩ := lst_rep' w rx e
    refine .inl ⟨a, vs, rfl, h1, fun p hp => ?_⟩
    have g := grow_upd (o := .lst (cutV vs lo hi)) w.sub hp
    exact k _ _ _ _ h g (.lst (.inl upd_same) ((r1.cut lo hi).mono g.gsub))
theorem de_slice {lo hi : Option Expr} {fl fh : En → Sto → (Option Int → Sto → Prop) → Prop} (he : DE X B e fa) (hl : DO X B lo fl) (hu : DO X B hi fh) :
    DE X B (.Subscript e (.Slice lo hi none p2) pos) (fun r M Ψ => fa r M fun x M1 => fl r M1 fun l M2 => fh r M2 fun u M3 => slD M3 x l u fun d => Ψ d M3) :=
  PE_imp (pe_slice (r := rSlAll X.K) (sl_list.or (sl_tupA.or sl_str)) he hl hu) fun σ H Q ⟨r, M, G, Ψ, R, h, k⟩ => by
    refine ⟨r, M, G, _, R, h, fun x M1 v H1 G1 q1 R1 s1 p1 => ?_⟩
    refine ⟨r, M1, G1, _, R1, q1, fun l M2 H2 G2 q2 R2 s2 => ?_⟩
    refine ⟨r, M2, G2, _, R2, q2, fun u M3 H3 G3 q3 R3 s3 => ?_⟩
    exact sl_ok R3.wd (p1.mono (s2.tr s3)) q3 fun d w H' G' f g p => k _ _ _ _ _ f (R3.grow g) (((s1.tr s2).tr s3).tr g.gsub) p
def setD (d : D) (i : Int) (v : D) (M : Sto) (φ : Sto → Prop) : Prop := match d with
  | .ref p => match M p with
    | some (.lst l) => optK (ixN l.length i) fun j => φ (updM M p (.lst (l.set j v)))
    | _ => False
  | _ => False
theorem ds_setix {value : Expr} {p3 : Pos} (hv : DE X B value fc) (ho : DE X B a fa) (hi : DE X B b fb) (hs : swapsWithSole [.Subscript a b p3] value pos.line X.env = pure false := by rfl) (hw : swappedStores [.Subscript a b p3] value X.env = pure none := by rfl)
    (h1 : (assignEach [.Subscript a b p3] X.env).map (·.2) = [assign (.Subscript a b p3) X.env] := by rfl)
    (h2 : ∀ v, assign (.Subscript a b p3) X.env v = (do let ov ← holding [v] (eval a X.env); let iv ← holding [v, ov] (eval b X.env); standAt p3; holding [v, ov, iv] (setItem ov iv v); release [v, ov, iv] []) := by intro _; rfl) :
    DS X B (.Assign [.Subscript a b p3] value pos) (fun E r M => fc r M fun d M1 => fa r M1 fun x M2 => fb r M2 fun y M3 => inK y fun i => setD x i d M3 fun M4 => E.nx r M4) :=
  PS_imp (ps_asg hv (pg_sub ho hi set_list h2) hs hw h1) fun D' σ H h => by
    obtain ⟨r, M, G, E, R, q, k⟩ := EkOk.of h
    refine ⟨r, M, G, _, R, q, fun d M1 v H1 G1 q1 R1 s1 p1 => ?_⟩
    refine ⟨r, M1, G1, _, R1, q1, fun x M2 u H2 G2 q2 R2 s2 p2 => ?_⟩
    refine ⟨r, M2, G2, _, R2, q2, fun y M3 t H3 G3 q3 R3 s3 p3 => ?_⟩
    cases p3 with
    | int =>
      have q4 : setD x _ d M3 _ := q3
      unfold setD at q4
      split at q4
      · split at q4
        · rename_i p l e
          obtain ⟨j, ej, q5⟩ := optK_some q4
          cases p2
          obtain ⟨gp, vs, hp, rl⟩ := R3.wd.cells _ _ e
          obtain ⟨w, s⟩ := cell_put (c := .lst (l.set j d)) (o := .lst (vs.set j v)) R3.wd e ⟨_, upd_same, rl.set ((p1.mono s2).mono s3) j⟩
          exact ⟨_, vs, _, j, rfl, rfl, hp, by rw [← rl.length]; exact ej, k.nx _ _ _ _ _ q5 (R3.go w s) ((s1.tr s2).tr s3)⟩
        · exact q4.elim
      · exact q4.elim
    | _ => exact q3.elim

def signs (x : Str) : List D := x.cps.toList.map fun c => .str ⟨#[c]⟩
theorem di_str {tg : Expr} (he : DE X B e fa) : DI X B tg e (fun r M Ψ => fa r M fun d M1 => match d with | .str x => Ψ (signs x) (fun _ => True) M1 | _ => False) := PI_imp (pi_str he) fun σ H Q ⟨r, M, G, Ψ, R, h, k⟩ => by
  refine ⟨r, M, G, _, R, h, fun d M1 v H1 G1 q R1 s1 p => ?_⟩
  cases p with
  | @str x =>
    refine ⟨x, rfl, k _ _ _ _ _ _ q R1 s1 fun i r2 M2 σ2 H2 G2 R2 t2 _ => ?_⟩
    have hl : (signs x).length = x.cps.size := by unfold signs; rw [List.length_map, Array.length_toList]
    rw [hl]
    refine ⟨fun hi => ⟨hi, fun y H' ⟨e1, c, e2, e3⟩ => ?_⟩, fun hi => hi⟩
    subst e1 e3
    refine ⟨G2, _, Grow.refl R2.wd.sub, ?_, .str⟩
    unfold signs
    rw [List.getElem?_map, Array.getElem?_toList, e2]; rfl
  | _ => exact q.elim
def zipD (xs ys : List D) : List D := (xs.zip ys).map fun p => .tup [p.1, p.2]
theorem yld_pair {K : PySem.W.Frag} {r : En} {M : Sto} {σ : L2.St} {H G : Hp} {T : Addr} {x y : V} {c d : D} (R : Rel K B r M σ H G) (hT : H T = none) (p1 : Rep K G c x) (p2 : Rep K G d y) :
    Grow H G (upd H T (.tup [x, y])) (upd G T (.tup [x, y])) ∧ Rep K (upd G T (.tup [x, y])) (.tup [c, d]) (.ref T) := by
  have g := grow_upd (o := .tup [x, y]) R.wd.sub hT
  exact ⟨g, .tup (SqT.of upd_same) (.cons (p1.mono g.gsub) (.cons (p2.mono g.gsub) .nil))⟩
theorem zip_get {xs ys : List D} {i : Nat} {x y : D} (h1 : xs[i]? = some x) (h2 : ys[i]? = some y) : (zipD xs ys)[i]? = some (.tup [x, y]) := by
  unfold zipD
  rw [List.getElem?_map, List.getElem?_zip_eq_some (z := (x, y)) |>.mpr ⟨h1, h2⟩]; rfl
theorem di_zip {e2 : Expr} {p tpos : Pos} {elts : List Expr} {kk : Nat} (hm : X.mg "zip" = none) (ha : DA X B [e, e2] ga) (hg : Gl X "zip" := by rfl) (hs : starEach [e, e2] X.env = (false, eval e X.env) :: starEach [e2] X.env := by rfl) (hpl : (backTo pos (starEach [e2] X.env)).any (·.1) = false := by rfl) :
    DI X B (.Tuple elts kk tpos) (.Call (.Name "zip" p) [e, e2] [] pos) (fun r M Ψ => ga r M fun ds M1 => match ds with
      | [.tup xs, .tup ys] => Ψ (zipD xs ys) (fun _ => True) M1
      | [x, y] => ∃ xs ys, lstOf M1 x = some xs ∧ lstOf M1 y = some ys ∧ Ψ (zipD xs ys) (fun M => lstOf M x = some xs ∧ lstOf M y = some ys) M1
      | _ => False) := PI_imp (RZ.pi_zipA hg hm ha hs hpl) fun σ H Q ⟨r, M, G, Ψ, R, h, k⟩ => by
  refine ⟨r, M, G, _, R, h, fun ds M1 vs H1 G1 q R1 s1 p => ?_⟩
  split at q
  · rename_i xs ys
    cases p with
    | cons p1 p => cases p with
      | cons p2 p =>
        cases p
        obtain ⟨a, us, rfl, h1, r1⟩ := tup_rep R1.wd p1 (l := xs) rfl
        obtain ⟨b, ws, rfl, h2, r2⟩ := tup_rep R1.wd p2 (l := ys) rfl
        refine ⟨a, b, us, ws, rfl, .inr ⟨h1, h2, k _ _ _ _ _ _ q R1 s1 fun i r3 M3 σ3 H3 G3 R3 t3 _ => ?_⟩⟩
        obtain ⟨a', us', ea, h1', r1'⟩ := tup_rep R3.wd (p1.mono t3) (l := xs) rfl
        obtain ⟨b', ws', eb, h2', r2'⟩ := tup_rep R3.wd (p2.mono t3) (l := ys) rfl
        cases ea; cases eb
        have l1 := r1'.length
        have l2 := r2'.length
        have hz : (zipD xs ys).length = min xs.length ys.length := by unfold zipD; rw [List.length_map, List.length_zip]
        rw [hz]
        refine ⟨fun hi => ?_, fun hi => ⟨us', ws', h1', h2', by omega⟩⟩
        have i1 : i < xs.length := by omega
        have i2 : i < ys.length := by omega
        obtain ⟨x, hx, px⟩ := r1'.get (i := i) (d := xs[i]) (by simp [i1])
        obtain ⟨y, hy, py⟩ := r2'.get (i := i) (d := ys[i]) (by simp [i2])
        refine ⟨⟨us', ws', x, y, h1', h2', hx, hy⟩, fun v H' ⟨T, x', y', e1, hT, e2, f1, f2⟩ => ?_⟩
        subst e1 e2
        have z1 := f1 us' h1'
        have z2 := f2 ws' h2'
        rw [hx] at z1; rw [hy] at z2
        cases z1; cases z2
        obtain ⟨w1, w3⟩ := yld_pair R3 hT px py
        exact ⟨_, _, w1, zip_get (by simp [i1]) (by simp [i2]), w3⟩
  · rename_i x0 y0 _
    obtain ⟨xs, ys, e1, e2, q⟩ := q
    cases p with
    | cons p1 p => cases p with
      | cons p2 p =>
        cases p
        obtain ⟨a, us, rfl, h1, r1⟩ := lst_rep' R1.wd p1 e1
        obtain ⟨b, ws, rfl, h2, r2⟩ := lst_rep' R1.wd p2 e2
        refine ⟨a, b, us, ws, rfl, .inl ⟨h1, h2, k _ _ _ _ _ _ q R1 s1 fun i r3 M3 σ3 H3 G3 R3 t3 hS => ?_⟩⟩
        obtain ⟨a', us', ea, h1', r1'⟩ := lst_rep' R3.wd (p1.mono t3) hS.1
        obtain ⟨b', ws', eb, h2', r2'⟩ := lst_rep' R3.wd (p2.mono t3) hS.2
        cases ea; cases eb
        have l1 := r1'.length
        have l2 := r2'.length
        have hz : (zipD xs ys).length = min xs.length ys.length := by unfold zipD; rw [List.length_map, List.length_zip]
        rw [hz]
        refine ⟨fun hi => ?_, fun hi => ⟨us', ws', h1', h2', by omega⟩⟩
        have i1 : i < xs.length := by omega
        have i2 : i < ys.length := by omega
        obtain ⟨x, hx, px⟩ := r1'.get (i := i) (d := xs[i]) (by simp [i1])
        obtain ⟨y, hy, py⟩ := r2'.get (i := i) (d := ys[i]) (by simp [i2])
        refine ⟨⟨us', ws', x, y, h1', h2', hx, hy⟩, fun v H' ⟨T, x', y', e1, hT, e2, f1, f2⟩ => ?_⟩
        subst e1 e2
        have z1 := f1 us' h1'
        have z2 := f2 ws' h2'
        rw [hx] at z1; rw [hy] at z2
        cases z1; cases z2
        obtain ⟨w1, w3⟩ := yld_pair R3 hT px py
        exact ⟨_, _, w1, zip_get (by simp [i1]) (by simp [i2]), w3⟩
  · exact q.elim
end
end Z
namespace Z
open PySem PySem.Spec PyProof.Rows L2

theorem wipe_get {σ : L2.St} {j : Nat} : ∀ {vs : List Nat}, (wipe σ vs)[j]? = if j ∈ vs then (σ[j]?).map (fun _ => none) else σ[j]?
  | [] => by simp [wipe]
  | v :: vs => by
    unfold wipe
    have ih := @wipe_get σ j vs
    by_cases hv : v = j
    · subst hv
      rw [if_pos List.mem_cons_self]
      by_cases hl : v < (wipe σ vs).length
      · rw [List.getElem?_set_self hl]
        rw [wipe_length] at hl
        rw [List.getElem?_eq_getElem hl]; rfl
      · rw [List.getElem?_eq_none (by simpa using hl)]
        rw [wipe_length] at hl
        rw [List.getElem?_eq_none (by omega)]; rfl
    · rw [List.getElem?_set_ne hv, ih]
      have e : (j ∈ v :: vs) ↔ j ∈ vs := by
        rw [List.mem_cons]
        exact ⟨fun z => z.resolve_left fun q => hv q.symm, .inr⟩
      by_cases hm : j ∈ vs
      · rw [if_pos hm, if_pos (e.mpr hm)]
      · rw [if_neg hm, if_neg fun z => hm (e.mp z)]
theorem wipe_set {σ : L2.St} {i : Nat} {o : Option V} {vs : List Nat} (h : i ∈ vs) : wipe (σ.set i o) vs = wipe σ vs := by
  apply List.ext_getElem?
  intro j
  rw [wipe_get, wipe_get]
  by_cases hj : j ∈ vs
  · rw [if_pos hj, if_pos hj]
    by_cases hij : i = j
    · subst hij
      by_cases hl : i < σ.length
      · rw [List.getElem?_set_self hl, List.getElem?_eq_getElem hl]; rfl
      · rw [List.getElem?_eq_none (by simpa using hl), List.getElem?_eq_none (by omega)]
    · rw [List.getElem?_set_ne hij]
  · rw [if_neg hj, if_neg hj]
    exact List.getElem?_set_ne fun e => hj (by rw [← e]; exact h)
theorem wipe_wipe {σ : L2.St} {vs : List Nat} : wipe (wipe σ vs) vs = wipe σ vs := by
  apply List.ext_getElem?
  intro j
  rw [wipe_get]
  by_cases hj : j ∈ vs
  · rw [if_pos hj, wipe_get, if_pos hj]
    cases σ[j]? <;> rfl
  · rw [if_neg hj]
def wipeD (r : En) : List Nat → En
  | [] => r
  | v :: vs => (wipeD r vs).set v none
theorem Rel.wipe {K : PySem.W.Frag} {B : Bs} {r : En} {M : Sto} {σ : L2.St} {H G : Hp} (R : Rel K B r M σ H G) : ∀ vs : List Nat, Rel K B (wipeD r vs) M (L2.wipe σ vs) H G
  | [] => R
  | v :: vs => (R.wipe vs).unset v none
def TgOk (K : PySem.W.Frag) (vs : List Nat) (g : TG) (as : D → En → (En → Prop) → Prop) : Prop := ∀ (B : Bs) (d : D) (v : V) (r : En) (M : Sto) (σ : L2.St) (H G : Hp) (Ψ : En → Prop) (Q : L2.St → Hp → Prop), Rel K B r M σ H G → Rep K G d v → as d r Ψ →
  (∀ r' σ', Ψ r' → Rel K B r' M σ' H G → L2.wipe σ' vs = L2.wipe σ vs → Q σ' H) → g v σ H Q
def asN (i : Nat) : D → En → (En → Prop) → Prop := fun d r Ψ => Ψ (r.set i (some d))
theorem tg_name {K : PySem.W.Frag} {vs : List Nat} {i : Nat} (h : i ∈ vs) : TgOk K vs (gName i) (asN i) := fun B d v r M σ H G Ψ Q R p a k => k _ _ a (R.set p i) (wipe_set h)
def asT2 (i j : Nat) : D → En → (En → Prop) → Prop := fun d r Ψ => match d with
  | .tup [a, b] => Ψ ((r.set i (some a)).set j (some b))
  | _ => False
theorem tg_tup2 {K : PySem.W.Frag} {vs : List Nat} {i j : Nat} (h : i ∈ vs) (h' : j ∈ vs) : TgOk K vs (gTup K 2 (gCons (gName i) (gCons (gName j) gNil))) (asT2 i j) := fun B d v r M σ H G Ψ Q R p a k => by
  unfold asT2 at a
  split at a
  · rename_i x y
    obtain ⟨t, us, rfl, h1, r1⟩ := tup_rep R.wd p rfl
    cases r1 with
    | cons r1 r2 => cases r2 with
      | cons r2 r3 =>
        cases r3
        exact ⟨t, _, rfl, h1, rfl, _, _, rfl, _, _, rfl, rfl, k _ _ a ((R.set r1 i).set r2 j) (by rw [wipe_set h', wipe_set h])⟩
  · exact a.elim
def liftAny (K : PySem.W.Frag) (f : DTE) : TE := fun σ H Q => ∃ B, lift K B f σ H Q
def liftTAny (K : PySem.W.Frag) (f : DTT) : TT := fun σ H Q => ∃ B, liftT K B f σ H Q
theorem Rel.poke {K : PySem.W.Frag} {B : Bs} {r : En} {M : Sto} {σ : L2.St} {H G : Hp} {p : Addr} {xs ys : List V} (R : Rel K B r M σ H G) (hp : H p = some (.lst xs)) (h0 : B.H p = none) (hM : M p = none) (hG : G p = none) : Rel K B r M σ (upd H p (.lst ys)) G where
  wd := ⟨fun a o e => by rw [upd_ne (by intro z; rw [z, hG] at e; cases e)]; exact R.wd.sub _ _ e, fun a c e => by
    obtain ⟨h1, h2⟩ := R.wd.cells a c e
    exact ⟨h1, h2.move Sub.rfl' fun o z => by rw [upd_ne (by intro q; rw [q, hM] at e; cases e)]; exact z⟩⟩
  len := R.len
  slots := R.slots
  sin := ⟨fun a o h n => by rw [upd_ne (by intro z; rw [z, h0] at h; cases h)]; exact R.sin.keep a o h n, fun a h => by rw [upd_ne (by intro z; rw [z, h0] at h; exact h rfl)]; exact R.sin.stay a h, R.sin.gsub, R.sin.gnew, R.sin.mnew⟩
@[irreducible] def compD (vs : List Nat) (wi : DTI) (as : D → En → (En → Prop) → Prop) (tt : DTT) (fe : DTE) (r : En) (M : Sto) (Φ : List D → Sto → Prop) : Prop := wi r M fun xs S M1 => ∃ Iv : Nat → List D → Sto → Prop, Iv 0 [] M1 ∧ (∀ i acc M, Iv i acc M → S M) ∧
  (∀ i d acc M, xs[i]? = some d → Iv i acc M → as d (wipeD r vs) fun r2 => tt r2 M fun b M3 => if b = true then fe r2 M3 fun y M4 => acc.length < sizeLine ∧ Iv (i + 1) (acc ++ [y]) M4 else Iv (i + 1) acc M3) ∧ ∀ acc M, Iv xs.length acc M → Φ acc M
section
variable {X : Cx} {B : Bs} {pos apos p2 : Pos} {e o : Expr} {es : List Expr} {fa fe : DTE} {tt : DTT} {ga : DTA} {k : Nat}
theorem comp_core {vs : List Nat} {wi : DTI} {g : TG} {as : D → En → (En → Prop) → Prop} (tg : TgOk X.K vs g as) {σ : L2.St} {H : Hp} {Q : VK} {r : En} {M : Sto} {G : Hp} {Φ : List D → Sto → Prop} (R : Rel X.K B r M σ H G) (h : compD vs wi as tt fe r M Φ)
    (hQ : ∀ acc M' H' G' D us, Φ acc M' → Rel X.K B r M' σ H' G' → Sub G G' → H' D = some (.lst us) → RepL X.K G' acc us → B.H D = none → M' D = none → G' D = none → Q (.ref D) H') : tLc (liftI X.K B wi) g (liftTAny X.K tt) (liftAny X.K fe) vs σ H Q := by
  unfold compD at h
  refine ⟨r, M, G, _, R, h, fun xs S M1 J H1 G1 ⟨Iv, i0, hS, turn, fin⟩ R1 s1 y => fun D hD => ?_⟩
  have bD : B.H D = none := by
    cases q : B.H D with
    | none => rfl
    | some o => exact absurd hD (R1.sin.stay D (by rw [q]; simp))
  have gD : G1 D = none := by
    cases q : G1 D with
    | none => rfl
    | some u => rw [R1.wd.sub _ _ q] at hD; cases hD
  have mD := R1.wd.nomem hD
  have R1' : Rel X.K B r M1 σ (upd H1 D (.lst [])) G1 := by
    refine R1.go ⟨fun a o e => by rw [upd_ne (ne_of_none (R1.wd.sub _ _ e) hD)]; exact R1.wd.sub _ _ e, fun a c e => ?_⟩ ⟨fun a o h _ => by rw [upd_ne (ne_of_none h hD)]; exact h, fun a h => ?_, Sub.rfl', fun a h n => absurd n h, fun a h n => absurd n h⟩
    · obtain ⟨h1, h2⟩ := R1.wd.cells a c e
      exact ⟨h1, h2.move Sub.rfl' fun o z => by rw [upd_ne (ne_of_none z hD)]; exact z⟩
    · by_cases z : a = D
      · rw [z, upd_same]; simp
      · rw [upd_ne z]; exact h
  refine ⟨fun i m H => ∃ acc us M G2, Rel X.K B r M σ H G2 ∧ Sub G1 G2 ∧ H D = some (.lst us) ∧ RepL X.K G2 acc us ∧ M D = none ∧ G2 D = none ∧ Iv i acc M ∧ i ≤ xs.length ∧ m = xs.length - i, ⟨_, [], [], M1, G1, R1', Sub.rfl', upd_same, .nil, mD, gD, i0, Nat.zero_le _, rfl⟩, ?_⟩
  rintro i m H2 ⟨acc, us, M2, G2, R2, s2, hL, rl, mD2, gD2, i2, hi, rfl⟩
  obtain ⟨y1, y2⟩ := y i r M2 σ H2 G2 R2 s2 (hS _ _ _ i2)
  by_cases hl : i < xs.length
  · obtain ⟨y3, y4⟩ := y1 hl
    refine .inr ⟨y3, fun H => ∃ acc us M G2, Rel X.K B r M σ H G2 ∧ Sub G1 G2 ∧ H D = some (.lst us) ∧ RepL X.K G2 acc us ∧ M D = none ∧ G2 D = none ∧ Iv (i + 1) acc M, fun H ⟨acc, us, M, G2, a1, a2, a3, a4, a5, a6, a7⟩ => ⟨_, by omega, acc, us, M, G2, a1, a2, a3, a4, a5, a6, a7, hl, rfl⟩, fun x H3 hy => ?_⟩
    -- the item has come: the list is what it was
    obtain ⟨G3, d, g3, hd, p⟩ := y4 x H3 hy
    have R3 := R2.grow g3
    have hL3 := g3.same _ _ hL
    have mem_free : ∀ {H' G' : Hp}, Grow H2 G2 H' G' → G' D = none := fun {H' G'} g => by
      cases q : G' D with
      | none => rfl
      | some u => have z := g.gnew D (by rw [q]; simp) gD2; rw [hL] at z; cases z
    have gD3 := mem_free g3
    -- the base of this turn
    have Rw := R3.wipe vs
    have Ri : Rel X.K ⟨H3, G3, M2⟩ (wipeD r vs) M2 (L2.wipe σ vs) H3 G3 := ⟨Rw.wd, Rw.len, Rw.slots, Since.refl⟩
    have back : ∀ {r' : En} {M' : Sto} {σ' : L2.St} {H' G' : Hp}, Rel X.K ⟨H3, G3, M2⟩ r' M' σ' H' G' → Rel X.K B r M' σ H' G' ∧ Sub G3 G' ∧ H' D = some (.lst us) ∧ M' D = none ∧ G' D = none := fun {r' M' σ' H' G'} R' => by
      refine ⟨R3.go R'.wd R'.sin, R'.sin.gsub, R'.sin.keep D _ hL3 mD2, ?_, ?_⟩
      · cases q : M' D with
        | none => rfl
        | some c => have z := R'.sin.mnew D (by rw [q]; simp) mD2; rw [show (⟨H3, G3, M2⟩ : Bs).H D = H3 D from rfl, hL3] at z; cases z
      · cases q : G' D with
        | none => rfl
        | some c => have z := R'.sin.gnew D (by rw [q]; simp) gD3; rw [show (⟨H3, G3, M2⟩ : Bs).H D = H3 D from rfl, hL3] at z; cases z
    refine tg ⟨H3, G3, M2⟩ d x (wipeD r vs) M2 (L2.wipe σ vs) H3 G3 _ _ Ri p (turn i d acc M2 hd i2) fun r' σ' q' R' hw => ⟨by rw [hw, wipe_wipe], ⟨H3, G3, M2⟩, r', M2, G3, _, R', q', fun b M4 H4 G4 q4 R4 s4 => ?_⟩
    cases b with
    | false =>
      obtain ⟨b1, b2, b3, b4, b5⟩ := back R4
      exact ⟨acc, us, M4, G4, b1, (s2.tr g3.gsub).tr b2, b3, (rl.mono g3.gsub).mono b2, b4, b5, q4⟩
    | true =>
      refine ⟨⟨H3, G3, M2⟩, r', M4, G4, _, R4, q4, fun y M5 v H5 G5 ⟨z5, q5⟩ R5 s5 p5 => ?_⟩
      obtain ⟨b1, b2, b3, b4, b5⟩ := back R5
      have rl5 := (rl.mono g3.gsub).mono b2
      exact ⟨us, b3, by rw [← rl.length]; exact z5, acc ++ [y], us ++ [v], M5, G5, b1.poke b3 bD b4 b5, (s2.tr g3.gsub).tr b2, upd_same, rl5.app (.cons p5 .nil), b4, b5, q5⟩
  · have e : i = xs.length := by omega
    subst e
    exact .inl ⟨y2 (Nat.le_refl _), hQ _ _ _ _ _ _ (fin _ _ i2) R2 (s1.tr s2) hL rl bD mD2 gD2⟩
theorem frz_list {K : PySem.W.Frag} {r : En} {M : Sto} {σ : L2.St} {H G : Hp} {p : Addr} {us : List V} {acc : List D} (R : Rel K B r M σ H G) (hp : H p = some (.lst us)) (rl : RepL K G acc us) (h0 : B.H p = none) (hM : M p = none) (hG : G p = none) :
    Rel K B r M σ H (upd G p (.lst us)) ∧ Sub G (upd G p (.lst us)) ∧ Rep K (upd G p (.lst us)) (.lst acc) (.ref p) := by
  have s : Sub G (upd G p (.lst us)) := fun a o e => by rw [upd_ne (by intro z; rw [z, hG] at e; cases e)]; exact e
  refine ⟨⟨⟨fun a o e => ?_, fun a c e => ?_⟩, R.len, fun i d e => let ⟨v, h1, h2⟩ := R.slots i d e; ⟨v, h1, h2.mono s⟩, ⟨R.sin.keep, R.sin.stay, R.sin.gsub.tr s, fun a h n => ?_, R.sin.mnew⟩⟩, s, .lst (.inl upd_same) (rl.mono s)⟩
  · by_cases z : a = p
    · rw [z, upd_same] at e; cases e; rw [z]; exact hp
    · rw [upd_ne z] at e; exact R.wd.sub _ _ e
  · obtain ⟨h1, h2⟩ := R.wd.cells a c e
    refine ⟨?_, h2.move s fun _ z => z⟩
    rw [upd_ne (by intro z; rw [z, hM] at e; cases e)]; exact h1
  · by_cases z : a = p
    · rw [z]; exact h0
    · rw [upd_ne z] at h; exact R.sin.gnew a h n
theorem mut_list {K : PySem.W.Frag} {r : En} {M : Sto} {σ : L2.St} {H G : Hp} {p : Addr} {us : List V} {acc : List D} (R : Rel K B r M σ H G) (hp : H p = some (.lst us)) (rl : RepL K G acc us) (h0 : B.H p = none) (hM : M p = none) (hG : G p = none) :
    Rel K B r (updM M p (.lst acc)) σ H G := by
  refine ⟨⟨R.wd.sub, fun a c e => ?_⟩, R.len, R.slots, ⟨R.sin.keep, R.sin.stay, R.sin.gsub, R.sin.gnew, fun a h n => ?_⟩⟩
  · by_cases z : a = p
    · subst z; rw [updM_same] at e; cases e; exact ⟨hG, us, hp, rl⟩
    · rw [updM_ne z] at e; exact R.wd.cells a c e
  · by_cases z : a = p
    · rw [z]; exact h0
    · rw [updM_ne z] at h; exact R.sin.mnew a h n
theorem de_lc {elt tg iter : Expr} {ifs : List Expr} {scope : Scope} {own : List (Str × Nat)} {wi : DTI} {g : TG} {as : D → En → (En → Prop) → Prop} (hc : X.calm = true) (hN : X.N.Nodup) (hi : DI X B tg iter wi) (ok : BlkOk X.N X.env.scope scope own) (tgk : TgOk X.K (own.map (·.2)) g as)
    (hg : ∀ (s : Shared) (H : Hp) (C : Addr) (cl : List (Str × Addr)) (fp : List Addr), PG (X.blk s H scope (compEnvC scope cl C X.env) fp) tg g)
    (ht : ∀ (B : Bs) (s : Shared) (H : Hp) (C : Addr) (cl : List (Str × Addr)) (fp : List Addr), PTs (X.blk s H scope (compEnvC scope cl C X.env) fp) ifs (liftT X.K B tt))
    (he : ∀ (B : Bs) (s : Shared) (H : Hp) (C : Addr) (cl : List (Str × Addr)) (fp : List Addr), PE (X.blk s H scope (compEnvC scope cl C X.env) fp) elt (lift X.K B fe)) (hs : ∀ x, foldedSetIterable iter X.env x = pure x := by intro _; rfl) :
    DE X B (.ListComp elt [⟨tg, iter, ifs, 0⟩] scope pos) (fun r M Ψ => compD (own.map (·.2)) wi as tt fe r M fun acc M' => Ψ (.lst acc) M') :=
  PE_imp (pe_lc hc hN hi ok hg (fun s H C cl fp => ⟨fun pins s1 σ H1 Q I ⟨B', q⟩ => (ht B' s H C cl fp).run pins s1 σ H1 Q I q⟩) (fun s H C cl fp => ⟨fun pins s1 σ H1 Q I ⟨B', q⟩ => (he B' s H C cl fp).run pins s1 σ H1 Q I q⟩) hs) fun σ H Q ⟨r, M, G, Ψ, R, h, k⟩ =>
    comp_core tgk R h fun acc M' H' G' D us q R' s hL rl h0 hM hG => by
      obtain ⟨a1, a2, a3⟩ := frz_list R' hL rl h0 hM hG
      exact k _ _ _ _ _ q a1 (s.tr a2) a3
theorem de_lcM {elt tg iter : Expr} {ifs : List Expr} {scope : Scope} {own : List (Str × Nat)} {wi : DTI} {g : TG} {as : D → En → (En → Prop) → Prop} (hc : X.calm = true) (hN : X.N.Nodup) (hi : DI X B tg iter wi) (ok : BlkOk X.N X.env.scope scope own) (tgk : TgOk X.K (own.map (·.2)) g as)
    (hg : ∀ (s : Shared) (H : Hp) (C : Addr) (cl : List (Str × Addr)) (fp : List Addr), PG (X.blk s H scope (compEnvC scope cl C X.env) fp) tg g)
    (ht : ∀ (B : Bs) (s : Shared) (H : Hp) (C : Addr) (cl : List (Str × Addr)) (fp : List Addr), PTs (X.blk s H scope (compEnvC scope cl C X.env) fp) ifs (liftT X.K B tt))
    (he : ∀ (B : Bs) (s : Shared) (H : Hp) (C : Addr) (cl : List (Str × Addr)) (fp : List Addr), PE (X.blk s H scope (compEnvC scope cl C X.env) fp) elt (lift X.K B fe)) (hs : ∀ x, foldedSetIterable iter X.env x = pure x := by intro _; rfl) :
    DE X B (.ListComp elt [⟨tg, iter, ifs, 0⟩] scope pos) (fun r M Ψ => compD (own.map (·.2)) wi as tt fe r M fun acc M' => ∀ p, M' p = none → Ψ (.ref p) (updM M' p (.lst acc))) :=
  PE_imp (pe_lc hc hN hi ok hg (fun s H C cl fp => ⟨fun pins s1 σ H1 Q I ⟨B', q⟩ => (ht B' s H C cl fp).run pins s1 σ H1 Q I q⟩) (fun s H C cl fp => ⟨fun pins s1 σ H1 Q I ⟨B', q⟩ => (he B' s H C cl fp).run pins s1 σ H1 Q I q⟩) hs) fun σ H Q ⟨r, M, G, Ψ, R, h, k⟩ =>
    comp_core tgk R h fun acc M' H' G' D us q R' s hL rl h0 hM hG => k _ _ _ _ _ (q D hM) (mut_list R' hL rl h0 hM hG) s .ref
theorem ds_setLc {i : Nat} {y : Str} {py spos : Pos} {elt tg iter : Expr} {ifs : List Expr} {scope : Scope} {own : List (Str × Nat)} {wi : DTI} {g : TG} {as : D → En → (En → Prop) → Prop} (hc : X.calm = true) (hN : X.N.Nodup) (hsw : swapsWith (.ListComp elt [⟨tg, iter, ifs, 0⟩] scope pos) (some (.Name y py)) spos.line X.env = pure true) (hi : DI X B tg iter wi) (ok : BlkOk X.N X.env.scope scope own) (tgk : TgOk X.K (own.map (·.2)) g as)
    (hg : ∀ (s : Shared) (H : Hp) (C : Addr) (cl : List (Str × Addr)) (fp : List Addr), PG (X.blk s H scope (compEnvC scope cl C X.env) fp) tg g)
    (ht : ∀ (B : Bs) (s : Shared) (H : Hp) (C : Addr) (cl : List (Str × Addr)) (fp : List Addr), PTs (X.blk s H scope (compEnvC scope cl C X.env) fp) ifs (liftT X.K B tt))
    (he : ∀ (B : Bs) (s : Shared) (H : Hp) (C : Addr) (cl : List (Str × Addr)) (fp : List Addr), PE (X.blk s H scope (compEnvC scope cl C X.env) fp) elt (lift X.K B fe)) (hs : ∀ x, foldedSetIterable iter X.env x = pure x := by intro _; rfl) (hy : X.N[i]? = some y := by rfl) (hyl : X.env.scope.names.lookup y = some .local := by rfl) :
    DS X B (.Assign [.Name y py] (.ListComp elt [⟨tg, iter, ifs, 0⟩] scope pos) spos) (fun E r M => compD (own.map (·.2)) wi as tt fe r M fun acc M' => E.nx (r.set i (some (.lst acc))) M') :=
  PS_imp (ps_setLc (tt := liftTAny X.K tt) (te := liftAny X.K fe) hc hN hy hyl hsw hi ok hg (fun s H C cl fp => ⟨fun pins s1 σ H1 Q I ⟨B', q⟩ => (ht B' s H C cl fp).run pins s1 σ H1 Q I q⟩) (fun s H C cl fp => ⟨fun pins s1 σ H1 Q I ⟨B', q⟩ => (he B' s H C cl fp).run pins s1 σ H1 Q I q⟩) hs) fun D' σ H h => by
    obtain ⟨r, M, G, E, R, h, k⟩ := EkOk.of h
    refine comp_core tgk R h fun acc M' H' G' D us q R' s hL rl h0 hM hG => ?_
    obtain ⟨a1, a2, a3⟩ := frz_list R' hL rl h0 hM hG
    exact k.nx _ _ _ _ _ q (a1.set a3 i) (s.tr a2)
theorem dts_nil : PTs X [] (liftT X.K B fun _ M Ψ => Ψ true M) := ⟨fun pins s σ H Q I ⟨r, M, G, Ψ, R, h, k⟩ => pts_nil.run pins s σ H Q I (k _ _ _ _ h R Sub.rfl')⟩
theorem dts_one {c : Expr} {ta : DTT} (h : DT X B c ta) : PTs X [c] (liftT X.K B ta) := pts_one h
end
end Z
namespace Z
open PySem PySem.Spec PyProof.Rows L2

structure OexG (K : PySem.W.Frag) (C : Addr) : Prop where
  base : ∃ (B newId initId : String) (bmB : List Value), ExcBaseFacts B newId initId bmB ∧ PySem.StoreFacts B bmB "object.__setattr__" "object" ∧ PySem.W.excOver K C bmB = true ∧
    ∃ nm q N bs bm sn sub ab col dd k0 k1 k2 k3 k5, K.lookup C = some (excClassObj nm q C N bs bm true sn sub ab col dd k0 k1 k2 k3 k5 newId) ∧ ∀ Y : String, bm.contains (.type Y) = bmB.contains (.type Y)
  sa : PySem.W.findIn K (.ref C) "__setattr__" = some (some (.builtin "object.__setattr__"))
  exC : PySem.W.subIn K (.ref C) (.type "BaseException") = some true
  tyC : PySem.W.typeIn K (.ref C) = some (.type "type")
  kC : PySem.W.keepIn K (.ref C) = true
section
variable {X : Cx} {pins : List (Addr × Obj)} {σ : L2.St} {H : Hp} {s : Shared} {a C dx : Addr} {f : Str} {y : V} {u : Value} {fs : List (Str × V)} {Q : Unit → Shared → Prop} {E : Value → Shared → Prop} {A : Around}
theorem taker_none {K : PySem.W.Frag} (h : PySem.W.findIn K (.ref C) f = some none) : PySem.W.takerIn K C f = some none := by
  unfold PySem.W.takerIn
  rw [h]
  rfl
open PySem.Builtin PySem.Builtin.ObjectAttr in
theorem ostG_new (T : OexG X.K C) (I : L2.Inv X pins σ H s) (e : H a = some (exo a C none)) (hno : PySem.W.findIn X.K (.ref C) f = some none) (ry : RelV y u)
    (h : ∀ dx s', H dx = none → dx ≠ a → L2.Inv X pins σ (upd (upd H dx (exd dx [(f, y)])) a (exo a C (some dx))) s' → Q () s') : wpAny (model X.prog X.w) A (setAttr (.ref a) f u) Q E s := by
  obtain ⟨B0, nw, ini, bmB, FB, SF, ov, nm, q, N, bs, bm, sn, sub, ab, col, dd, k0, k1, k2, k3, k5, hC, hbm⟩ := T.base
  obtain ⟨t1, ho⟩ := exo_at I.hok e
  have cl0 : PySem.W.clsIn X.K C = some { name := nm, bases := bs, mro := .ref C :: bm, ns := N, qualname := q, hasDict := true, slotNames := sn, subclasses := sub, abstract := ab, collection := col, hasDel := false } := by
    unfold PySem.W.clsIn
    rw [hC] <;> rfl
  have lk := PySem.W.looks_clsIn (M := model X.prog X.w) I.kIn cl0
  obtain ⟨hp, gn, dr, tk, os⟩ := s
  have J := (⟨ho, rfl, rfl, trivial⟩ : PySem.W.InstAt hp a { cls := .ref C, dict := none, data := .fields #[.ref t1, .none, .none, .none, .bool false, .none] } C none)
  have as_ : a ≠ hp.objs.size := Nat.ne_of_lt (Heap.lt_size ho)
  refine PySem.W.set_plain I.kIn J T.sa (PySem.W.osa_openX SF I.kIn J ov (taker_none hno) fun b => ?_)
  dsimp only
  unfold storeInOwnDict ownDictForStores
  repeat (first | with_reducible refine PySem.HandSPX.store_in_new ?_ ?_ | with_reducible refine wpAny_loadPart_at ho ?_ | with_reducible refine lk.at ?_ | wp_step)
  · exact ⟨_, #[], _, (Heap.get?_update_ne _ _ _ _ as_.symm).trans (Heap.get?_push_at rfl rfl), rfl, fun en he => absurd he (by simp), fun _ => rfl⟩
  intro h' tk' hn sb
  have gd : ∀ b o, b ≠ a → hp.get? b = some o → h'.get? b = some o := fun b o hb eo => (sb.2 b (Nat.ne_of_lt (Heap.lt_size eo))).trans ((Heap.get?_update_ne _ _ _ _ hb).trans (Heap.get?_push_of_some _ eo))
  have ga : h'.get? a = some { cls := .ref C, dict := some hp.objs.size, data := .fields #[.ref t1, .none, .none, .none, .bool false, .none] } := (sb.2 a as_).trans (Heap.get?_update_self _ (Heap.get?_push_of_some _ ho) rfl)
  -- between: the dict is there, the exception does not know of it
  obtain ⟨hm, em⟩ : ∃ hm : Heap, hm = h'.update a fun _ => { cls := .ref C, dict := none, data := .fields #[.ref t1, .none, .none, .none, .bool false, .none] } := ⟨_, rfl⟩
  have ma : hm.get? a = some { cls := .ref C, dict := none, data := .fields #[.ref t1, .none, .none, .none, .bool false, .none] } := by
    rw [em]
    exact Heap.get?_update_self _ ga rfl
  have mb : ∀ b, b ≠ a → hm.get? b = h'.get? b := fun b hb => by
    rw [em]
    exact Heap.get?_update_ne _ _ _ _ hb
  have nm1 : hm.Ns1 hp.objs.size (fun z => if z = f then some u else none) := hn.at fun o eo => (mb _ as_.symm).trans eo
  have I1 : L2.Inv X pins σ (upd H hp.objs.size (exd hp.objs.size [(f, y)])) ⟨hm, gn, dr, tk', os⟩ := I.laid (t' := tk') (fun b o eo => by
    by_cases hb : b = a
    · subst hb
      rw [ma, ← ho]
      exact eo
    · exact (mb b hb).trans (gd b o hb eo)) (Nat.le_refl _) (exd_ok nm1 (relO_put (fs := []) ry fun _ => True.intro))
  have e1 : upd H hp.objs.size (exd hp.objs.size [(f, y)]) a = some (exo a C none) := by rw [upd_ne as_, e]
  have I2 := I1.write (t' := tk') (h' := h') (x := a) (e := a) (o := exo a C (some hp.objs.size)) (by rw [e1]; exact True.intro) (.inl rfl) (fun b o hb eo => (mb b hb).symm.trans eo) ⟨_, ga⟩ (exo_ok ga)
  exact h _ _ (I.hok.fresh (Nat.le_refl _)) as_.symm I2
open PySem.Builtin PySem.Builtin.ObjectAttr in
theorem ostG_old (T : OexG X.K C) (I : L2.Inv X pins σ H s) (e : H a = some (exo a C (some dx))) (ed : H dx = some (exd dx fs)) (hl : fs.length ≤ 900) (hno : PySem.W.findIn X.K (.ref C) f = some none) (ry : RelV y u)
    (h : ∀ s', L2.Inv X pins σ (upd H dx (exd dx ((f, y) :: fs))) s' → Q () s') : wpAny (model X.prog X.w) A (setAttr (.ref a) f u) Q E s := by
  obtain ⟨B0, nw, ini, bmB, FB, SF, ov, nm, q, N, bs, bm, sn, sub, ab, col, dd, k0, k1, k2, k3, k5, hC, hbm⟩ := T.base
  obtain ⟨t1, ho⟩ := exo_at I.hok e
  obtain ⟨mA, hns, rel⟩ := exd_at I.hok ed
  have hw := within_of rel
  have cl0 : PySem.W.clsIn X.K C = some { name := nm, bases := bs, mro := .ref C :: bm, ns := N, qualname := q, hasDict := true, slotNames := sn, subclasses := sub, abstract := ab, collection := col, hasDel := false } := by
    unfold PySem.W.clsIn
    rw [hC] <;> rfl
  have lk := PySem.W.looks_clsIn (M := model X.prog X.w) I.kIn cl0
  obtain ⟨hp, gn, dr, tk, os⟩ := s
  obtain ⟨oD, _, _, hoD, _, _⟩ := hns.count hw
  have J := (⟨ho, rfl, rfl, hoD⟩ : PySem.W.InstAt hp a { cls := .ref C, dict := some dx, data := .fields #[.ref t1, .none, .none, .none, .bool false, .none] } C (some oD))
  refine PySem.W.set_plain I.kIn J T.sa (PySem.W.osa_openX SF I.kIn J ov (taker_none hno) fun b => ?_)
  dsimp only
  unfold storeInOwnDict ownDictForStores
  repeat (first | with_reducible refine PySem.OEX.store_in_old hns hw (by rw [List.length_map]; omega) ?_ | with_reducible refine wpAny_loadPart_at ho ?_ | with_reducible refine lk.at ?_ | wp_step)
  intro h' tk' hn sb
  obtain ⟨o2, e2⟩ : ∃ o, h'.get? dx = some o := by
    obtain ⟨o, _, _, z, _⟩ := hn
    exact ⟨o, z⟩
  exact h _ (I.write (t' := tk') (x := dx) (e := dx) (o := exd dx ((f, y) :: fs)) (by rw [ed]; exact True.intro) (.inl rfl) (fun b o hb eo => (sb.2 b hb).trans eo) ⟨o2, e2⟩ (exd_ok hn (relO_put ry rel)))
end
def tOstG (K : PySem.W.Frag) (f : Str) (to te : TE) : TS := fun D σ H => te σ H fun y H1 => to σ H1 fun x H2 => ∃ a C : Addr, x = .ref a ∧ OexG K C ∧ PySem.W.findIn K (.ref C) f = some none ∧ ((H2 a = some (exo a C none) ∧ ∀ dx, H2 dx = none → dx ≠ a → D.nx σ (upd (upd H2 dx (exd dx [(f, y)])) a (exo a C (some dx)))) ∨
    ∃ (dx : Addr) (fs : List (Str × V)), H2 a = some (exo a C (some dx)) ∧ H2 dx = some (exd dx fs) ∧ fs.length ≤ 900 ∧ D.nx σ (upd H2 dx (exd dx ((f, y) :: fs))))
theorem ps_ostG {X : Cx} {o e : Expr} {to te : TE} {f : Str} {p' pos : Pos} (ho : PE X o to) (he : PE X e te) (hs : swapsWith e (some (.Attribute o f p')) pos.line X.env = pure false := by rfl) : PS X (.Assign [.Attribute o f p'] e pos) (tOstG X.K f to te) :=
  ⟨fun pins s σ H D I h => plainObj_wpAny_Assign_Attribute (thn (he.run pins s σ H _ I h) fun u1 s1 ⟨y, H1, I1, ry, q1⟩ => thn (ho.run pins s1 σ H1 _ I1 q1) fun u2 s2 ⟨x, H2, I2, rx, a, C, ex, T, hno, q⟩ => by
    subst ex
    obtain rfl : u2 = Value.ref a := rx
    exact q.elim (fun ⟨ea, z⟩ => ostG_new T I2 ea hno ry fun dx s' n ne J => ⟨σ, _, J, z dx n ne⟩) fun ⟨dx, fs, ea, ed, hl, z⟩ => ostG_old T I2 ea ed hl hno ry fun s' J => ⟨σ, _, J, z⟩) hs⟩
def spX (C : Addr) (n : Nat) (g : List V → List (Str × V)) : Sp := fun vs H Q _ => vs.length = n + 1 ∧ ∃ a ws, vs = .ref a :: ws ∧ H a = some (exo a C none) ∧
  ∀ dx H', H dx = none → dx ≠ a → H' a = some (exo a C (some dx)) → H' dx = some (exd dx (g ws)) → (∀ b, b ≠ a → b ≠ dx → H' b = H b) → Q .non H'
section
variable {P : Program} {w : World} {K : PySem.W.Frag} {mg : Str → Option Value} {base : Heap}
def tag2 (t fl : Str) : List V → List (Str × V) := fun ws => match ws with
  | [v] => [(fl, v), ("tag", .str t)]
  | _ => []
def tag1 (t : Str) : List V → List (Str × V) := fun _ => [("tag", .str t)]
theorem x1_ok {x qual : Str} {st : Stmt} {f C : Addr} {fd : FuncData} {t fl : Str} {j : Nat} {p1 p2 p3 p4 p5 p6 p7 p8 : Pos} {sc : Scope} (F : Fun K x qual st f fd) (T : OexG K C) (n1 : PySem.W.findIn K (.ref C) "tag" = some none) (n2 : PySem.W.findIn K (.ref C) fl = some none)
    (hb : defBody st = [.Assign [.Attribute (.Name "self" p1) "tag" p2] (.Constant (.str t) j p3) p4, .Assign [.Attribute (.Name "self" p5) fl p6] (.Name fl p7) p8]) (hs : defScope st = sc) (S : FnScope ["self", fl] ["self", fl] sc) (hv : sc.names.lookup ("self" : Str) = some .local) (hv2 : sc.names.lookup fl = some .local) (hd : (fl == ("__debug__" : Str)) = false)
    (hc : (fl == ("__classdict__" : Str)) = false) : FnOk P w K mg base (L2.CX P w) 1 f fd ["self", fl] (spX C 1 (tag2 t fl)) := by
  subst hs
  refine F.okX S (fun vs H Q E h => h.1) fun cdv A outer s H vs Q E hr h => ?_
  obtain ⟨hl, a, ws, rfl, ha, k⟩ := h
  obtain ⟨v, rfl⟩ : ∃ v, ws = [v] := by
    match ws, hl with
    | [v], _ => exact ⟨v, rfl⟩
  rw [hb]
  refine ⟨_, pss_cons (ps_ostG (pe_var (i := 0) rfl (.inl hv)) pe_str) (pss_one (ps_ostG (pe_var (i := 0) rfl (.inl hv)) (pe_var (i := 1) rfl (.inl hv2) hd hc))), ?_⟩
  refine ⟨_, rfl, a, C, rfl, T, n1, .inl ⟨ha, fun dx hdx hne => ?_⟩⟩
  refine ⟨_, rfl, _, rfl, a, C, rfl, T, n2, .inr ⟨dx, _, upd_same, by rw [upd_ne hne, upd_same], Nat.le_of_ble_eq_true rfl, ?_⟩⟩
  refine k dx _ hdx hne (by rw [upd_ne hne.symm, upd_same]) upd_same fun b h1 h2 => ?_
  rw [upd_ne h2, upd_ne h1, upd_ne h2]
theorem x0_ok {x qual : Str} {st : Stmt} {f C : Addr} {fd : FuncData} {t : Str} {j : Nat} {p1 p2 p3 p4 : Pos} {sc : Scope} (F : Fun K x qual st f fd) (T : OexG K C) (n1 : PySem.W.findIn K (.ref C) "tag" = some none)
    (hb : defBody st = [.Assign [.Attribute (.Name "self" p1) "tag" p2] (.Constant (.str t) j p3) p4]) (hs : defScope st = sc) (S : FnScope ["self"] ["self"] sc) (hv : sc.names.lookup ("self" : Str) = some .local) : FnOk P w K mg base (L2.CX P w) 1 f fd ["self"] (spX C 0 (tag1 t)) := by
  subst hs
  refine F.okX S (fun vs H Q E h => h.1) fun cdv A outer s H vs Q E hr h => ?_
  obtain ⟨hl, a, ws, rfl, ha, k⟩ := h
  rw [hb]
  refine ⟨_, pss_one (ps_ostG (pe_var (i := 0) rfl (.inl hv)) pe_str), ?_⟩
  refine ⟨_, rfl, a, C, rfl, T, n1, .inl ⟨ha, fun dx hdx hne => ?_⟩⟩
  refine k dx _ hdx hne upd_same (by rw [upd_ne hne, upd_same]; rfl) fun b h1 h2 => ?_
  rw [upd_ne h1, upd_ne h2]
structure Xf (P : Program) (w : World) (K : PySem.W.Frag) (mg : Str → Option Value) (base : Heap) (x : Str) (C : Addr) (n : Nat) (g : List V → List (Str × V)) : Prop where
  cls : OexG K C
  mgC : mg x = some (.ref C)
  ex : ∃ fI fd ps, PySem.W.findIn K (.ref C) "__init__" = some (some (.ref fI)) ∧ PySem.W.typeIn K (.ref fI) = some (.type "function") ∧ FnOk P w K mg base (L2.CX P w) 1 fI fd ps (spX C n g) ∧ Binds K fd ps [] ∧ ps.length = n + 1
end
section
variable {X : Cx} {B : Bs} {Ξ : XD → En → Sto → Prop} {pos p : Pos} {e : Expr} {es : List Expr} {ga : DTA} {k n : Nat} {x : Str} {C : Addr} {g : List V → List (Str × V)}
theorem mk_x (XF : Xf X.prog X.w X.K X.mg X.base x C n g) (hr : Room k X.A) (hk : 2 ≤ k) {pins : List (Addr × Obj)} {s : Shared} {σ : L2.St} {H : Hp} {Q : XK} {us : List Value} {vs : List V} (I : L2.Inv X pins σ H s) (rv : Vals vs us) (hl : vs.length = n) (hn : n ≤ 1000)
    (q : ∀ d H', H d = none → H' d = some (.xd (g vs)) → (∀ b, b ≠ d → H' b = H b) → Q (.ref C) (some d) H') : wpAny (model X.prog X.w) X.A (call (.ref C) us) (MkP X pins σ Q) X.xe s := by
  obtain ⟨fI, fd, ps, iC, tI, FO, hb, lp⟩ := XF.ex
  have T := XF.cls
  obtain ⟨B0, nw, ini, bmB, FB, SF, ov, nm, qq, N, bs, bm, sn, sub, ab, col, dd, k0, k1, k2, k3, k5, hC, hbm⟩ := T.base
  obtain ⟨hp, gn, dr, tk, os⟩ := s
  generalize ea : hp.objs.size + 1 = a
  have hsz : hp.objs.size ≤ a := by omega
  have na : H a = none := I.hok.fresh hsz
  have kk : ∀ b o, hp.get? b = some o → ((hp.push (PySem.W.kdv_tup us)).push (PySem.HandSPX.excO C hp.objs.size)).get? b = some o := fun b o z => Heap.get?_push_of_some _ (Heap.get?_push_of_some _ z)
  have hget : ((hp.push (PySem.W.kdv_tup us)).push (PySem.HandSPX.excO C hp.objs.size)).get? a = some (PySem.HandSPX.excO C hp.objs.size) := by rw [← ea]; heap_get
  have I2 : L2.Inv X pins σ (upd H a (exo a C none)) ⟨(hp.push (PySem.W.kdv_tup us)).push (PySem.HandSPX.excO C hp.objs.size), gn, dr, tk, os⟩ := I.laid (t' := tk) kk hsz (exo_ok hget)
  have r2 : Vals (V.ref a :: vs) (Value.ref a :: us) := .cons rfl rv
  have hul : (Value.ref a :: us ++ []).length = ps.length := by rw [List.append_nil, ← r2.length, lp, List.length_cons, hl]
  have hus : us.length ≤ sizeLine := by rw [← rv.length, hl, sizeLine_eq]; omega
  have hsp : spX C n g (V.ref a :: vs) (upd H a (exo a C none)) (fun v H2 => v = .non ∧ ∃ d, H d = none ∧ H2 a = some (exo a C (some d)) ∧ H2 d = some (exd d (g vs)) ∧ Q (.ref C) (some d) (upd (del H2 a) d (.xd (g vs)))) (fun _ _ _ => False) := by
    refine ⟨by rw [List.length_cons, hl], a, vs, rfl, upd_same, fun dx H' h1 h2 h3 h4 h5 => ⟨rfl, dx, ?_, h3, h4, q dx _ ?_ upd_same fun b hb => ?_⟩⟩
    · rw [upd_ne h2] at h1; exact h1
    · rw [upd_ne h2] at h1; exact h1
    · rw [upd_ne hb]
      by_cases z : b = a
      · rw [z, del_same, na]
      · rw [del_ne z, h5 b z hb, upd_ne z]
  refine wpAny_call (PySem.HandSPX.call_own FB hbm (I.kIn _ _ hC) (PySem.W.looks_findIn I.kIn iC) (fun self => PySem.W.bind_fn I.kIn self tI) hus ?_)
  rw [ea]
  refine codeAny_mono (FO.run _ X.stack _ _ ⟨Value.ref a :: us, []⟩ (Value.ref a :: us) _ _ (fun _ _ _ => False) ((hr.mono hk).make C us []) (I2.env0.make C us []) ?_ r2 hsp) fun r s' hq' => ?_
  · have z := hb ⟨(hp.push (PySem.W.kdv_tup us)).push (PySem.HandSPX.excO C hp.objs.size), gn, dr, tk, os⟩ (Value.ref a :: us) I2.kIn hul
    rw [List.append_nil] at z
    exact z
  · cases r with
    | error er =>
      obtain ⟨_, _, _, _, _, _, _, _, _, _, _, _, z⟩ := hq'
      exact z.elim
    | ok fl =>
      cases fl with
      | ret u =>
        obtain ⟨v, H2, os2, bare2, un2, hok2, rv2, ev, d, hd, e1, e2, q2⟩ := hq'
        subst ev
        obtain ⟨h2, g2, d2, t2, os'⟩ := s'
        exact ⟨rv2, mk_end (raises_own T.exC T.tyC) I hsz kk un2 hok2 os2 bare2 e1 e2 hd q2⟩
      | next => exact False.elim hq'
      | brk => exact False.elim hq'
      | cont => exact False.elim hq'
theorem ds_raise1 {t fl : Str} {p2 : Pos} (XF : Xf X.prog X.w X.K X.mg X.base x C 1 (tag2 t fl)) (hr : Room k X.A) (z : Zx X B Ξ) (hc : X.calm = true) (ha : DA X B [e] ga) (hk : 2 ≤ k := by decide) (hg : Gl X x := by rfl) (hdb : (x == ("__debug__" : Str)) = false := by decide)
    (he : starEach [e] X.env = (false, eval e X.env) :: starEach [] X.env := by rfl) : DS X B (.Raise (some (.Call (.Name x p) [e] [] p2)) none pos) (fun E r M => ga r M fun ds M1 => match ds with | [d] => Ξ (C, [(fl, d), ("tag", .str t)]) r M1 | _ => False) := by
  have mk : PMk X (.Call (.Name x p) [e] [] p2) (fun σ H Q => liftA X.K B ga σ H fun vs H1 => vs.length = 1 ∧ ∀ d H', H1 d = none → H' d = some (.xd (tag2 t fl vs)) → (∀ b, b ≠ d → H' b = H1 b) → Q (.ref C) (some d) H') := by
    intro pins s σ H Q I h
    refine wpAny_Call_Name_kw (ld_glob I hg XF.mgC ?_ hdb)
    exact PySem.W.callWith_K (h₀ := X.base) I.ok.mod.kin XF.cls.kC (thn (ha.run p2 pins s σ H _ I h) fun us s1 ⟨vs, H1, I1, rv, l1, q1⟩ => ⟨I1.kIn, mk_x XF hr hk I1 rv l1 (by omega) q1⟩) he rfl
  refine PS_imp (ps_raise hc z.tk mk) fun D' σ H h => ?_
  obtain ⟨r, M, G, E, R, q, _⟩ := EkOk.of h
  refine ⟨r, M, G, _, R, q, fun ds M1 vs H1 G1 q1 R1 s1 p1 => ?_⟩
  split at q1
  · rename_i d
    cases p1 with
    | @cons _ _ v _ p1 p2 =>
      cases p2
      refine ⟨rfl, fun dd H' hd h' hb => ⟨(C, [(fl, d), ("tag", .str t)]), r, M1, G1, q1, ?_, rfl, dd, _, rfl, h', .cons p1 (.cons .str .nil)⟩⟩
      have e : H' = upd H1 dd (.xd (tag2 t fl [v])) := by
        funext b
        by_cases z : b = dd
        · rw [z, upd_same]; exact h'
        · rw [upd_ne z]; exact hb b z
      rw [e]
      refine R1.go ⟨fun a o y => by rw [upd_ne (ne_of_none (R1.wd.sub _ _ y) hd)]; exact R1.wd.sub _ _ y, fun a c y => ?_⟩ ⟨fun a o y _ => by rw [upd_ne (ne_of_none y hd)]; exact y, fun a y => ?_, Sub.rfl', fun a y n => absurd n y, fun a y n => absurd n y⟩
      · obtain ⟨h1, h2⟩ := R1.wd.cells a c y
        exact ⟨h1, h2.move Sub.rfl' fun o z => by rw [upd_ne (ne_of_none z hd)]; exact z⟩
      · by_cases z : a = dd
        · rw [z, upd_same]; simp
        · rw [upd_ne z]; exact y
  · exact q1.elim
theorem ds_raise0 {t : Str} {p2 : Pos} (XF : Xf X.prog X.w X.K X.mg X.base x C 0 (tag1 t)) (hr : Room k X.A) (z : Zx X B Ξ) (hc : X.calm = true) (hk : 2 ≤ k := by decide) (hg : Gl X x := by rfl) (hdb : (x == ("__debug__" : Str)) = false := by decide) :
    DS X B (.Raise (some (.Call (.Name x p) [] [] p2)) none pos) (fun E r M => Ξ (C, [("tag", .str t)]) r M) := by
  have mk : PMk X (.Call (.Name x p) [] [] p2) (fun σ H Q => ∀ d H', H d = none → H' d = some (.xd (tag1 t [])) → (∀ b, b ≠ d → H' b = H b) → Q (.ref C) (some d) H') := by
    intro pins s σ H Q I h
    refine wpAny_Call_Name_kw (ld_glob I hg XF.mgC ?_ hdb)
    exact PySem.W.callWith_K0 I.kIn XF.cls.kC (mk_x (us := []) (vs := []) XF hr hk I .nil rfl (by omega) h)
  refine PS_imp (ps_raise hc z.tk mk) fun D' σ H h => ?_
  obtain ⟨r, M, G, E, R, q, _⟩ := EkOk.of h
  intro dd H' hd h' hb
  refine ⟨(C, [("tag", .str t)]), r, M, G, q, ?_, rfl, dd, _, rfl, h', .cons .str .nil⟩
  have e : H' = upd H dd (.xd (tag1 t [])) := by
    funext b
    by_cases z : b = dd
    · rw [z, upd_same]; exact h'
    · rw [upd_ne z]; exact hb b z
  rw [e]
  refine R.go ⟨fun a o y => by rw [upd_ne (ne_of_none (R.wd.sub _ _ y) hd)]; exact R.wd.sub _ _ y, fun a c y => ?_⟩ ⟨fun a o y _ => by rw [upd_ne (ne_of_none y hd)]; exact y, fun a y => ?_, Sub.rfl', fun a y n => absurd n y, fun a y n => absurd n y⟩
  · obtain ⟨h1, h2⟩ := R.wd.cells a c y
    exact ⟨h1, h2.move Sub.rfl' fun o z => by rw [upd_ne (ne_of_none z hd)]; exact z⟩
  · by_cases z : a = dd
    · rw [z, upd_same]; simp
    · rw [upd_ne z]; exact y
end
end Z
namespace Z
open PySem PySem.Spec PyProof.Rows L2

def objOf (M : Sto) : D → Option (Addr × List (Str × D))
  | .obj C fs => some (C, fs)
  | .ref p => match M p with
    | some (.ins C fs) => some (C, fs)
    | _ => none
  | _ => none
theorem objOf_ref {M : Sto} {a C : Addr} {fs : List (Str × D)} (e : objOf M (.ref a) = some (C, fs)) : M a = some (.ins C fs) := by
  have e' : (match M a with | some (.ins C fs) => some (C, fs) | _ => none) = some (C, fs) := e
  split at e'
  · rename_i l' q
    cases e'
    exact q
  · cases e'
theorem obj_rep {K : PySem.W.Frag} {M : Sto} {H G : Hp} {d : D} {v : V} {C : Addr} {fs : List (Str × D)} (w : Wd K M H G) (r : Rep K G d v) (e : objOf M d = some (C, fs)) : ∃ a dx fvs, v = .ref a ∧ H a = some (.ins C dx fvs) ∧ RepF K G fs fvs := by
  cases r with
  | obj h r => cases e; exact ⟨_, _, _, rfl, w.sub _ _ h, r⟩
  | ref =>
    obtain ⟨_, dx, fvs, h, r⟩ := w.cells _ _ (objOf_ref e)
    exact ⟨_, dx, fvs, rfl, h, r⟩
  | _ => cases e
def isO (C : Addr) (M : Sto) (x : D) (φ : List (Str × D) → Prop) : Prop := match objOf M x with
  | some (C', fs) => C' = C ∧ φ fs
  | none => False
theorem isO_some {C : Addr} {M : Sto} {x : D} {φ : List (Str × D) → Prop} (h : isO C M x φ) : ∃ fs, objOf M x = some (C, fs) ∧ φ fs := by
  unfold isO at h
  split at h
  · rename_i C' fs e
    obtain ⟨rfl, h⟩ := h
    exact ⟨fs, e, h⟩
  · exact h.elim
theorem RepF.put {K : PySem.W.Frag} {G : Hp} {f : Str} {d : D} {v : V} (p : Rep K G d v) : ∀ {fs : List (Str × D)} {gs : List (Str × V)}, RepF K G fs gs → RepF K G (putD f d fs) (putF f v gs)
  | _, _, .nil => .cons p .nil
  | _, _, .cons (f := g) q r => by
    unfold putD putF
    by_cases e : g = f
    · rw [if_pos e, if_pos e]; exact .cons p r
    · rw [if_neg e, if_neg e]; exact .cons q (r.put p)
section
variable {X : Cx} {B : Bs} {Ξ : XD → En → Sto → Prop} {k j n : Nat} {c : Ct} {pos apos p p' : Pos} {e o : Expr} {es : List Expr} {kws : List Keyword} {ga gk : DTA} {fa fo : DTE} {C f : Addr} {fn m x : Str} {ks : List Str} {g : List D → List D → List D} {bs : List (Nat × List Str × (List D → List D → List D))}
theorem de_fld (T : Cls X.K C) (nf : NoAttr X.K C fn) (ho : DE X B o fo) (hb : attributeBase o fn X.env (eval o X.env) = eval o X.env := by rfl) :
    DE X B (.Attribute o fn pos) (fun r M Ψ => fo r M fun x M1 => isO C M1 x fun fs => optK (fs.lookup fn) fun d => Ψ d M1) := PE_imp (pe_fld ho hb) fun σ H Q ⟨r, M, G, Ψ, R, h, k⟩ => by
  refine ⟨r, M, G, _, R, h, fun x M1 v H1 G1 q R1 s1 p1 => ?_⟩
  obtain ⟨fs, e1, q⟩ := isO_some q
  obtain ⟨d, e2, q⟩ := optK_some q
  obtain ⟨a, dx, fvs, rfl, h1, r1⟩ := obj_rep R1.wd p1 e1
  obtain ⟨u, e3, p3⟩ := r1.look e2
  exact ⟨a, C, dx, fvs, u, rfl, h1, T, nf, e3, k _ _ _ _ _ q R1 s1 p3⟩
theorem ds_fld {value : Expr} (T : Cls X.K C) (nf : NoAttr X.K C fn) (hv : DE X B value fa) (ho : DE X B o fo) (hs : swapsWith value (some (.Attribute o fn p')) pos.line X.env = pure false := by rfl) :
    DS X B (.Assign [.Attribute o fn p'] value pos) (fun E r M => fa r M fun d M1 => fo r M1 fun x M2 => match x with
      | .ref a => match M2 a with
        | some (.ins C' fs) => C' = C ∧ fs.length < 1000 ∧ E.nx r (updM M2 a (.ins C (putD fn d fs)))
        | _ => False
      | _ => False) := PS_imp (ps_fld ho hv hs) fun D' σ H h => by
  obtain ⟨r, M, G, E, R, q, k⟩ := EkOk.of h
  refine ⟨r, M, G, _, R, q, fun d M1 v H1 G1 q1 R1 s1 p1 => ?_⟩
  refine ⟨r, M1, G1, _, R1, q1, fun x M2 u H2 G2 q2 R2 s2 p2 => ?_⟩
  split at q2
  · split at q2
    · rename_i a _ C' fs em
      obtain ⟨rfl, hl, q2⟩ := q2
      cases p2
      obtain ⟨ga, dx, fvs, h1, r1⟩ := R2.wd.cells _ _ em
      obtain ⟨w, s⟩ := cell_put (c := .ins C' (putD fn d fs)) (o := .ins C' dx (putF fn v fvs)) R2.wd em ⟨dx, _, upd_same, r1.put (p1.mono s2)⟩
      exact ⟨a, C', dx, fvs, rfl, h1, T, nf, by rw [← r1.length]; exact hl, k.nx _ _ _ _ _ q2 (R2.go w s) (s1.tr s2)⟩
    · exact q2.elim
  · exact q2.elim
structure Mf (P : Program) (w : World) (K : PySem.W.Frag) (mg : Str → Option Value) (base : Heap) (C : Addr) (m : Str) (k : Nat) (c : Ct) (bs : List (Nat × List Str × (List D → List D → List D))) : Prop where
  ex : ∃ f fd ps, Meth K C m f ∧ FnOk P w K mg base (L2.CX P w) k f fd ps (spC K ps.length c) ∧ ∀ b ∈ bs, BindD K fd ps b
theorem de_meth {pl : Sem Bool} (F : Mf X.prog X.w X.K X.mg X.base C m j c bs) (T : Cls X.K C) (hr : Room k X.A) (z : Zx X B Ξ) (hb : (n + 1, [], g) ∈ bs) (ho : DE X B o fo) (ha : DA X B (e :: es) ga) (hj : j ≤ k := by decide)
    (hst : starEach (e :: es) X.env = (false, eval e X.env) :: starEach es X.env := by rfl) (hpl : (backTo pos (starEach es X.env)).any (·.1) = false := by rfl)
    (ht : eval (.Call (.Attribute o m apos) (e :: es) [] pos) X.env = (do let ov ← eval o X.env; standAt apos.atName; let (f, first) ← holding [ov] (getMethod ov m pl); callWith pos f first (backTo pos (starEach (e :: es) X.env)) (backToKw pos (keywordEach [] X.env))) := by rfl) :
    DE X B (.Call (.Attribute o m apos) (e :: es) [] pos) (fun r M Ψ => fo r M fun x M1 => isO C M1 x fun fs => fs.lookup m = none ∧ ga r M1 fun ds M2 => callD (n + 1) 0 g c Ξ (x :: ds) [] r M2 Ψ) := by
  obtain ⟨f, fd, ps, mt, FO, hbs⟩ := F.ex
  refine ⟨fun pins s σ H Q I ⟨r, M, G, Ψ, R, h, kk⟩ => ?_⟩
  refine PySem.W.methodCall_KW (pl := pl) (thn (ho.run pins s σ H _ I ⟨r, M, G, _, R, h, fun x M1 v H1 G1 q R1 s1 p1 => (⟨x, M1, G1, q, R1, s1, p1⟩ : ∃ x M1 G1, (isO C M1 x fun fs => fs.lookup m = none ∧ ga r M1 fun ds M2 => callD (n + 1) 0 g c Ξ (x :: ds) [] r M2 Ψ) ∧ Rel X.K B r M1 σ H1 G1 ∧ Sub G G1 ∧ Rep X.K G1 x v)⟩) fun u s1 ⟨v, H1, I1, rx, x, M1, G1, q, R1, t1, p1⟩ => ?_) ht
  obtain ⟨fs, e1, l, q⟩ := isO_some q
  obtain ⟨a, dx, fvs, rfl, h1, r1⟩ := obj_rep R1.wd p1 e1
  obtain rfl : u = Value.ref a := rx
  refine getmeth_ok I1 h1 T mt (r1.none l) ?_
  refine PySem.W.callWith_K (first := [.ref a]) (h₀ := X.base) I.ok.mod.kin mt.kp (thn (ha.run pos pins s1 σ H1 _ I1 ⟨r, M1, G1, _, R1, q, fun ds M2 vs H2 G2 q R2 s2 p2 => (⟨ds, M2, G2, q, R2, s2, p2⟩ : ∃ ds M2 G2, callD (n + 1) 0 g c Ξ (x :: ds) [] r M2 Ψ ∧ Rel X.K B r M2 σ H2 G2 ∧ Sub G1 G2 ∧ RepL X.K G2 ds vs)⟩) fun us s2 ⟨vs, H2, I2, rv, ds, M2, G2, ⟨l1, _, q⟩, R2, t2, p2⟩ => ⟨I2.kIn, ?_⟩) hst hpl
  exact run_c (us := .ref a :: us) (vs := .ref a :: vs) (zs := []) (ws := []) (dz := []) FO (hr.mono hj) (hbs _ hb) z.tk I2 R2 (.cons rfl rv) .nil (.cons (p1.mono t2) p2) .nil l1 rfl q fun d M' v H' G' q R' s' p' => kk _ _ _ _ _ q R' ((t1.tr t2).tr s') p'
theorem de_meth0 {pl : Sem Bool} (F : Mf X.prog X.w X.K X.mg X.base C m j c bs) (T : Cls X.K C) (hr : Room k X.A) (z : Zx X B Ξ) (hb : (1, [], g) ∈ bs) (ho : DE X B o fo) (hj : j ≤ k := by decide)
    (ht : eval (.Call (.Attribute o m apos) [] [] pos) X.env = (do let ov ← eval o X.env; standAt apos.atName; let (f, first) ← holding [ov] (getMethod ov m pl); callWith pos f first (backTo pos (starEach [] X.env)) (backToKw pos (keywordEach [] X.env))) := by rfl) :
    DE X B (.Call (.Attribute o m apos) [] [] pos) (fun r M Ψ => fo r M fun x M1 => isO C M1 x fun fs => fs.lookup m = none ∧ callD 1 0 g c Ξ [x] [] r M1 Ψ) := by
  obtain ⟨f, fd, ps, mt, FO, hbs⟩ := F.ex
  refine ⟨fun pins s σ H Q I ⟨r, M, G, Ψ, R, h, kk⟩ => ?_⟩
  refine PySem.W.methodCall_KW (pl := pl) (thn (ho.run pins s σ H _ I ⟨r, M, G, _, R, h, fun x M1 v H1 G1 q R1 s1 p1 => (⟨x, M1, G1, q, R1, s1, p1⟩ : ∃ x M1 G1, (isO C M1 x fun fs => fs.lookup m = none ∧ callD 1 0 g c Ξ [x] [] r M1 Ψ) ∧ Rel X.K B r M1 σ H1 G1 ∧ Sub G G1 ∧ Rep X.K G1 x v)⟩) fun u s1 ⟨v, H1, I1, rx, x, M1, G1, q, R1, t1, p1⟩ => ?_) ht
  obtain ⟨fs, e1, l, l1, _, q⟩ := isO_some q
  obtain ⟨a, dx, fvs, rfl, h1, r1⟩ := obj_rep R1.wd p1 e1
  obtain rfl : u = Value.ref a := rx
  refine getmeth_ok I1 h1 T mt (r1.none l) ?_
  refine PySem.W.callWith_K0 (first := [.ref a]) I1.kIn mt.kp ?_
  exact run_c (us := [.ref a]) (vs := [.ref a]) (zs := []) (ws := []) (dz := []) FO (hr.mono hj) (hbs _ hb) z.tk I1 R1 (.cons rfl .nil) .nil (.cons p1 .nil) .nil l1 rfl q fun d M' v H' G' q R' s' p' => kk _ _ _ _ _ q R' (t1.tr s') p'
end
end Z
namespace Z
open PySem PySem.Spec PyProof.Rows L2

abbrev noX : XD → Sto → Prop := fun _ _ => False
theorem Env0_at {P : Program} {w : World} {K : PySem.W.Frag} {mg : Str → Option Value} {base : Heap} {A A' : Around} {outer : List Env} {s : Shared} {H : Hp} (e : Env0 P w K mg base A outer s H) (h : A'.frames = A.frames) : Env0 P w K mg base A' outer s H :=
  ⟨h.trans e.frames, e.mod, e.bs, e.bsz, e.funs, e.frf, e.hok, e.bare⟩
section
variable {X : Cx} {B : Bs} {Ξ : XD → En → Sto → Prop} {k j n : Nat} {c : Ct} {pos apos p p' p1 p2 : Pos} {a b e o : Expr} {es : List Expr} {kws : List Keyword} {ga gk : DTA} {fa fb fo : DTE} {C : Addr} {fn m x : Str} {ks : List Str} {g : List D → List D → List D} {bs : List (Nat × List Str × (List D → List D → List D))}
theorem run_n {f : Addr} {fd : FuncData} {ps : List Str} {pins : List (Addr × Obj)} {M : Sto} {σ : L2.St} {H G : Hp} {s : Shared} {Q : VK} {vs : List V} {us : List Value} {ds : List D} {Ψ : D → Sto → Prop} {A : Around} {E : Value → Shared → Prop}
    (F : FnOk X.prog X.w X.K X.mg X.base (L2.CX X.prog X.w) k f fd ps (spC X.K ps.length c)) (hr : Room k A) (hA : A.frames = X.A.frames) (hb : BindD X.K fd ps (ds.length, [], fun ds _ => ds)) (I : L2.Inv X pins σ H s) (w : Wd X.K M H G) (hv : Vals vs us) (rv : RepL X.K G ds vs)
    (hc : c ds M Ψ noX) (hQ : Post X.K H G M Ψ Q) : wpAny (model X.prog X.w) A (call (.ref f) us) (EP X pins σ Q) E s := by
  obtain ⟨hl, gl, gV, kb, rel⟩ := hb
  have rr := rel G ds vs [] [] rv .nil
  have u1 : us.length = ds.length := by rw [← hv.length, ← rv.length]
  have hsp : spC X.K ps.length c (gV vs []) H Q (fun _ _ _ => False) := ⟨by rw [← rr.length]; exact hl ds [] rfl rfl, _, G, M, Ψ, _, w, rr, hc, fun d M' v H' G' q w s p => hQ d M' v H' G' q w s p, fun _ _ _ _ _ _ z _ _ _ => z.elim⟩
  refine wpAny_call (codeAny_mono (F.run A X.stack s H ⟨us, []⟩ (gl us []) (gV vs []) Q _ hr (Env0_at I.env0 hA) (kb.to s us [] I.kIn u1 rfl) (kb.rel hv .nil) hsp) fun fr s' hq => ?_)
  cases fr with
  | error e =>
    obtain ⟨_, _, _, _, _, _, _, _, _, _, _, _, z⟩ := hq
    exact z.elim
  | ok fl =>
    cases fl with
    | ret u => exact I.after hq
    | next => exact False.elim hq
    | brk => exact False.elim hq
    | cont => exact False.elim hq
theorem cmp_back {pins : List (Addr × Obj)} {σ : L2.St} {Q : VK} {v : Value} {s' : Shared} (h : EP X pins σ Q v s') : PySem.W.CmpBack (EP X pins σ Q) v s' := by
  obtain ⟨x, H', I', r, q⟩ := id h
  cases x with
  | non => cases r; exact h
  | bl _ => cases r; exact h
  | int _ => obtain ⟨_, rfl⟩ := r; exact h
  | str _ => obtain ⟨_, rfl⟩ := r; exact h
  | byt _ => obtain ⟨_, rfl⟩ := r; exact h
  | flt _ => obtain ⟨_, rfl⟩ := r; exact h
  | ref _ => cases r; exact h
  | ty _ => cases r; exact h
def OkP2 (K : PySem.W.Frag) (r : R2) (g : Sto → D → D → PD → Prop) : Prop := ∀ (M : Sto) (H G : Hp) (x y : D) (v u : V) (φ : PD) (Q : VK), Wd K M H G → Rep K G x v → Rep K G y u → g M x y φ → Post K H G M φ Q → r v u H Q
theorem tOp_okP {r : R2} {g : Sto → D → D → PD → Prop} (ok : OkP2 X.K r g) {σ : L2.St} {H : Hp} {Q : VK} (h : lift X.K B (fun r M Ψ => fa r M fun x M1 => fb r M1 fun y M2 => g M2 x y Ψ) σ H Q) : tOp r (lift X.K B fa) (lift X.K B fb) σ H Q := by
  obtain ⟨r, M, G, Ψ, R, h, k⟩ := h
  refine ⟨r, M, G, _, R, h, fun d M1 v H1 G1 q1 R1 s1 p1 => ?_⟩
  refine ⟨r, M1, G1, _, R1, q1, fun y M2 u H2 G2 q2 R2 s2 p2 => ?_⟩
  exact ok M2 H2 G2 _ _ _ _ _ _ R2.wd (p1.mono s2) p2 q2 fun d M' w H' G' f w' s' p => k _ _ _ _ _ f (R2.go w' s') ((s1.tr s2).tr s'.gsub) p
theorem bind2 {fd : FuncData} {ps : List Str} {K : PySem.W.Frag} (h : BindD K fd ps (Z.pos 2)) {x y : D} : BindD K fd ps ([x, y].length, [], fun ds _ => ds) := h
def eqR (K : PySem.W.Frag) (C : Addr) (M : Sto) (y : D) : Prop := (∃ fs, objOf M y = some (C, fs)) ∨ ∃ t, tyN M y = some t ∧ PySem.W.notFirst K C (.type t) = true
def rOwnE (K : PySem.W.Frag) (C : Addr) (c : Ct) (neg : Bool) : R2 := fun v u H Q => ∃ a dx fs t, v = .ref a ∧ H a = some (.ins C dx fs) ∧ (TyX K H u t ∨ ∃ b dy gs, u = .ref b ∧ H b = some (.ins C dy gs) ∧ t = .ref C) ∧ PySem.W.notFirst K C t = true ∧
  ∃ M G x y, Wd K M H G ∧ Rep K G x v ∧ Rep K G y u ∧ c [x, y] M (fun d M' => ∃ b, d = .bl b ∧ ∀ H' G', Wd K M' H' G' → Since H G M M' H' G' → Q (.bl (if neg then !b else b)) H') noX
def ownE (K : PySem.W.Frag) (C : Addr) (c : Ct) (neg : Bool) (M : Sto) (x y : D) (φ : PD) : Prop := isO C M x fun _ => eqR K C M y ∧ c [x, y] M (fun d M' => blD (fun b => φ (.bl (if neg then !b else b)) M') d) noX
def Mono (c : Ct) : Prop := ∀ ds M (Ψ Ψ' : PD) (Ξ Ξ' : XD → Sto → Prop), (∀ d M', Ψ d M' → Ψ' d M') → (∀ x M', Ξ x M' → Ξ' x M') → c ds M Ψ Ξ → c ds M Ψ' Ξ'
theorem looks_ty {pins : List (Addr × Obj)} {σ : L2.St} {H : Hp} {s : Shared} {v : V} {u t : Value} (I : L2.Inv X pins σ H s) (r : RelV v u) (h : TyX X.K H v t ∨ ∃ b dy gs, v = .ref b ∧ H b = some (.ins C dy gs) ∧ t = .ref C) (M : Model) : PySem.W.Looks M s.heap (typeOf u) t := by
  rcases h with h | ⟨b, dy, gs, rfl, hb, rfl⟩
  · obtain ⟨P, k, p, _⟩ := kit_of I r h
    exact k.ty M _ I.kIn p
  · cases r
    obtain ⟨mB, J, _⟩ := ins_get I.hok hb
    obtain ⟨od, J, _⟩ := J.look
    exact J.type
end
section
variable {prog : Program} {w : World} {A : Around} {E : Value → Shared → Prop} {s : Shared} {K : PySem.W.Frag} {x C L f : Addr} {h₀ : Heap} {m : Str → Option Value} {ox : Obj} {od : Option Obj} {b tb : Value}
end
section
variable {X : Cx} {B : Bs} {Ξ : XD → En → Sto → Prop} {k j n : Nat} {c : Ct} {pos apos p p' p1 p2 : Pos} {a b e o : Expr} {es : List Expr} {kws : List Keyword} {ga gk : DTA} {fa fb fo : DTE} {C : Addr} {fn m x : Str} {ks : List Str} {g : List D → List D → List D} {bs : List (Nat × List Str × (List D → List D → List D))}
theorem ok_ownE {K : PySem.W.Frag} {C : Addr} {c : Ct} {neg : Bool} (hc : Mono c) : OkP2 K (rOwnE K C c neg) (ownE K C c neg) := fun M H G x y v u φ Q w rx ry h k => by
  obtain ⟨fs, e1, h, hc'⟩ := isO_some h
  obtain ⟨a, dx, fvs, rfl, h1, _⟩ := obj_rep w rx e1
  have fin : c [x, y] M (fun d M' => ∃ b, d = .bl b ∧ ∀ H' G', Wd K M' H' G' → Since H G M M' H' G' → Q (.bl (if neg then !b else b)) H') noX := hc _ _ _ _ _ _ (fun d M' z => by
    unfold blD at z
    cases d with
    | bl b => exact ⟨b, rfl, fun H' G' w' s' => k _ _ _ _ _ z w' s' .bl⟩
    | _ => exact z.elim) (fun _ _ z => z) hc'
  rcases h with ⟨gs, e2⟩ | ⟨t, e2, e3⟩
  · obtain ⟨b, dy, gvs, rfl, h2, _⟩ := obj_rep w ry e2
    exact ⟨a, dx, _, .ref C, rfl, h1, .inr ⟨b, dy, _, rfl, h2, rfl⟩, by simp [PySem.W.notFirst], M, G, x, y, w, rx, ry, fin⟩
  · exact ⟨a, dx, _, .type t, rfl, h1, .inl (tyN_x w ry e2), e3, M, G, x, y, w, rx, ry, fin⟩
theorem op_ownEq (F : Mf X.prog X.w X.K X.mg X.base C "__eq__" j c bs) (hr : Room k X.A) (hb : Z.pos 2 ∈ bs) (hj : j ≤ k := by decide) : OpR X (compareOp .Eq) (rOwnE X.K C c false) := by
  obtain ⟨f, fd, ps, mt, FO, hbs⟩ := F.ex
  intro pins s σ H x y v u Q I rx ry h
  obtain ⟨a, dx, fs, t, rfl, h1, h2, h3, M, G, x', y', w, r1, r2, hq⟩ := h
  cases rx
  obtain ⟨mA, J, _⟩ := ins_get I.hok h1
  obtain ⟨od, J, _⟩ := J.look
  obtain ⟨m, hF⟩ := I.fr
  show wpAny _ _ (richCompare .Eq _ _) _ _ _
  refine PySem.W.cmp_K (op := .Eq) hr.units0 hF I.ok.mod.kin J (looks_ty I ry h2 _) h3 mt.at_ mt.fn ?_
  refine wpAny_mono (run_n (Q := Q) (vs := [.ref a, y]) FO (hr.mono hj) rfl (bind2 (hbs _ hb)) I w (.cons rfl (.cons ry .nil)) (.cons r1 (.cons r2 .nil)) hq fun d M' v' H' G' z w' s' p => ?_) (fun _ _ z => cmp_back z) fun _ _ z => z
  obtain ⟨b, rfl, z⟩ := z
  cases p
  exact z H' G' w' s'
theorem de_ownEq (F : Mf X.prog X.w X.K X.mg X.base C "__eq__" j c bs) (hc : Mono c) (hr : Room k X.A) (hb : Z.pos 2 ∈ bs) (ha : DE X B a fa) (hb' : DE X B b fb) (hm : behindInMarks .Eq b = false := by rfl) (hj : j ≤ k := by decide) :
    DE X B (.Compare a [.Eq] [b] pos) (fun r M Ψ => fa r M fun x M1 => fb r M1 fun y M2 => ownE X.K C c false M2 x y Ψ) := PE_imp (pe_cmpR (op_ownEq F hr hb hj) ha hb' hm) fun σ H Q h => tOp_okP (ok_ownE hc) h
end
end Z
namespace Z
open PySem PySem.Spec PyProof.Rows L2

structure Cf (P : Program) (w : World) (K : PySem.W.Frag) (mg : Str → Option Value) (base : Heap) (x : Str) (C : Addr) (k : Nat) (c : Ct) (bs : List (Nat × List Str × (List D → List D → List D))) : Prop where
  gl : mg x = some (.ref C)
  ex : ∃ f fd ps, Mk K C f ∧ FnOk P w K mg base (L2.CX P w) k f fd ps (spC K ps.length c) ∧ ∀ b ∈ bs, BindD K fd ps b
theorem own_new {K : PySem.W.Frag} {M : Sto} {H G : Hp} {p : Addr} {o : HO} (w : Wd K M H G) (hp : H p = none) : Wd K M (upd H p o) G ∧ Since H G M M (upd H p o) G := by
  refine ⟨⟨fun a u h => ?_, fun a u h => ?_⟩, ⟨fun a u h n => ?_, fun a h => ?_, Sub.rfl', fun a h n => absurd n h, fun a h n => absurd n h⟩⟩
  · rw [upd_ne (ne_of_none (w.sub _ _ h) hp)]; exact w.sub _ _ h
  · obtain ⟨h1, h2⟩ := w.cells a u h
    exact ⟨h1, h2.move Sub.rfl' fun o z => by rw [upd_ne (ne_of_none z hp)]; exact z⟩
  · rw [upd_ne (ne_of_none h hp)]; exact h
  · by_cases e : a = p
    · subst e; rw [upd_same]; simp
    · rw [upd_ne e]; exact h
theorem ins_frz {K : PySem.W.Frag} {M : Sto} {H G H' G' : Hp} {p C : Addr} {fs : List (Str × D)} (wd : Wd K M H G) (hp : H p = none) (w : Wd K (updM M p (.ins C fs)) H' G') (s : Since H G M (updM M p (.ins C fs)) H' G') :
    Wd K M H' (frz1 p H' G') ∧ Since H G M M H' (frz1 p H' G') ∧ Sub G' (frz1 p H' G') ∧ Rep K (frz1 p H' G') (.obj C fs) (.ref p) := by
  obtain ⟨gp, dx, fvs, h1, r1⟩ := w.cells p _ updM_same
  have mp := wd.nomem hp
  have sg : Sub G' (frz1 p H' G') := fun a o e => by
    unfold frz1
    rw [if_neg (by intro z; rw [z, gp] at e; cases e)]; exact e
  refine ⟨⟨fun a o e => ?_, fun a u e => ?_⟩, ⟨s.keep, s.stay, s.gsub.tr sg, fun a e n => ?_, fun a e n => absurd n e⟩, sg, .obj (dx := dx) (by unfold frz1; rw [if_pos rfl]; exact h1) (r1.mono sg)⟩
  · unfold frz1 at e
    split at e
    · exact e
    · exact w.sub _ _ e
  · have z : a ≠ p := fun z => by rw [z, mp] at e; cases e
    obtain ⟨h2, h3⟩ := w.cells a u (by rw [updM_ne z]; exact e)
    exact ⟨by unfold frz1; rw [if_neg z]; exact h2, h3.move sg fun _ z => z⟩
  · unfold frz1 at e
    split at e
    · rename_i z; rw [z]; exact hp
    · exact s.gnew a e n
section
variable {X : Cx} {B : Bs} {Ξ : XD → En → Sto → Prop} {k j n : Nat} {c : Ct} {pos apos p p' : Pos} {e o : Expr} {es : List Expr} {kws : List Keyword} {ga gk : DTA} {fa fo : DTE} {C : Addr} {fn m x : Str} {ks : List Str} {g : List D → List D → List D} {bs : List (Nat × List Str × (List D → List D → List D))}
theorem run_mk {pins : List (Addr × Obj)} {r : En} {M : Sto} {σ : L2.St} {H G : Hp} {s : Shared} {Q : VK} {vs zs : List V} {us ws : List Value} {ds dz : List D} {b : Nat × List Str × (List D → List D → List D)} {f : Addr} {fd : FuncData} {ps : List Str} {Ψ : Addr → D → Sto → Prop} {Ξ' : Addr → XD → Sto → Prop}
    (mk : Mk X.K C f) (F : FnOk X.prog X.w X.K X.mg X.base (L2.CX X.prog X.w) k f fd ps (spC X.K ps.length c)) (hr : Room (k + 1) X.A) (hb : BindD X.K fd ps b) (tk : Takes X (wOf X.K B Ξ)) (I : L2.Inv X pins σ H s) (R : Rel X.K B r M σ H G)
    (hv : Vals vs us) (hz : Vals zs ws) (rv : RepL X.K G ds vs) (rz : RepL X.K G dz zs) (l1 : ds.length + 1 = b.1) (l2 : dz.length = b.2.1.length)
    (hc : ∀ p, M p = none → c (b.2.2 (.ref p :: ds) dz) (updM M p (.ins C [])) (Ψ p) (Ξ' p))
    (hQ : ∀ p d M' v H' G', H p = none → Ψ p d M' → Wd X.K M' H' G' → Since H G M M' H' G' → Rep X.K G' d v → v = .non ∧ Q (.ref p) H')
    (hE : ∀ p x M' H' G', H p = none → Ξ' p x M' → Wd X.K M' H' G' → Since H G M M' H' G' → ∃ M2 G2, Sub G' G2 ∧ Ξ x r M2 ∧ Wd X.K M2 H' G2 ∧ Since H G M M2 H' G2) :
    wpAny (model X.prog X.w) X.A (call (.ref C) us (b.2.1.zip ws)) (EP X pins σ Q) X.xe s := by
  obtain ⟨hl, gl, gV, kb, rel⟩ := hb
  have hx : H (s.heap.objs.size + 1) = none := I.hok.fresh (Nat.le_succ _)
  have hd : H s.heap.objs.size = none := I.hok.fresh (Nat.le_refl _)
  have hne : s.heap.objs.size + 1 ≠ s.heap.objs.size := (Nat.ne_of_lt (Nat.lt_succ_self _)).symm
  obtain ⟨w1, s1⟩ := own_new (o := .own (s.heap.objs.size + 1)) R.wd hd
  obtain ⟨w2, s2⟩ := cell_new (p := s.heap.objs.size + 1) (c := .ins C []) (o := .ins C s.heap.objs.size []) w1 (by rw [upd_ne hne]; exact hx) ⟨_, _, upd_same, .nil⟩
  have t2 := Since.trans w1 s1 s2
  have I2 := Inv.made (C := C) I
  have rr := rel G (.ref (s.heap.objs.size + 1) :: ds) (.ref (s.heap.objs.size + 1) :: vs) dz zs (.cons .ref rv) rz
  have l3 := hl (.ref (s.heap.objs.size + 1) :: ds) dz (by simpa using l1) l2
  have r1 : Vals (V.ref (s.heap.objs.size + 1) :: vs) (Value.ref (s.heap.objs.size + 1) :: us) := .cons rfl hv
  have u1 : (Value.ref (s.heap.objs.size + 1) :: us).length = b.1 := by rw [← r1.length, List.length_cons, ← rv.length]; exact l1
  have u2 : ws.length = b.2.1.length := by rw [← hz.length, ← rz.length]; exact l2
  have hsp : spC X.K ps.length c (gV (.ref (s.heap.objs.size + 1) :: vs) zs) (upd (upd H s.heap.objs.size (.own (s.heap.objs.size + 1))) (s.heap.objs.size + 1) (.ins C s.heap.objs.size [])) (fun v H2 => v = .non ∧ Q (.ref (s.heap.objs.size + 1)) H2) (fun cls d H' => wOf X.K B Ξ cls d σ H') := by
    refine ⟨by rw [← rr.length]; exact l3, _, G, _, _, _, w2, rr, hc _ (R.wd.nomem hx), fun d M' v H' G' q w s p => hQ _ d M' v H' G' hx q w (Since.trans w2 t2 s) p, fun x M' H' G' cls dd q w s rx => ?_⟩
    obtain ⟨M2, G2, g2, q2, w3, s3⟩ := hE _ x M' H' G' hx q w (Since.trans w2 t2 s)
    obtain ⟨e, dd', fvs, e1, e2, r2⟩ := rx
    exact ⟨x, r, M2, G2, q2, R.go w3 s3, e, dd', fvs, e1, e2, r2.mono g2⟩
  refine wpAny_call (make_map (f := f) I.kIn mk.makes mk.init (beq_iff_eq.mp mk.fn) (codeAny_mono (F.run _ X.stack _ _ ⟨Value.ref (s.heap.objs.size + 1) :: us, b.2.1.zip ws⟩ (gl (Value.ref (s.heap.objs.size + 1) :: us) ws) _ _ _ (hr.make C us (b.2.1.zip ws))
    (I2.env0.make C us (b.2.1.zip ws)) (kb.to _ (Value.ref (s.heap.objs.size + 1) :: us) ws I2.kIn u1 u2) (kb.rel r1 hz) hsp) fun r s' hq' => ?_))
  cases r with
  | error e => exact tk e s' (XE.of_call I2 (fun cls d H' h => h) hq')
  | ok fl =>
    cases fl with
    | ret u =>
      obtain ⟨v, H', I3, rv, ev, q3⟩ := I2.after hq'
      subst ev
      exact ⟨rv, ⟨V.ref (s.heap.objs.size + 1), H', I3, rfl, q3⟩⟩
    | next => exact False.elim hq'
    | brk => exact False.elim hq'
    | cont => exact False.elim hq'
def mkD (n m : Nat) (g : List D → List D → List D) (C : Addr) (c : Ct) (Ξ : XD → En → Sto → Prop) (ds dz : List D) (r : En) (M : Sto) (Ψ : PD) : Prop := ds.length = n ∧ dz.length = m ∧ ∀ p, M p = none → c (g (.ref p :: ds) dz) (updM M p (.ins C []))
  (fun d M' => d = .non ∧ ∃ fs, M' = updM M p (.ins C fs) ∧ Ψ (.obj C fs) M) (fun x M' => ∃ fs, M' = updM M p (.ins C fs) ∧ Ξ x r M)
theorem run_mkD {pins : List (Addr × Obj)} {r : En} {M : Sto} {σ : L2.St} {H G : Hp} {s : Shared} {Q : VK} {vs zs : List V} {us ws : List Value} {ds dz : List D} {b : Nat × List Str × (List D → List D → List D)} {f : Addr} {fd : FuncData} {ps : List Str} {Ψ : PD}
    (mk : Mk X.K C f) (F : FnOk X.prog X.w X.K X.mg X.base (L2.CX X.prog X.w) k f fd ps (spC X.K ps.length c)) (hr : Room (k + 1) X.A) (hb : BindD X.K fd ps b) (tk : Takes X (wOf X.K B Ξ)) (I : L2.Inv X pins σ H s) (R : Rel X.K B r M σ H G)
    (hv : Vals vs us) (hz : Vals zs ws) (rv : RepL X.K G ds vs) (rz : RepL X.K G dz zs) (l1 : ds.length + 1 = b.1) (l2 : dz.length = b.2.1.length) (hc : mkD ds.length dz.length b.2.2 C c Ξ ds dz r M Ψ)
    (hQ : ∀ d M' v H' G', Ψ d M' → Rel X.K B r M' σ H' G' → Sub G G' → Rep X.K G' d v → Q v H') : wpAny (model X.prog X.w) X.A (call (.ref C) us (b.2.1.zip ws)) (EP X pins σ Q) X.xe s := by
  refine run_mk mk F hr hb tk I R hv hz rv rz l1 l2 hc.2.2 (fun p d M' v H' G' hp q w s rp => ?_) fun p x M' H' G' hp q w s => ?_
  · obtain ⟨rfl, fs, rfl, q⟩ := q
    cases rp
    obtain ⟨w1, s1, g1, p1⟩ := ins_frz R.wd hp w s
    exact ⟨rfl, hQ _ _ _ _ _ q (R.go w1 s1) s1.gsub p1⟩
  · obtain ⟨fs, rfl, q⟩ := q
    obtain ⟨w1, s1, g1, p1⟩ := ins_frz R.wd hp w s
    exact ⟨M, _, g1, q, w1, s1⟩
theorem de_make (F : Cf X.prog X.w X.K X.mg X.base x C j c bs) (hr : Room k X.A) (z : Zx X B Ξ) (hb : (n + 1, [], g) ∈ bs) (ha : DA X B (e :: es) ga) (hj : j + 1 ≤ k := by decide) (hg : Gl X x := by rfl) (hdb : (x == ("__debug__" : Str)) = false := by decide)
    (he : starEach (e :: es) X.env = (false, eval e X.env) :: starEach es X.env := by rfl) (hpl : (backTo pos (starEach es X.env)).any (·.1) = false := by rfl) :
    DE X B (.Call (.Name x p) (e :: es) [] pos) (fun r M Ψ => ga r M fun ds M1 => mkD n 0 g C c Ξ ds [] r M1 Ψ) := by
  obtain ⟨f, fd, ps, mk, FO, hbs⟩ := F.ex
  refine ⟨fun pins s σ H Q I ⟨r, M, G, Ψ, R, h, kk⟩ => ?_⟩
  refine wpAny_Call_Name_kw (ld_glob I hg F.gl ?_ hdb)
  refine PySem.W.callWith_K (h₀ := X.base) I.ok.mod.kin mk.kp (thn (ha.run pos pins s σ H _ I ⟨r, M, G, _, R, h, fun ds M1 vs H1 G1 q R1 s1 p1 => (⟨ds, M1, G1, q, R1, s1, p1⟩ : ∃ ds M1 G1, mkD n 0 g C c Ξ ds [] r M1 Ψ ∧ Rel X.K B r M1 σ H1 G1 ∧ Sub G G1 ∧ RepL X.K G1 ds vs)⟩) fun us s1 ⟨vs, H1, I1, rv, ds, M1, G1, q, R1, t1, p1⟩ => ⟨I1.kIn, ?_⟩) he hpl
  obtain ⟨l1, l2, q⟩ := q
  exact run_mkD (zs := []) (ws := []) (dz := []) (b := (n + 1, [], g)) mk FO (hr.mono hj) (hbs _ hb) z.tk I1 R1 rv .nil p1 .nil (congrArg Nat.succ l1) rfl ⟨rfl, rfl, q⟩ fun d M' v H' G' q R' s' p' => kk _ _ _ _ _ q R' (t1.tr s') p'
end
end Z
namespace Z
open PySem PySem.Spec PyProof.Rows L2

structure Pf (P : Program) (w : World) (K : PySem.W.Frag) (mg : Str → Option Value) (base : Heap) (C : Addr) (m : Str) (k : Nat) (c : Ct) : Prop where
  ex : ∃ f fd ps p, PropOf K C m p f ∧ FnOk P w K mg base (L2.CX P w) k f fd ps (spC K ps.length c) ∧ BindD K fd ps (Z.pos 1)
section
variable {X : Cx} {B : Bs} {Ξ : XD → En → Sto → Prop} {k j n : Nat} {c : Ct} {pos apos p p' : Pos} {e o : Expr} {es : List Expr} {kws : List Keyword} {ga gk : DTA} {fa fo : DTE} {C : Addr} {fn m x : Str} {ks : List Str} {g : List D → List D → List D} {bs : List (Nat × List Str × (List D → List D → List D))}
theorem de_prop (F : Pf X.prog X.w X.K X.mg X.base C fn j c) (T : Cls X.K C) (hr : Room k X.A) (ho : DE X B o fo) (hj : j + 1 ≤ k := by decide) (hab : attributeBase o fn X.env (eval o X.env) = eval o X.env := by rfl) :
    DE X B (.Attribute o fn pos) (fun r M Ψ => fo r M fun x M1 => isO C M1 x fun _ => c [x] M1 Ψ noX) := by
  obtain ⟨f, fd, ps, q, hp, FO, hb⟩ := F.ex
  refine ⟨fun pins s σ H Q I ⟨r, M, G, Ψ, R, h, kk⟩ => ?_⟩
  refine attr_of hab (thn (ho.run pins s σ H _ I ⟨r, M, G, _, R, h, fun x M1 v H1 G1 q R1 s1 p1 => (⟨x, M1, G1, q, R1, s1, p1⟩ : ∃ x M1 G1, (isO C M1 x fun _ => c [x] M1 Ψ noX) ∧ Rel X.K B r M1 σ H1 G1 ∧ Sub G G1 ∧ Rep X.K G1 x v)⟩) fun u s1 ⟨v, H1, I1, rx, x, M1, G1, q, R1, t1, p1⟩ => ?_)
  obtain ⟨fs, e1, q⟩ := isO_some q
  obtain ⟨a, dx, fvs, rfl, h1, r1⟩ := obj_rep R1.wd p1 e1
  obtain rfl : u = Value.ref a := rx
  obtain ⟨mA, O, _, _, _, _⟩ := ins_get I1.hok h1
  obtain ⟨od, J, _⟩ := O.look
  obtain ⟨rest, hrec⟩ := hp.rec_
  have I2 := I1.tok (s1.toks + 1)
  have hc : (PySem.W.clsIn X.K C).isSome = true := by
    obtain ⟨cd, hc, _⟩ := PySem.W.any_some T.hd
    rw [hc]
    rfl
  have hr1 : Room (j + 1) X.A := hr.mono hj
  obtain ⟨hl, gl, gV, kb, rel⟩ := hb
  have rr := rel G1 [x] [.ref a] [] [] (.cons p1 .nil) .nil
  have hsp : spC X.K ps.length c (gV [.ref a] []) H1 Q (fun _ _ _ => False) := ⟨by rw [← rr.length]; exact hl [x] [] rfl rfl, _, G1, M1, Ψ, _, R1.wd, rr, q, fun d M' v H' G' q w s p => kk _ _ _ _ _ q (R1.go w s) (t1.tr s.gsub) p, fun _ _ _ _ _ _ z _ _ _ => z.elim⟩
  refine PySem.W.get_bind I1.kIn J (PySem.W.plainGet_of (T.get fn)).1 (PySem.W.findObj_data hc hp.at_ hp.get hp.tak) (PySem.W.plainGet_of (T.get fn)).2 (wpAny_call (PySem.W.prop_get (s := { s1 with toks := s1.toks + 1 }) I1.kIn hrec ?_))
  refine codeAny_mono (FO.run X.A.in1 X.stack { s1 with toks := s1.toks + 1 } H1 ⟨[.ref a], []⟩ (gl [.ref a] []) (gV [.ref a] []) Q _ hr1.in1 I2.env0.in1 (kb.to _ [.ref a] [] I1.kIn rfl rfl) (kb.rel (.cons rfl .nil) .nil) hsp) fun r s' hq => ?_
  cases r with
  | error e =>
    obtain ⟨_, _, _, _, _, _, _, _, _, _, _, _, z⟩ := hq
    exact z.elim
  | ok fl =>
    cases fl with
    | ret u =>
      obtain ⟨v, H', I3, rv, q3⟩ := I2.after hq
      show wpAny _ _ (handedOut u) _ _ _
      rw [PySem.W.handedOut_of (handed_of rv)]
      exact wpAny_pure ⟨v, H', I3, rv, q3⟩
    | next => exact False.elim hq
    | brk => exact False.elim hq
    | cont => exact False.elim hq

def OkM (K : PySem.W.Frag) (r : V → List V → Hp → VK → Prop) (g : Sto → D → List D → PD → Prop) : Prop := ∀ (M : Sto) (H G : Hp) (x : D) (v : V) (ds : List D) (vs : List V) (φ : PD) (Q : VK), Wd K M H G → Rep K G x v → RepL K G ds vs → g M x ds φ → Post K H G M φ Q → r v vs H Q
def isS : D → Prop
  | .str _ => True
  | _ => False
theorem de_sm1 {id : String} {name : Str} {r : V → List V → Hp → VK → Prop} {g : Sto → D → List D → PD → Prop} (slot : Slot "str" name id) (ty : typeOf (.builtin id) = pure (.type "method_descriptor")) (rule : MtR X id r) (ok : OkM X.K r g) (ho : DE X B o fo) (he : DE X B e fa)
    (hs : starEach [e] X.env = [(false, eval e X.env)] := by rfl) (hbase : attributeBase o name X.env (eval o X.env) = eval o X.env := by rfl) (hline : (apos.endLine == pos.line) = true := by rfl) :
    DE X B (.Call (.Attribute o name apos) [e] [] pos) (fun r M Ψ => fo r M fun x M1 => isS x ∧ fa r M1 fun y M2 => g M2 x [y] Ψ) := PE_imp (pe_m1 slot ty rule ho he hs hbase hline) fun σ H Q ⟨r, M, G, Ψ, R, h, k⟩ => by
  refine ⟨r, M, G, _, R, h, fun x M1 v H1 G1 ⟨q1, q⟩ R1 s1 p1 => ⟨?_, r, M1, G1, _, R1, q, fun y M2 u H2 G2 q2 R2 s2 p2 => ?_⟩⟩
  · cases p1 <;> first | exact ⟨_, rfl⟩ | exact q1.elim
  · exact ok M2 H2 G2 _ _ _ _ _ _ R2.wd (p1.mono s2) (.cons p2 .nil) q2 fun d M' w H' G' f w' s' p => k _ _ _ _ _ f (R2.go w' s') ((s1.tr s2).tr s'.gsub) p
def strsD : List D → Option (List Str)
  | [] => some []
  | .str a :: l => (strsD l).map (a :: ·)
  | _ => none
theorem strsD_rep {K : PySem.W.Frag} {G : Hp} : ∀ {l : List D} {vs : List V} {ys : List Str}, RepL K G l vs → strsD l = some ys → vs = ys.map V.str
  | _, _, ys, .nil, h => by cases h; rfl
  | _, _, ys, .cons (d := d) p r, h => by
    cases p with
    | str =>
      unfold strsD at h
      obtain ⟨zs, e, rfl⟩ := Option.map_eq_some_iff.mp h
      rw [strsD_rep r e]; rfl
    | _ => cases h
theorem strsD_map : ∀ ys : List Str, strsD (ys.map D.str) = some ys
  | [] => rfl
  | y :: r => by show (strsD (r.map D.str)).map (y :: ·) = _; rw [strsD_map r]; rfl
def joinD (M : Sto) (x : D) (ds : List D) (φ : PD) : Prop := match x, ds with
  | .str a, [d] => ∃ l ys, (lstOf M d = some l ∨ tupOf d = some l) ∧ strsD l = some ys ∧ (ys.map (·.length)).sum + ys.length * a.length ≤ 16777216 ∧ φ (.str (Txt.join a ys)) M
  | _, _ => False
theorem ok_join {K : PySem.W.Frag} : OkM K (fun x xs H Q => ∃ a p, ∃ ys : List Str, x = .str a ∧ xs = [.ref p] ∧ (SqL K H p (ys.map V.str) ∨ SqT K H p (ys.map V.str)) ∧ (ys.map (·.length)).sum + ys.length * a.length ≤ 16777216 ∧ Q (.str (Txt.join a ys)) H) joinD := fun M H G x v ds vs φ Q w r rs h k => by
  unfold joinD at h
  split at h
  · cases r
    cases rs with
    | cons r1 rs =>
      cases rs
      obtain ⟨l, ys, h1, h2, h3, h4⟩ := h
      rcases h1 with h1 | h1
      · obtain ⟨a, us, e0, e, r2⟩ := one_lst w (.cons r1 .nil) h1
        cases e0
        rw [strsD_rep r2 h2] at e
        exact ⟨_, a, ys, rfl, rfl, .inl e, h3, Post.id k w h4 .str⟩
      · obtain ⟨a, us, rfl, e, r2⟩ := tup_rep w r1 h1
        rw [strsD_rep r2 h2] at e
        exact ⟨_, a, ys, rfl, rfl, .inr e, h3, Post.id k w h4 .str⟩
  · exact h.elim
theorem de_join (ho : DE X B o fo) (he : DE X B e fa) (hs : starEach [e] X.env = [(false, eval e X.env)] := by rfl) (hbase : attributeBase o "join" X.env (eval o X.env) = eval o X.env := by rfl) (hline : (apos.endLine == pos.line) = true := by rfl) :
    DE X B (.Call (.Attribute o "join" apos) [e] [] pos) (fun r M Ψ => fo r M fun x M1 => isS x ∧ fa r M1 fun y M2 => joinD M2 x [y] Ψ) := de_sm1 PySem.F.slot_str_join PySem.F.type_str_join mt_join ok_join ho he hs hbase hline

end
end Z
namespace Z
open PySem PySem.Spec PyProof.Rows L2

section
variable {P : Program} {w : World} {K : PySem.W.Frag} {mg : Str → Option Value} {base : Heap} {x qual : Str} {st : Stmt} {f : Addr} {fd : FuncData} {N ps : List Str} {k : Nat} {dvs : List V} {kws : List (Str × V)}
abbrev FnZ (K : PySem.W.Frag) (x qual : Str) (st : Stmt) (dvs : List V) (kws : List (Str × V)) (f : Addr) (fd : FuncData) : Prop := FunD K x qual (defArgs st) (defBody st) (defScope st) dvs kws f fd
theorem fnD (F : FnZ K x qual st dvs kws f fd) (S : FnScope N ps (defScope st)) (c : Ct)
    (hb : ∀ (cdv : Value) (A : Around) (outer : List Env) (s : Shared) (H : Hp) (E : XK) (B : Bs) (Ξ : XD → Sto → Prop), Room k (A.deeper (envOfC qual (defScope st) s.heap.objs.size f cdv)) →
      Zx (cxOf (L2.CX P w) P w K mg base N qual (defScope st) f cdv A outer s H E) B (exF B.M Ξ) →
      ∃ t, DSs (cxOf (L2.CX P w) P w K mg base N qual (defScope st) f cdv A outer s H E) B (defBody st) t ∧
        ∀ (ds : List D) (Ψ : D → Sto → Prop), ds.length = ps.length → c ds B.M Ψ Ξ → t { nx := fun _ M' => rtF B.M Ψ .non M', rt := rtF B.M Ψ } (ent N.length ds) B.M) :
    FnOk P w K mg base (L2.CX P w) (k + 1) f fd ps (spC K ps.length c) := by
  refine F.ok S (fun vs H Q E h => h.1) fun cdv A outer s H vs Q E hr h => ?_
  obtain ⟨hl, ds, G, M, Ψ, Ξ, wd, r, hc, hQ, hE⟩ := h
  have tk0 : Takes (cxOf (L2.CX P w) P w K mg base N qual (defScope st) f cdv A outer s H E) (fun cls d _ H => E cls d H) := takes_of rfl rfl rfl rfl
  obtain ⟨t, ht, q⟩ := hb cdv A outer s H E ⟨H, G, M⟩ Ξ hr ⟨tk0.imp (exF_take (B := ⟨H, G, M⟩) hE), passes_of rfl⟩
  have end_ : ∀ (d : D) (r' : En) (M' : Sto) (v : V) (σ' : L2.St) (H' G' : Hp), rtF M Ψ d M' → Rel K ⟨H, G, M⟩ r' M' σ' H' G' → Rep K G' d v → Q v H' := fun d r' M' v σ' H' G' ⟨d', M'', fr, q⟩ R' p => by
    cases fr with
    | same => exact hQ _ _ _ _ _ q R'.wd R'.sin p
    | drop =>
      obtain ⟨w1, s1⟩ := frz_end R'.wd R'.sin
      exact hQ _ _ _ _ _ q w1 s1 (p.mono frzG_sub)
    | frz n =>
      obtain ⟨w1, s1⟩ := frz_end R'.wd R'.sin
      exact hQ _ _ _ _ _ q w1 s1 ((p.mono frzG_sub).sb (rep_frz R'.wd n))
  refine ⟨_, ht, ent N.length ds, M, G, _, rel_start wd r, q ds Ψ (r.length.trans hl) hc, ⟨fun r' M' σ' H' G' q' R' s' => ?_, fun d r' M' v σ' H' G' q' R' p => end_ d r' M' v σ' H' G' q' R' p, fun _ _ _ _ _ q' _ _ => q'.elim, fun _ _ _ _ _ q' _ _ => q'.elim⟩⟩
  exact end_ .non r' M' .non σ' H' G' q' R' .non
theorem fun_of (F : FnZ K x qual st [] kws f fd) : Fun K x qual st f fd := by
  obtain ⟨oc, od, dV, kV, doc, pm, an, cdv, ct, osl, rfl, lk, hcd, hD, _⟩ := F.ex
  rcases hD with ⟨_, rfl⟩ | ⟨e, _⟩
  · exact ⟨⟨oc, od, kV, doc, pm, an, cdv, ct, osl, rfl, lk, hcd⟩, F.kp⟩
  · exact absurd rfl e
theorem bind0 (F : FnZ K x qual st [] kws f fd) (n : Nat) (hn : ps.length = n)
    (h : ∀ (kV doc pm : Value) (an : Option Addr) (cdv ct : Value) (us : List Value), us.length = n → bindArgs (PySem.W.fnOf x qual (defArgs st) (defBody st) (defScope st) .none kV doc pm an cdv ct) ⟨us, []⟩ = pure (ps.zip us)) : BindD K fd ps (Z.pos n) := by
  obtain ⟨oc, od, dV, kV, doc, pm, an, cdv, ct, osl, rfl, lk, hcd, hD, _⟩ := F.ex
  rcases hD with ⟨_, rfl⟩ | ⟨e, _⟩
  · exact ⟨fun ds zs h _ => h.trans hn.symm, fun us _ => us, fun vs _ => vs, ⟨fun s us ws _ h1 h2 => .of_eq (by
      have e : ws = [] := List.length_eq_zero_iff.mp h2
      rw [e]; exact h kV doc pm an cdv ct us h1), fun r _ => r⟩, fun G ds vs zs us r _ => r⟩
  · exact absurd rfl e
theorem all_nil {α : Type} {p : α → Prop} : ∀ b ∈ ([] : List α), p b := fun _ h => by cases h
theorem all_cons {α : Type} {p : α → Prop} {a : α} {l : List α} (h : p a) (r : ∀ b ∈ l, p b) : ∀ b ∈ a :: l, p b := fun b hb => by
  rcases List.mem_cons.mp hb with e | e
  · rw [e]; exact h
  · exact r b e
end

abbrev FF := PySem.W.Frag → Bool
def gaM (x m : Str) (K : PySem.W.Frag) : Addr := He.ma K (He.ga K x) m
def recA (T : String) (p : Addr) (K : PySem.W.Frag) : Addr := match PySem.W.recIn K p T with
  | some (.ref g :: _) => g
  | _ => 0
def recB (T : String) (p : Addr) (K : PySem.W.Frag) : Addr := match PySem.W.recIn K p T with
  | some (_ :: .ref g :: _) => g
  | _ => 0
inductive At where
  | g (x : Str)
  | mt (x m : Str)
  | pr (x m : Str)
  | sm (x m : Str)
  | cm (x m : Str)
  | st (x m : Str)
def At.ad (K : PySem.W.Frag) : At → Addr
  | .g x => He.ga K x
  | .mt x m => gaM x m K
  | .pr x m => recA "property" (gaM x m K) K
  | .sm x m => recA "staticmethod" (gaM x m K) K
  | .cm x m => recA "classmethod" (gaM x m K) K
  | .st x m => recB "property" (gaM x m K) K
def fnA (K : PySem.W.Frag) (a : Addr) : He.FnW := match K.lookup a with
  | some ⟨_, _, .func fd, _⟩ => some (fd.name, fd.qualname, fd.params, fd.body, fd.scope, fd.globals, fd.closure.map (fun c => (c.1, 0)), fd.builtins)
  | _ => none
structure DefZ where
  at_ : At
  name : Str
  qual : Str
  st : Stmt
  dfl : List He.Dv := []
  kdf : List (Str × He.Dv) := []
  sup : Bool := false
def DefZ.val (d : DefZ) : He.FnW := some (d.name, d.qual, defArgs d.st, .stmts (defBody d.st), defScope d.st, mainGlobals, (if d.sup then [("__class__", 0)] else []), builtinsNs)
def DefZ.dvs (K : PySem.W.Frag) (d : DefZ) : List V := d.dfl.map (He.Dv.v K)
def DefZ.kws (K : PySem.W.Frag) (d : DefZ) : List (Str × V) := d.kdf.map fun q => (q.1, q.2.v K)
def DefZ.ok (K : PySem.W.Frag) (d : DefZ) : Bool := PySem.W.keepIn K (.ref (d.at_.ad K)) && (match K.lookup (d.at_.ad K) with
  | some ⟨_, _, .func fd, _⟩ => PySem.W.codeIn K fd.code d.qual && (He.dflB K fd.defaults (d.dvs K) && He.kwdB K fd.kwdefaults (d.kws K))
  | _ => false)
theorem DefZ.funD {K : PySem.W.Frag} {d : DefZ} (e : fnA K (d.at_.ad K) = d.val) (c : d.ok K = true) (hs : d.sup = false := by rfl) : ∃ fd, FnZ K d.name d.qual d.st (d.dvs K) (d.kws K) (d.at_.ad K) fd := by
  obtain ⟨kp, c2⟩ := He.ba c
  unfold fnA at e
  cases q : K.lookup (d.at_.ad K) with
  | none =>
    rw [q] at c2
    cases c2
  | some o =>
    obtain ⟨oc, od, dt, osl⟩ := o
    rw [q] at c2 e
    cases dt with
    | func fd =>
      obtain ⟨n1, n2, n3, n4, n5, n6, n7, n8, n9, n10, n11, n12, n13, n14, n15⟩ := fd
      have e2 : (some (n1, n2, n3, n4, n5, n6, n7.map (fun c => (c.1, 0)), n15) : He.FnW) = (some (d.name, d.qual, defArgs d.st, .stmts (defBody d.st), defScope d.st, mainGlobals, (if d.sup then [("__class__", 0)] else []), builtinsNs) : He.FnW) := e
      rw [hs] at e2
      simp only [Option.some.injEq, Prod.mk.injEq, Bool.false_eq_true, if_false, List.map_eq_nil_iff] at e2
      obtain ⟨h1, h2, h3, h4, h5, h6, h7, h8⟩ := e2
      subst h1 h2 h3 h4 h5 h6 h7 h8
      have c3 : (PySem.W.codeIn K n13 d.qual && (He.dflB K n8 (d.dvs K) && He.kwdB K n9 (d.kws K))) = true := c2
      obtain ⟨k1, k2⟩ := He.ba c3
      obtain ⟨k2, k3⟩ := He.ba k2
      exact ⟨_, ⟨oc, od, n8, n9, n10, n11, n12, n13, n14, osl, rfl, q, k1, He.dflB_ok k2, He.kwdB_ok k3⟩, kp⟩
    | _ => cases c2
def obsZ (fa : List FF) (fn : List DefZ) (K : PySem.W.Frag) : He.AlD := ((fa.all fun f => f K) && fn.all fun d => d.ok K, fn.map fun d => fnA K (d.at_.ad K))
def valZ (fn : List DefZ) : He.AlD := (true, fn.map DefZ.val)
def SaysZ (fa : List FF) (fn : List DefZ) (K : PySem.W.Frag) : Prop := obsZ fa fn K = valZ fn
section
variable {fa : List FF} {fn : List DefZ} {K : PySem.W.Frag}
theorem SaysZ.fact (c : SaysZ fa fn K) (i : Nat) {f : FF} (h : fa[i]? = some f := by rfl) : f K = true := by
  have c1 := (He.ba (show ((fa.all fun f => f K) && fn.all fun d => d.ok K) = true from congrArg (fun z : He.AlD => z.1) c)).1
  exact List.all_eq_true.mp c1 f (List.mem_of_getElem? h)
theorem SaysZ.def_ (c : SaysZ fa fn K) (i : Nat) {d : DefZ} (h : fn[i]? = some d := by rfl) (hs : d.sup = false := by rfl) : ∃ fd, FnZ K d.name d.qual d.st (d.dvs K) (d.kws K) (d.at_.ad K) fd := by
  have c2 := (He.ba (show ((fa.all fun f => f K) && fn.all fun d => d.ok K) = true from congrArg (fun z : He.AlD => z.1) c)).2
  have e : fn.map (fun d => fnA K (d.at_.ad K)) = fn.map DefZ.val := congrArg (fun z : He.AlD => z.2) c
  have e2 : (fn.map fun d => fnA K (d.at_.ad K))[i]? = (fn.map DefZ.val)[i]? := by rw [e]
  rw [List.getElem?_map, List.getElem?_map, h] at e2
  exact DefZ.funD (Option.some.inj e2) (List.all_eq_true.mp c2 d (List.mem_of_getElem? h)) hs
end
def isF (f : He.Fa) : FF := fun K => f.ok K
def prF (x m : Str) : FF := fun K => He.eqO (PySem.W.findIn K (.ref (He.ga K x)) m) (some (some (.ref (gaM x m K)))) && (He.eqO (PySem.W.specialIn K (.ref (gaM x m K)) "__get__") (some (some (.builtin "property.__get__"))) && (decide (PySem.W.takesIn K (.ref (gaM x m K)) = some true) &&
  (match PySem.W.recIn K (gaM x m K) "property" with
    | some (.ref _ :: _) => true
    | _ => false)))
theorem prF_ok {x m : Str} {K : PySem.W.Frag} (c : prF x m K = true) : PropOf K (He.ga K x) m (gaM x m K) ((At.pr x m).ad K) := by
  obtain ⟨c1, c⟩ := He.ba c
  obtain ⟨c2, c⟩ := He.ba c
  obtain ⟨c3, c4⟩ := He.ba c
  refine ⟨He.eqO_ok c1, He.eqO_ok c2, of_decide_eq_true c3, ?_⟩
  show ∃ rest, PySem.W.recIn K (gaM x m K) "property" = some (.ref (recA "property" (gaM x m K) K) :: rest)
  unfold recA
  split at c4
  · rename_i g rest e
    rw [e]
    exact ⟨rest, rfl⟩
  · cases c4
end Z
namespace Z
open PySem PySem.Spec PyProof.Rows L2
def excBx (x : Str) (bmB : List Value) (newId : String) : FF := fun K => (match K.lookup (He.ga K x) with
  | some ⟨.type t, _, .cls cd, sl⟩ => decide (t = "type") && ((match cd.mro, sl.toList with
    | .ref C :: bm, [_, _, _, _, some (.builtin n), _] => decide (C = He.ga K x) && (decide (n = newId) && (PySem.W.excTail bmB bm && (cd.hasDict && !cd.hasDel)))
    | _, _ => false))
  | _ => false) && PySem.W.excOver K (He.ga K x) bmB
theorem excBx_ok {x : Str} {K : PySem.W.Frag} {bmB : List Value} {newId : String} (c : excBx x bmB newId K = true) : PySem.W.excOver K (He.ga K x) bmB = true ∧
    ∃ nm q N bs bm sn sub ab col dd k0 k1 k2 k3 k5, K.lookup (He.ga K x) = some (excClassObj nm q (He.ga K x) N bs bm true sn sub ab col dd k0 k1 k2 k3 k5 newId) ∧ ∀ Y : String, bm.contains (.type Y) = bmB.contains (.type Y) := by
  obtain ⟨c0, c1⟩ := He.ba c
  refine ⟨c1, ?_⟩
  split at c0
  · rename_i t dd cd sl e
    obtain ⟨h1, h2⟩ := He.ba c0
    split at h2
    · rename_i C bm k0 k1 k2 k3 n k5 em es
      obtain ⟨h3, h4⟩ := He.ba h2
      obtain ⟨h5, h6⟩ := He.ba h4
      obtain ⟨h7, h8⟩ := He.ba h6
      obtain ⟨h9, h10⟩ := He.ba h8
      obtain ⟨nm, bs, mro, N, q, hd, sn, sub, ab, col, del⟩ := cd
      have e1 := of_decide_eq_true h1
      have e3 := of_decide_eq_true h3
      have e5 := of_decide_eq_true h5
      obtain ⟨sl⟩ := sl
      simp only at em es h9 h10
      subst em es e1 e5 h9
      have e10 : del = false := by cases del <;> simp_all
      subst e10
      refine ⟨nm, q, N, bs, bm, sn, sub, ab, col, dd, k0, k1, k2, k3, k5, ?_, fun Y => PySem.W.excTail_contains Y _ h7⟩
      rw [e, e3]
    · cases h2
  · cases c0
def veT : List Value := [.type "ValueError", .type "Exception", .type "BaseException", .type "object"]
def leT : List Value := [.type "LookupError", .type "Exception", .type "BaseException", .type "object"]
def ieT : List Value := [.type "IndexError", .type "LookupError", .type "Exception", .type "BaseException", .type "object"]
def excF (x : Str) : FF := fun K => (excBx x veT "ValueError.__new__" K || (excBx x leT "LookupError.__new__" K || excBx x ieT "IndexError.__new__" K)) && (He.eqO (PySem.W.findIn K (.ref (He.ga K x)) "__setattr__") (some (some (.builtin "object.__setattr__"))) && (decide (PySem.W.subIn K (.ref (He.ga K x)) (.type "BaseException") = some true) &&
    (decide (PySem.W.typeIn K (.ref (He.ga K x)) = some (.type "type")) && PySem.W.keepIn K (.ref (He.ga K x)))))
theorem excF_ok {x : Str} {K : PySem.W.Frag} (c : excF x K = true) : OexG K (He.ga K x) := by
  obtain ⟨c0, c⟩ := He.ba c
  obtain ⟨c1, c⟩ := He.ba c
  obtain ⟨c2, c⟩ := He.ba c
  obtain ⟨c3, c4⟩ := He.ba c
  refine ⟨?_, He.eqO_ok c1, of_decide_eq_true c2, of_decide_eq_true c3, c4⟩
  rcases Bool.or_eq_true_iff.mp c0 with h | h
  · obtain ⟨a, b⟩ := excBx_ok h
    exact ⟨_, _, _, _, PySem.F.excBase_ValueError, PySem.F.store_ValueError, a, b⟩
  rcases Bool.or_eq_true_iff.mp h with h | h
  · obtain ⟨a, b⟩ := excBx_ok h
    exact ⟨_, _, _, _, PySem.F.excBase_LookupError, PySem.F.store_LookupError, a, b⟩
  · obtain ⟨a, b⟩ := excBx_ok h
    exact ⟨_, _, _, _, PySem.F.excBase_IndexError, PySem.F.store_IndexError, a, b⟩
theorem methF_ok {x m : Str} {K : PySem.W.Frag} (c : isF (.meth x m) K = true) : Meth K (He.ga K x) m ((At.mt x m).ad K) := He.meth_ok c
theorem mkrF_ok {x : Str} {K : PySem.W.Frag} (c : isF (.mkr x) K = true) : Mk K (He.ga K x) ((At.mt x "__init__").ad K) := He.mkr_ok c
def tupF (x : Str) (vs : List He.Dv) : FF := fun K => (He.Fa.glo x).ok K && He.tupB K x vs
inductive Fl : D → He.Dv → Prop
  | non : Fl .non .non
  | bl {b} : Fl (.bl b) (.bl b)
  | int {i} : Fl (.int i) (.int i)
  | str {x} : Fl (.str x) (.str x)
theorem Fl.rep {K : PySem.W.Frag} {G : Hp} {d : D} {v : He.Dv} (h : Fl d v) : Rep K G d (v.v K) := by
  cases h with
  | non => exact .non
  | bl => exact .bl
  | int => exact .int
  | str => exact .str
inductive FlL : List D → List He.Dv → Prop
  | nil : FlL [] []
  | cons {d v ds vs} : Fl d v → FlL ds vs → FlL (d :: ds) (v :: vs)
theorem FlL.rep {K : PySem.W.Frag} {G : Hp} : ∀ {ds : List D} {vs : List He.Dv}, FlL ds vs → RepL K G ds (vs.map (He.Dv.v K))
  | _, _, .nil => .nil
  | _, _, .cons h r => .cons h.rep r.rep
section
variable {K : PySem.W.Frag} {h : Heap} {mg : Str → Option Value}
structure TupG (K : PySem.W.Frag) (mg : Str → Option Value) (x : Str) (ds : List D) : Prop where
  ex : ∃ a, mg x = some (.ref a) ∧ ∀ G, Rep K G (.tup ds) (.ref a)
theorem tupF_ok (X : K.In h) (G : h.Ns mainGlobals mg) {x : Str} {vs : List He.Dv} {ds : List D} (c : tupF x vs K = true) (f : FlL ds vs) : TupG K mg x ds :=
  ⟨_, He.glo_ok X G (He.ba c).1, fun H => .tup (He.tupB_ok (He.ba c).2 H) f.rep⟩
end
section
variable {X : Cx} {B : Bs} {pos : Pos}
theorem de_gtup {x : Str} {ds : List D} (T : TupG X.K X.mg x ds) (hg : Gl X x := by rfl) (hd : (x == ("__debug__" : Str)) = false := by decide) : DE X B (.Name x pos) (fun _ M Ψ => Ψ (.tup ds) M) := by
  obtain ⟨a, h1, h2⟩ := T.ex
  exact de_glob h1 (v := .ref a) rfl h2 hg hd
theorem de_gstr {x z : Str} (h : ∃ t, X.mg x = some (.str z t)) (hg : Gl X x := by rfl) (hd : (x == ("__debug__" : Str)) = false := by decide) : DE X B (.Name x pos) (fun _ M Ψ => Ψ (.str z) M) := by
  obtain ⟨t, h⟩ := h
  exact de_glob h (v := .str z) ⟨t, rfl⟩ (fun _ => .str) hg hd
theorem de_gint {x : Str} {i : Int} (h : ∃ t, X.mg x = some (.int i t)) (hg : Gl X x := by rfl) (hd : (x == ("__debug__" : Str)) = false := by decide) : DE X B (.Name x pos) (fun _ M Ψ => Ψ (.int i) M) := by
  obtain ⟨t, h⟩ := h
  exact de_glob h (v := .int i) ⟨t, rfl⟩ (fun _ => .int) hg hd
end
def scr (ns : List Int) : D := .lk (ns.map .int)
def noM : Sto := fun _ => none
theorem repL_scr {K : PySem.W.Frag} {G : Hp} : ∀ ns : List Int, RepL K G (ns.map D.int) (ns.map V.int)
  | [] => .nil
  | _ :: r => .cons .int (repL_scr r)
theorem law_at {l : PySem.W.OpenLaw} {w : World} {K : PySem.W.Frag} {k : Nat} {mg : Str → Option Value} {fa : Addr} {h : Heap} {fd : FuncData} {c : Ct} {x : Str} (hb : ∀ (s : Shared) (u : Value), BindsTo s fd ⟨[u], []⟩ [(x, u)])
    (F : ∀ base : Heap, K.In base → base.Ns mainGlobals mg → FnOk l.prog w K mg base (L2.CX l.prog w) k fa fd [x] (spC K 1 c))
    (hc : ∀ (ns : List Int), ns.length ≤ 63 → (∀ z ∈ ns, Builtin.Int.intBits z ≤ 1048576) → c [scr ns] noM (fun d _ => d = .bl true) noX) : LamX.LawAtS l w K (L2.CX l.prog w) k 63 x mg fa h := by
  refine ⟨fd, [], spC K 1 c, (fun p hp => nomatch hp), (fun p hp => nomatch hp), (fun p hp => nomatch hp), hb, fun H a ns hl hbits _ hS => ?_, fun base KX G _ => F base KX G⟩
  refine ⟨rfl, [scr ns], H, noM, _, _, ⟨Sub.rfl', fun a c e => nomatch (show (none : Option Cell) = some c from e)⟩, .cons (.lk hS (repL_scr ns)) .nil, hc ns hl hbits, fun d M' v H' G' q _ _ r => ?_, fun _ _ _ _ _ _ z _ _ _ => z⟩
  subst q
  cases r
  rfl
end Z
namespace Z
open PySem PySem.Spec PyProof.Rows L2
theorem bt_abs : bootBuiltins "abs" = some (.builtin "abs") := by decide +kernel
theorem bt_all : bootBuiltins "all" = some (.builtin "all") := by decide +kernel
theorem bt_any : bootBuiltins "any" = some (.builtin "any") := by decide +kernel
theorem bt_int : bootBuiltins "int" = some (.type "int") := by decide +kernel
theorem bt_min : bootBuiltins "min" = some (.builtin "min") := by decide +kernel
theorem bt_sum : bootBuiltins "sum" = some (.builtin "sum") := by decide +kernel
theorem bt_tuple : bootBuiltins "tuple" = some (.type "tuple") := by decide +kernel
section
variable {X : Cx} {B : Bs} {pos p : Pos} {a b : Expr} {ga : DTA}
theorem de_abs1 (hm : X.mg "abs" = none) (ha : DA X B [a] ga) (hg : Gl X "abs" := by rfl) (he : starEach [a] X.env = (false, eval a X.env) :: starEach [] X.env := by rfl) : DE X B (.Call (.Name "abs" p) [a] [] pos) (fun r M Ψ => ga r M fun ds M1 => absD M1 ds Ψ) :=
  de_callB call_abs ok_abs hm bt_abs ha hg (by decide) (by decide) he rfl
theorem de_min2 (hc : X.calm = true) (hm : X.mg "min" = none) (ha : DA X B [a, b] ga) (hg : Gl X "min" := by rfl) (he : starEach [a, b] X.env = (false, eval a X.env) :: starEach [b] X.env := by rfl) (hpl : (backTo pos (starEach [b] X.env)).any (·.1) = false := by rfl) : DE X B (.Call (.Name "min" p) [a, b] [] pos) (fun r M Ψ => ga r M fun ds M1 => min2D M1 ds Ψ) :=
  de_callB (call_min2 hc) ok_min2 hm bt_min ha hg (by decide) (by decide) he hpl
theorem de_int1 (hm : X.mg "int" = none) (ha : DA X B [a] ga) (hg : Gl X "int" := by rfl) (he : starEach [a] X.env = (false, eval a X.env) :: starEach [] X.env := by rfl) : DE X B (.Call (.Name "int" p) [a] [] pos) (fun r M Ψ => ga r M fun ds M1 => intD M1 ds Ψ) :=
  de_callT call_int1 ok_int1 hm bt_int ha hg (by decide) (by decide) he rfl
theorem de_sum1 (hc : X.calm = true) (hm : X.mg "sum" = none) (ha : DA X B [a] ga) (hg : Gl X "sum" := by rfl) (he : starEach [a] X.env = (false, eval a X.env) :: starEach [] X.env := by rfl) : DE X B (.Call (.Name "sum" p) [a] [] pos) (fun r M Ψ => ga r M fun ds M1 => sumD M1 ds Ψ) :=
  de_callB (cr_sum hc) ok_sum hm bt_sum ha hg (by decide) (by decide) he rfl
theorem de_all1 (hc : X.calm = true) (hm : X.mg "all" = none) (ha : DA X B [a] ga) (hg : Gl X "all" := by rfl) (he : starEach [a] X.env = (false, eval a X.env) :: starEach [] X.env := by rfl) : DE X B (.Call (.Name "all" p) [a] [] pos) (fun r M Ψ => ga r M fun ds M1 => allD M1 ds Ψ) :=
  de_callB (cr_all hc) ok_all hm bt_all ha hg (by decide) (by decide) he rfl
theorem de_any1 (hc : X.calm = true) (hm : X.mg "any" = none) (ha : DA X B [a] ga) (hg : Gl X "any" := by rfl) (he : starEach [a] X.env = (false, eval a X.env) :: starEach [] X.env := by rfl) : DE X B (.Call (.Name "any" p) [a] [] pos) (fun r M Ψ => ga r M fun ds M1 => anyD M1 ds Ψ) :=
  de_callB (cr_any hc) ok_any hm bt_any ha hg (by decide) (by decide) he rfl
theorem de_tuple1 (hm : X.mg "tuple" = none) (ha : DA X B [a] ga) (hg : Gl X "tuple" := by rfl) (he : starEach [a] X.env = (false, eval a X.env) :: starEach [] X.env := by rfl) : DE X B (.Call (.Name "tuple" p) [a] [] pos) (fun r M Ψ => ga r M fun ds M1 => tupleD M1 ds Ψ) :=
  de_callT call_tuple_of ok_tuple1 hm bt_tuple ha hg (by decide) (by decide) he rfl
end
theorem zx_blk {X : Cx} {B : Bs} {s : Shared} {H : Hp} {scope : Scope} {ce : Env} {fp : List Addr} : Zx (X.blk s H scope ce fp) B (fun _ _ _ => False) := ⟨takes0.imp fun _ _ _ _ ⟨_, _, _, _, z, _⟩ => z.elim, PassesOwn.never⟩
end Z
namespace Z
open PySem PySem.Spec PyProof.Rows L2
structure OwnF (K : PySem.W.Frag) (C : Addr) : Prop where
  cl : Cls K C
  ha : PySem.W.findIn K (.ref C) "__class__" = some (some (.builtin "object.__class__"))
  hn : PySem.W.specialIn K (.builtin "object.__class__") "__get__" = some (some (.builtin "getset_descriptor.__get__"))
  htk : PySem.W.takesIn K (.builtin "object.__class__") = some true
  hm : PySem.W.mroIn K C (.type "object") = some true
  self : PySem.W.kitOne K (.ref C) (.ref C) = some true
  other : ∀ t ∈ okTy, PySem.W.kitOne K (.type t) (.ref C) = some false
def ownF (x : Str) : FF := fun K => (isF (.cls x) K && (He.eqO (PySem.W.findIn K (.ref (He.ga K x)) "__class__") (some (some (.builtin "object.__class__"))) && (He.eqO (PySem.W.specialIn K (.builtin "object.__class__") "__get__") (some (some (.builtin "getset_descriptor.__get__"))) &&
  (decide (PySem.W.takesIn K (.builtin "object.__class__") = some true) && (decide (PySem.W.mroIn K (He.ga K x) (.type "object") = some true) && (decide (PySem.W.kitOne K (.ref (He.ga K x)) (.ref (He.ga K x)) = some true) && okTy.all fun t => decide (PySem.W.kitOne K (.type t) (.ref (He.ga K x)) = some false)))))))
theorem ownF_ok {x : Str} {K : PySem.W.Frag} (c : ownF x K = true) : OwnF K (He.ga K x) := by
  obtain ⟨c1, c⟩ := He.ba c
  obtain ⟨c2, c⟩ := He.ba c
  obtain ⟨c3, c⟩ := He.ba c
  obtain ⟨c4, c⟩ := He.ba c
  obtain ⟨c5, c⟩ := He.ba c
  obtain ⟨c6, c7⟩ := He.ba c
  exact ⟨He.cls_ok c1, He.eqO_ok c2, He.eqO_ok c3, of_decide_eq_true c4, of_decide_eq_true c5, of_decide_eq_true c6, fun t ht => of_decide_eq_true (List.all_eq_true.mp c7 t ht)⟩
def isiO (C : Addr) (M : Sto) (ds : List D) (φ : PD) : Prop := match ds with
  | [d, .ref C'] => C' = C ∧ ((∃ fs, objOf M d = some (C, fs) ∧ φ (.bl true) M) ∨ ∃ t, tyN M d = some t ∧ φ (.bl false) M)
  | _ => False
theorem ok_isiO {K : PySem.W.Frag} {C : Addr} (F : OwnF K C) : OkC K (rIsi K) (isiO C) := fun M H G ds vs φ Q w r h k => by
  unfold isiO at h
  split at h
  · obtain ⟨rfl, h⟩ := h
    cases r with
    | cons r1 r2 => cases r2 with
      | cons r2 r3 =>
        cases r3; cases r2
        rcases h with ⟨fs, e, h⟩ | ⟨t, e, h⟩
        · obtain ⟨a, dx, fvs, rfl, h1, _⟩ := obj_rep w r1 e
          exact ⟨_, _, _, _, _, rfl, .own _, .base (.ins h1 F.cl F.ha F.hn F.htk F.hm), F.self, k.id w h .bl⟩
        · exact ⟨_, _, _, _, _, rfl, .own _, tyN_x w r1 e, F.other t (tyN_ok e), k.id w h .bl⟩
  · exact h.elim
section
variable {X : Cx} {B : Bs} {pos p : Pos} {a b : Expr} {ga : DTA} {C : Addr}
theorem de_isio (hm : X.mg "isinstance" = none) (F : OwnF X.K C) (ha : DA X B [a, b] ga) (hg : Gl X "isinstance" := by rfl) (he : starEach [a, b] X.env = (false, eval a X.env) :: starEach [b] X.env := by rfl) (hpl : (backTo pos (starEach [b] X.env)).any (·.1) = false := by rfl) :
    DE X B (.Call (.Name "isinstance" p) [a, b] [] pos) (fun r M Ψ => ga r M fun ds M1 => isiO C M1 ds Ψ) := de_callB call_isi (ok_isiO F) hm boot_isinstance ha hg (by decide) (by decide) he hpl
end
section
variable {P : Program} {w : World} {K : PySem.W.Frag} {mg : Str → Option Value} {base : Heap} {h : Heap} {x m : Str} {k : Nat} {c : Ct} {ps : List Str} {fd : FuncData} {bs : List (Nat × List Str × (List D → List D → List D))} {qual nm : Str} {st : Stmt} {dvs : List V} {kws : List (Str × V)}
theorem gf_mk (hg : mg x = some (.ref ((At.g x).ad K))) (F : FnZ K nm qual st dvs kws ((At.g x).ad K) fd) (ok : FnOk P w K mg base (L2.CX P w) k ((At.g x).ad K) fd ps (spC K ps.length c)) (hb : ∀ b ∈ bs, BindD K fd ps b) : Gf P w K mg base x k c bs := ⟨_, fd, ps, hg, F.kp, ok, hb⟩
theorem mf_mk (hm : Meth K (He.ga K x) m ((At.mt x m).ad K)) (ok : FnOk P w K mg base (L2.CX P w) k ((At.mt x m).ad K) fd ps (spC K ps.length c)) (hb : ∀ b ∈ bs, BindD K fd ps b) : Mf P w K mg base (He.ga K x) m k c bs := ⟨_, fd, ps, hm, ok, hb⟩
theorem cf_mk (hg : mg x = some (.ref (He.ga K x))) (hm : Mk K (He.ga K x) ((At.mt x "__init__").ad K)) (ok : FnOk P w K mg base (L2.CX P w) k ((At.mt x "__init__").ad K) fd ps (spC K ps.length c)) (hb : ∀ b ∈ bs, BindD K fd ps b) : Cf P w K mg base x (He.ga K x) k c bs := ⟨hg, _, fd, ps, hm, ok, hb⟩
theorem pf_mk (hp : PropOf K (He.ga K x) m (gaM x m K) ((At.pr x m).ad K)) (ok : FnOk P w K mg base (L2.CX P w) k ((At.pr x m).ad K) fd ps (spC K ps.length c)) (hb : BindD K fd ps (Z.pos 1)) : Pf P w K mg base (He.ga K x) m k c := ⟨_, fd, ps, _, hp, ok, hb⟩
end
end Z
namespace Z
open PySem PySem.Spec PyProof.Rows L2
section
variable {X : Cx} {B : Bs} {Ξ : XD → En → Sto → Prop} {k j n : Nat} {c : Ct} {pos : Pos} {a b : Expr} {fa fb : DTE} {C : Addr} {bs : List (Nat × List Str × (List D → List D → List D))}
end
section
variable {vs : List Nat} {as : D → En → (En → Prop) → Prop} {tt : DTT} {fe : DTE} {r : En} {M : Sto} {Φ : List D → Sto → Prop} {xs : List D} {S : Sto → Prop}
abbrev CompB (vs : List Nat) (as : D → En → (En → Prop) → Prop) (tt : DTT) (fe : DTE) (r : En) (M : Sto) (xs : List D) (S : Sto → Prop) (Φ : List D → Sto → Prop) : Prop := ∃ Iv : Nat → List D → Sto → Prop, Iv 0 [] M ∧ (∀ i acc M, Iv i acc M → S M) ∧
  (∀ i d acc M, xs[i]? = some d → Iv i acc M → as d (wipeD r vs) fun r2 => tt r2 M fun b M3 => if b = true then fe r2 M3 fun y M4 => acc.length < sizeLine ∧ Iv (i + 1) (acc ++ [y]) M4 else Iv (i + 1) acc M3) ∧ ∀ acc M, Iv xs.length acc M → Φ acc M
theorem comp_fm (keep : D → Bool) (g : D → D) (hS : S M) (hl : xs.length ≤ sizeLine) (he : ∀ d ∈ xs, ∀ (Q : D → Sto → Prop) (R : Sto → Prop), (if keep d = true then Q (g d) M else R M) → as d (wipeD r vs) fun r2 => tt r2 M fun b M3 => if b = true then fe r2 M3 Q else R M3)
    (fin : Φ ((xs.filter keep).map g) M) : CompB vs as tt fe r M xs S Φ := by
  refine ⟨fun i acc M' => M' = M ∧ acc = ((xs.take i).filter keep).map g, ⟨rfl, rfl⟩, fun i acc M' h => h.1 ▸ hS, fun i d acc M' hd h => ?_, fun acc M' h => ?_⟩
  · obtain ⟨rfl, rfl⟩ := h
    have hi : i < xs.length := (List.getElem?_eq_some_iff.mp hd).1
    have ed : xs[i] = d := (List.getElem?_eq_some_iff.mp hd).2
    have et : xs.take (i + 1) = xs.take i ++ [d] := by rw [List.take_succ, hd]; rfl
    refine he d (ed ▸ List.getElem_mem hi) _ _ ?_
    cases q : keep d with
    | true =>
      rw [if_pos rfl]
      refine ⟨?_, rfl, ?_⟩
      · rw [List.length_map]
        have := List.length_filter_le keep (xs.take i)
        rw [List.length_take] at this
        omega
      · rw [et, List.filter_append, List.map_append, List.filter_cons, if_pos q]; rfl
    | false =>
      rw [if_neg (by simp)]
      refine ⟨rfl, ?_⟩
      rw [et, List.filter_append, List.map_append, List.filter_cons, if_neg (by rw [q]; simp)]
      simp
  · obtain ⟨rfl, rfl⟩ := h
    rw [List.take_length]
    exact fin
theorem comp_map (g : D → D) (hS : S M) (hl : xs.length ≤ sizeLine) (he : ∀ d ∈ xs, ∀ (Q : D → Sto → Prop), Q (g d) M → as d (wipeD r vs) fun r2 => fe r2 M Q) (fin : Φ (xs.map g) M) : CompB vs as (fun _ M Ψ => Ψ true M) fe r M xs S Φ := by
  refine comp_fm (fun _ => true) g hS hl (fun d hd Q R q => ?_) ?_
  · rw [if_pos rfl] at q
    have h := he d hd Q q
    have e : (fun r2 => fe r2 M Q) = (fun r2 => (fun _ M Ψ => Ψ true M : DTT) r2 M fun b M3 => if b = true then fe r2 M3 Q else R M3) := by
      funext r2
      show _ = (if true = true then fe r2 M Q else R M)
      rw [if_pos rfl]
    rw [e] at h
    exact h
  · rw [List.filter_eq_self.mpr (fun _ _ => rfl)]; exact fin
theorem comp_st (I : Sto → Prop) (Pg : D → D → Prop) (h0 : I M) (hS : ∀ M', I M' → S M') (hl : xs.length ≤ sizeLine) (he : ∀ d ∈ xs, ∀ M', I M' → ∀ (Q : D → Sto → Prop), (∀ y M4, I M4 → Pg d y → Q y M4) → as d (wipeD r vs) fun r2 => fe r2 M' Q)
    (fin : ∀ acc M', I M' → acc.length = xs.length → (∀ (i : Nat) d y, xs[i]? = some d → acc[i]? = some y → Pg d y) → Φ acc M') : CompB vs as (fun _ M Ψ => Ψ true M) fe r M xs S Φ := by
  refine ⟨fun i acc M' => I M' ∧ acc.length = i ∧ ∀ (j : Nat) d y, xs[j]? = some d → acc[j]? = some y → Pg d y, ⟨h0, rfl, fun j d y _ h => by simp at h⟩, fun i acc M' h => hS _ h.1, fun i d acc M' hd h => ?_, fun acc M' h => fin acc M' h.1 h.2.1 h.2.2⟩
  obtain ⟨h1, h2, h3⟩ := h
  have hi : i < xs.length := (List.getElem?_eq_some_iff.mp hd).1
  have ed : xs[i] = d := (List.getElem?_eq_some_iff.mp hd).2
  have h := he d (ed ▸ List.getElem_mem hi) M' h1 (fun y M4 => acc.length < sizeLine ∧ I M4 ∧ (acc ++ [y]).length = i + 1 ∧ ∀ (j : Nat) d y', xs[j]? = some d → (acc ++ [y])[j]? = some y' → Pg d y') (fun y M4 a b => ⟨by omega, a, by rw [List.length_append, h2]; rfl, fun j d' y' e1 e2 => by
    rcases Nat.lt_or_ge j acc.length with hj | hj
    · rw [List.getElem?_append_left hj] at e2; exact h3 j d' y' e1 e2
    · rw [List.getElem?_append_right hj] at e2
      have hj2 : j = i := by
        have := (List.getElem?_eq_some_iff.mp e2).1
        simp at this; omega
      subst hj2
      rw [h2, Nat.sub_self] at e2
      cases e2
      rw [hd] at e1; cases e1
      exact b⟩)
  have e : (fun r2 => fe r2 M' (fun y M4 => acc.length < sizeLine ∧ I M4 ∧ (acc ++ [y]).length = i + 1 ∧ ∀ (j : Nat) d y', xs[j]? = some d → (acc ++ [y])[j]? = some y' → Pg d y')) = (fun r2 => (fun _ M Ψ => Ψ true M : DTT) r2 M' fun b M3 => if b = true then fe r2 M3 (fun y M4 => acc.length < sizeLine ∧ I M4 ∧ (acc ++ [y]).length = i + 1 ∧ ∀ (j : Nat) d y', xs[j]? = some d → (acc ++ [y])[j]? = some y' → Pg d y') else (I M3 ∧ acc.length = i + 1 ∧ ∀ (j : Nat) d y, xs[j]? = some d → acc[j]? = some y → Pg d y)) := by
    funext r2
    show _ = (if true = true then _ else _)
    rw [if_pos rfl]
  rw [e] at h
  exact h
end
theorem for_n {M0 : Sto} {xs : List D} {S : Sto → Prop} {r : En} {M : Sto} {g : DTG} {f : DTS} {E : Ek} (Iv : Nat → En → Sto → Prop) (h0 : Iv 0 r M) (hS : ∀ i r M, Iv i r M → S M)
    (turn : ∀ i d r M, xs[i]? = some d → Iv i r M → g d r M fun r' M' => f { E with nx := Cl M0 (Iv (i + 1)), ct := Cl M0 (Iv (i + 1)), bk := E.nx } r' M') (fin : ∀ r M, Iv xs.length r M → E.nx r M) :
    ∃ Iv : Nat → En → Sto → Prop, Cl M0 (Iv 0) r M ∧ (∀ i r M, Iv i r M → S M) ∧ (∀ i d r M, xs[i]? = some d → Iv i r M → g d r M fun r' M' => f { E with nx := Cl M0 (Iv (i + 1)), ct := Cl M0 (Iv (i + 1)), bk := E.nx } r' M') ∧ ∀ r M, Iv xs.length r M → E.nx r M := ⟨Iv, .of h0, hS, turn, fin⟩
section
variable {vs : List Nat} {wi : DTI} {as : D → En → (En → Prop) → Prop} {tt : DTT} {fe : DTE} {r : En} {M : Sto} {Φ : List D → Sto → Prop}
theorem compD_of (Pw : List D → (Sto → Prop) → Sto → Prop) (hw : ∀ K : List D → (Sto → Prop) → Sto → Prop, (∀ xs S M1, Pw xs S M1 → K xs S M1) → wi r M K) (h : ∀ xs S M1, Pw xs S M1 → CompB vs as tt fe r M1 xs S Φ) : compD vs wi as tt fe r M Φ := by unfold compD; exact hw _ h
theorem compD_map {xs : List D} {S : Sto → Prop} (hw : ∀ K : List D → (Sto → Prop) → Sto → Prop, K xs S M → wi r M K) (g : D → D) (hS : S M) (hl : xs.length ≤ sizeLine) (he : ∀ d ∈ xs, ∀ (Q : D → Sto → Prop), Q (g d) M → as d (wipeD r vs) fun r2 => fe r2 M Q) (fin : Φ (xs.map g) M) :
    compD vs wi as (fun _ M Ψ => Ψ true M) fe r M Φ := by unfold compD; exact hw _ (comp_map g hS hl he fin)
theorem compD_fm {xs : List D} {S : Sto → Prop} (hw : ∀ K : List D → (Sto → Prop) → Sto → Prop, K xs S M → wi r M K) (keep : D → Bool) (g : D → D) (hS : S M) (hl : xs.length ≤ sizeLine)
    (he : ∀ d ∈ xs, ∀ (Q : D → Sto → Prop) (R : Sto → Prop), (if keep d = true then Q (g d) M else R M) → as d (wipeD r vs) fun r2 => tt r2 M fun b M3 => if b = true then fe r2 M3 Q else R M3)
    (fin : Φ ((xs.filter keep).map g) M) : compD vs wi as tt fe r M Φ := by unfold compD; exact hw _ (comp_fm keep g hS hl he fin)
end
section
variable {M0 : Sto} {wi : DTI} {g : DTG} {f : DTS} {E : Ek} {r : En} {M : Sto}
theorem forD_n {xs : List D} {S : Sto → Prop} (hw : ∀ K : List D → (Sto → Prop) → Sto → Prop, K xs S M → wi r M K) (Iv : Nat → En → Sto → Prop) (h0 : Iv 0 r M) (hS : ∀ i r M, Iv i r M → S M)
    (turn : ∀ i d r M, xs[i]? = some d → Iv i r M → g d r M fun r' M' => f { E with nx := Cl M0 (Iv (i + 1)), ct := Cl M0 (Iv (i + 1)), bk := E.nx } r' M') (fin : ∀ r M, Iv xs.length r M → E.nx r M) : forD M0 wi g f E r M := by unfold forD; exact hw _ (for_n Iv h0 hS turn fin)
end
structure Hand where
  cs : List Int
  i : Int
  r : Int
  m : Int
def hd (h : Hand) : Cell := .lst [.lst (h.cs.map .int), .int h.i, .int h.r, .int h.m]
def HandAt (M : Sto) (p : Addr) : Prop := ∃ h, M p = some (hd h) ∧ h.cs.length ≤ 63 ∧ 0 ≤ h.i
def Dr (p : Addr) (M M' : Sto) : Prop := HandAt M' p ∧ ∀ q, q ≠ p → M' q = M q
theorem Dr.refl {p : Addr} {M : Sto} (h : HandAt M p) : Dr p M M := ⟨h, fun _ _ => rfl⟩
theorem Dr.trans {p : Addr} {M M1 M2 : Sto} (a : Dr p M M1) (b : Dr p M1 M2) : Dr p M M2 := ⟨b.1, fun q h => (b.2 q h).trans (a.2 q h)⟩
end Z
namespace Z
open PySem PySem.Spec PyProof.Rows L2
theorem big_ok : (1000000 : Nat) ≤ sizeLine := by decide
theorem ite_t {c : Bool} {p q : Prop} (h : c = true) (x : p) : if c = true then p else q := by rw [if_pos h]; exact x
theorem ite_f {c : Bool} {p q : Prop} (h : c = false) (x : q) : if c = true then p else q := by rw [if_neg (by rw [h]; simp)]; exact x
theorem bl_t {f : Bool → Prop} {c : Bool} (h : c = true) (x : f true) : blD f (.bl c) := by rw [h]; unfold blD; exact x
theorem bl_f {f : Bool → Prop} {c : Bool} (h : c = false) (x : f false) : blD f (.bl c) := by rw [h]; unfold blD; exact x
theorem bl_c {f : Bool → Prop} {c : Bool} (h1 : c = true → f true) (h2 : c = false → f false) : blD f (.bl c) := by
  unfold blD
  cases c with
  | true => exact h1 rfl
  | false => exact h2 rfl
theorem ln {l : List D} {n : Nat} (h : l.length = n) (hn : n ≤ 1000000) : l.length ≤ sizeLine := h ▸ Nat.le_trans hn big_ok
theorem eqI {M : Sto} {i j : Int} {φ : D → Prop} (h : φ (.bl (decide (i = j)))) : eqD M (.int i) (.int j) φ := by unfold eqD; exact h
theorem ix_ref {M : Sto} {p : Addr} {i : Int} {l : List D} {φ : D → Prop} (e : M p = some (.lst l)) (h : optK (L2.atI l i) φ) : ixD M (.ref p) (.int i) φ := by
  unfold ixD
  simp only [lstOf, e]
  exact h
theorem set_ref {M : Sto} {p : Addr} {i : Int} {l : List D} {v : D} {j : Nat} {φ : Sto → Prop} (e : M p = some (.lst l)) (hj : L2.ixN l.length i = some j) (h : φ (updM M p (.lst (l.set j v)))) : setD (.ref p) i v M φ := by
  unfold setD
  simp only [e, hj, optK]
  exact h
theorem fld_hd {f : Str} {d : D} {fs : List (Str × D)} {φ : D → Prop} (h : φ d) : optK (((f, d) :: fs).lookup f) φ := optK_of List.lookup_cons_self h
theorem look_ne {f g : Str} {d : D} (h : (f == g) = false) : List.lookup f [(g, d)] = none := by
  rw [List.lookup_cons, h]; rfl
theorem lmem {α : Type} {xs : List α} {i : Nat} {d : α} (h : xs[i]? = some d) : d ∈ xs := by
  obtain ⟨h1, h2⟩ := List.getElem?_eq_some_iff.mp h
  exact h2 ▸ List.getElem_mem h1
theorem ty_int {M : Sto} {d : D} (h : tyN M d = some "int") : ∃ i, d = .int i := by
  unfold tyN at h
  split at h <;> first | exact ⟨_, rfl⟩ | (exfalso; revert h; decide) | (split at h <;> (exfalso; revert h; decide)) | cases h
theorem ty_str {M : Sto} {d : D} (h : tyN M d = some "str") : ∃ x, d = .str x := by
  unfold tyN at h
  split at h <;> first | exact ⟨_, rfl⟩ | (exfalso; revert h; decide) | (split at h <;> (exfalso; revert h; decide)) | cases h
theorem signs_mem {x : Str} {d : D} (h : d ∈ signs x) : ∃ c ∈ x.cps.toList, d = .str ⟨#[c]⟩ := by
  obtain ⟨c, hc, e⟩ := List.mem_map.mp h
  exact ⟨c, hc, e.symm⟩
theorem signs_get {x : Str} {i : Nat} {d : D} (h : (signs x)[i]? = some d) : ∃ c, x.cps.toList[i]? = some c ∧ d = .str ⟨#[c]⟩ := by
  unfold signs at h
  rw [List.getElem?_map] at h
  obtain ⟨c, hc, e⟩ := Option.map_eq_some_iff.mp h
  exact ⟨c, hc, e.symm⟩
theorem signs_len {x : Str} : (signs x).length = x.cps.size := by unfold signs; rw [List.length_map, Array.length_toList]
theorem mok_s {i j : Int} (h : j.natAbs < 2 ^ 40) : IntMulOk i j := IntMulOk.of_right (by
  have := PyProof.Rows.intBits_le h
  omega)
theorem mok_l {i j : Int} (h : i.natAbs < 2 ^ 40) : IntMulOk i j := IntMulOk.of_left (by
  have := PyProof.Rows.intBits_le h
  omega)
theorem rng_at {lo : Int} {n i : Nat} {d : D} (h : (rngD lo n)[i]? = some d) : i < n ∧ d = .int (lo + i) := by
  have hi : i < n := by
    have := (List.getElem?_eq_some_iff.mp h).1
    rw [rng_len] at this; exact this
  rw [rng_get hi] at h
  cases h
  exact ⟨hi, rfl⟩
theorem rng_mem {lo : Int} {n : Nat} {d : D} (h : d ∈ rngD lo n) : ∃ k : Nat, k < n ∧ d = .int (lo + k) := by
  obtain ⟨k, hk, e⟩ := List.mem_map.mp h
  exact ⟨k, List.mem_range.mp hk, e.symm⟩
abbrev T4 := Int × Int × Int × Int
def tL (t : T4) : List D := [.int t.1, .int t.2.1, .int t.2.2.1, .int t.2.2.2]
def tD (t : T4) : D := .tup (tL t)
def mul4 (s t : T4) : T4 := (s.1 * t.1 + s.2.1 * t.2.2.1, s.1 * t.2.1 + s.2.1 * t.2.2.2, s.2.2.1 * t.1 + s.2.2.2 * t.2.2.1, s.2.2.1 * t.2.1 + s.2.2.2 * t.2.2.2)
def det4 (t : T4) : Int := t.1 * t.2.2.2 - t.2.1 * t.2.2.1
def O4 : T4 := (1, 0, 0, 1)
def L4 : T4 := (1, 0, 1, 1)
def R4 : T4 := (1, 1, 0, 1)
theorem det_mul (s t : T4) : det4 (mul4 s t) = det4 s * det4 t := by unfold det4 mul4; simp only; grind
theorem mul_assoc4 (r s t : T4) : mul4 (mul4 r s) t = mul4 r (mul4 s t) := by
  unfold mul4
  simp only [Prod.mk.injEq]
  refine ⟨?_, ?_, ?_, ?_⟩ <;> grind
theorem one_mul4 (t : T4) : mul4 O4 t = t := by
  obtain ⟨a, b, c, d⟩ := t
  unfold mul4 O4
  simp
theorem mul_one4 (t : T4) : mul4 t O4 = t := by
  obtain ⟨a, b, c, d⟩ := t
  unfold mul4 O4
  simp
def Sm (n : Nat) (t : T4) : Prop := t.1.natAbs < 2 ^ n ∧ t.2.1.natAbs < 2 ^ n ∧ t.2.2.1.natAbs < 2 ^ n ∧ t.2.2.2.natAbs < 2 ^ n
theorem sm_add {i j : Int} {n : Nat} (h : i.natAbs < 2 ^ n) (h' : j.natAbs < 2 ^ n) : (i + j).natAbs < 2 ^ (n + 1) := by
  rw [Nat.pow_succ]; omega
theorem sm_mono {i : Int} {n m : Nat} (h : i.natAbs < 2 ^ n) (hm : n ≤ m) : i.natAbs < 2 ^ m := Nat.lt_of_lt_of_le h (Nat.pow_le_pow_right (by decide) hm)
theorem Sm.mono {n m : Nat} {t : T4} (h : Sm n t) (hm : n ≤ m) : Sm m t := ⟨sm_mono h.1 hm, sm_mono h.2.1 hm, sm_mono h.2.2.1 hm, sm_mono h.2.2.2 hm⟩
theorem Sm.mul {n m : Nat} {s t : T4} (h : Sm n s) (h' : Sm m t) : Sm (n + m + 1) (mul4 s t) := by
  obtain ⟨a1, a2, a3, a4⟩ := h
  obtain ⟨b1, b2, b3, b4⟩ := h'
  exact ⟨sm_add (wide_lt a1 b1) (wide_lt a2 b3), sm_add (wide_lt a1 b2) (wide_lt a2 b4), sm_add (wide_lt a3 b1) (wide_lt a4 b3), sm_add (wide_lt a3 b2) (wide_lt a4 b4)⟩
theorem sm_O : Sm 1 O4 := by unfold Sm O4; decide
theorem sm_L : Sm 1 L4 := by unfold Sm L4; decide
theorem sm_R : Sm 1 R4 := by unfold Sm R4; decide
def turnT (c : Nat) : T4 := if (⟨#[c]⟩ : Str) = ("R" : Str) then R4 else L4
theorem sm_turn (c : Nat) : Sm 1 (turnT c) := by unfold turnT; split; exact sm_R; exact sm_L
theorem det_turn (c : Nat) : det4 (turnT c) = 1 := by unfold turnT; split <;> decide
def wL (l : List Nat) : T4 := l.foldl (fun t c => mul4 t (turnT c)) O4
theorem wL_snoc (l : List Nat) (c : Nat) : wL (l ++ [c]) = mul4 (wL l) (turnT c) := by unfold wL; rw [List.foldl_append]; rfl
theorem wL_take {l : List Nat} {i : Nat} {c : Nat} (h : l[i]? = some c) : wL (l.take (i + 1)) = mul4 (wL (l.take i)) (turnT c) := by
  rw [List.take_succ, h]; exact wL_snoc _ _
theorem wL_from (l : List Nat) : ∀ t, l.foldl (fun t c => mul4 t (turnT c)) t = mul4 t (wL l) := by
  unfold wL
  induction l with
  | nil => intro t; exact (mul_one4 t).symm
  | cons c l ih =>
    intro t
    rw [List.foldl_cons, List.foldl_cons, ih, ih (mul4 O4 (turnT c)), one_mul4, mul_assoc4]
theorem wL_app (l l' : List Nat) : wL (l ++ l') = mul4 (wL l) (wL l') := by
  conv => lhs; unfold wL
  rw [List.foldl_append, wL_from]; rfl
theorem sm_fold (l : List Nat) : ∀ (t : T4) (n : Nat), Sm n t → Sm (n + 2 * l.length) (l.foldl (fun t c => mul4 t (turnT c)) t) := by
  induction l with
  | nil => intro t n h; exact h
  | cons c l ih =>
    intro t n h
    rw [List.foldl_cons]
    exact (ih _ _ (h.mul (sm_turn c))).mono (by rw [List.length_cons]; omega)
theorem sm_wL (l : List Nat) : Sm (2 * l.length + 1) (wL l) := (sm_fold l O4 1 sm_O).mono (by omega)
theorem det_fold (l : List Nat) : ∀ t : T4, det4 (l.foldl (fun t c => mul4 t (turnT c)) t) = det4 t := by
  induction l with
  | nil => intro t; rfl
  | cons c l ih => intro t; rw [List.foldl_cons, ih, det_mul, det_turn, Int.mul_one]
theorem det_wL (l : List Nat) : det4 (wL l) = 1 := (det_fold l O4).trans (by decide)
theorem eqv_t (s t : T4) : PyData.eqv (.tuple [.int s.1, .int s.2.1, .int s.2.2.1, .int s.2.2.2]) (.tuple [.int t.1, .int t.2.1, .int t.2.2.1, .int t.2.2.2]) = decide (s = t) := by
  obtain ⟨a, b, c, d⟩ := s
  obtain ⟨e, f, g, h⟩ := t
  simp only [PyData.eqv, PyData.eqvAll, Prod.mk.injEq]
  rw [Bool.eq_iff_iff]
  simp
theorem eqvT {M : Sto} {s t : T4} {φ : Bool → Prop} (h : φ (decide (s = t))) : eqvD M (tD s) (tD t) φ := by
  refine ⟨.tuple [.int s.1, .int s.2.1, .int s.2.2.1, .int s.2.2.2], .tuple [.int t.1, .int t.2.1, .int t.2.2.1, .int t.2.2.2], rfl, rfl, rfl, rfl, ?_⟩
  rw [eqv_t]
  exact h
theorem eqT {M : Sto} {s t : T4} {φ : D → Prop} (h : φ (.bl (decide (s = t)))) : eqD M (tD s) (tD t) φ := by unfold eqD; exact eqvT (φ := fun b => φ (.bl b)) h
theorem eqS {M : Sto} {i j : Str} {φ : D → Prop} (h : φ (.bl (decide (i = j)))) : eqD M (.str i) (.str j) φ := by unfold eqD; exact h
theorem neI {M : Sto} {i j : Int} {φ : D → Prop} (h : φ (.bl (!decide (i = j)))) : neD M (.int i) (.int j) φ := by unfold neD; exact h
end Z
namespace Z
open PySem PySem.Spec PyProof.Rows L2
theorem fm0 {x m : Int} (h : 0 < m) : 0 ≤ x.fmod m := by
  rw [Int.fmod_eq_emod_of_nonneg x (Int.le_of_lt h)]
  exact Int.emod_nonneg x (by omega)
theorem fm1 {x m : Int} (h : 0 < m) : x.fmod m < m := by
  rw [Int.fmod_eq_emod_of_nonneg x (Int.le_of_lt h)]
  exact Int.emod_lt_of_pos x h
theorem fm_small {x m : Int} (h : 0 < m) (hm : m ≤ 2 ^ 39) : (x.fmod m).natAbs < 2 ^ 40 := by
  have h0 := fm0 (x := x) h
  have h1 := fm1 (x := x) h
  omega
theorem at_nat {α : Type} {xs : List α} {i : Int} {j : Nat} {d : α} (hi : i = (j : Int)) (h : xs[j]? = some d) : L2.atI xs i = some d := by
  subst hi
  have hj : j < xs.length := (List.getElem?_eq_some_iff.mp h).1
  unfold L2.atI L2.ixN
  rw [if_pos (by omega), if_pos (by omega)]
  simpa using h
theorem at_some {α : Type} {xs : List α} {i : Int} (h0 : 0 ≤ i) (h1 : i < xs.length) : ∃ d, L2.atI xs i = some d ∧ d ∈ xs := by
  obtain ⟨j, rfl⟩ := Int.eq_ofNat_of_zero_le h0
  have hj : j < xs.length := by omega
  exact ⟨xs[j], at_nat rfl (List.getElem?_eq_getElem hj), List.getElem_mem hj⟩
theorem cut_map {α β : Type} (f : α → β) (xs : List α) (lo hi : Option Int) : cutD (xs.map f) lo hi = (cutD xs lo hi).map f := by
  unfold cutD
  rw [List.length_map, List.map_take, List.map_drop]
theorem cut_len {α : Type} (xs : List α) (lo hi : Option Int) : (cutD xs lo hi).length ≤ xs.length := by
  unfold cutD
  rw [List.length_take, List.length_drop]
  omega
theorem dok_s {j : Int} (h : 0 < j) (h' : j < 2 ^ 40) : Dok j := dok_of (n := 40) (by omega) (by omega) (by decide)
def LR (w : List Nat) : Prop := ∀ c ∈ w, c = 76 ∨ c = 82
theorem lr_mem {c : Nat} : c ∈ ("LR" : Str).cps.toList ↔ c = 76 ∨ c = 82 := by
  have e : ("LR" : Str).cps.toList = [76, 82] := by decide +kernel
  rw [e]
  simp
theorem joinL_one : ∀ w : List Nat, TL.joinL [] (w.map fun c => [c]) = w
  | [] => rfl
  | [c] => rfl
  | c :: d :: w => by
    have ih := joinL_one (d :: w)
    show [c] ++ ([] ++ TL.joinL [] ((d :: w).map fun c => [c])) = _
    rw [ih]
    rfl
theorem join_chars (w : List Nat) : Txt.join Str.empty (w.map fun c => (⟨#[c]⟩ : Str)) = ⟨w.toArray⟩ := by
  have h := SX.join_S [] (w.map fun c => [c])
  rw [joinL_one, List.map_map] at h
  exact h
theorem chars_of {acc : List D} (h : ∀ y ∈ acc, ∃ c : Nat, (c = 76 ∨ c = 82) ∧ y = .str ⟨#[c]⟩) : ∃ w : List Nat, LR w ∧ acc = w.map (fun c => D.str ⟨#[c]⟩) := by
  induction acc with
  | nil => exact ⟨[], (fun c h => nomatch h), rfl⟩
  | cons y l ih =>
    obtain ⟨w, h1, h2⟩ := ih fun z hz => h z (List.mem_cons_of_mem _ hz)
    obtain ⟨c, hc, rfl⟩ := h y List.mem_cons_self
    refine ⟨c :: w, fun d hd => ?_, by rw [h2]; rfl⟩
    rcases List.mem_cons.mp hd with rfl | hd
    · exact hc
    · exact h1 d hd
theorem strsD_chars (w : List Nat) : strsD (w.map fun c => D.str ⟨#[c]⟩) = some (w.map fun c => (⟨#[c]⟩ : Str)) := by
  have := strsD_map (w.map fun c => (⟨#[c]⟩ : Str))
  rw [List.map_map] at this
  exact this
theorem chars_sum (w : List Nat) : ((w.map fun c => (⟨#[c]⟩ : Str)).map (·.length)).sum = w.length := by
  induction w with
  | nil => rfl
  | cons c w ih =>
    rw [List.map_cons, List.map_cons, List.sum_cons, ih, List.length_cons]
    show 1 + _ = _
    omega
def Nn (t : T4) : Prop := 0 ≤ t.1 ∧ 0 ≤ t.2.1 ∧ 0 ≤ t.2.2.1 ∧ 0 ≤ t.2.2.2
theorem Nn.mul {s t : T4} (a : Nn s) (b : Nn t) : Nn (mul4 s t) := by
  obtain ⟨a1, a2, a3, a4⟩ := a
  obtain ⟨b1, b2, b3, b4⟩ := b
  exact ⟨Int.add_nonneg (Int.mul_nonneg a1 b1) (Int.mul_nonneg a2 b3), Int.add_nonneg (Int.mul_nonneg a1 b2) (Int.mul_nonneg a2 b4), Int.add_nonneg (Int.mul_nonneg a3 b1) (Int.mul_nonneg a4 b3), Int.add_nonneg (Int.mul_nonneg a3 b2) (Int.mul_nonneg a4 b4)⟩
theorem nn_R : Nn R4 := ⟨by decide, by decide, by decide, by decide⟩
theorem nn_L : Nn L4 := ⟨by decide, by decide, by decide, by decide⟩
theorem nn_turn (c : Nat) : Nn (turnT c) := by
  unfold turnT
  split
  · exact nn_R
  · exact nn_L
theorem nn_fold (l : List Nat) : ∀ t : T4, Nn t → Nn (l.foldl (fun t c => mul4 t (turnT c)) t) := by
  induction l with
  | nil => intro t h; exact h
  | cons c l ih => intro t h; rw [List.foldl_cons]; exact ih _ (h.mul (nn_turn c))
theorem nn_wL (l : List Nat) : Nn (wL l) := nn_fold l O4 ⟨by decide, by decide, by decide, by decide⟩
theorem handAt_of {M : Sto} {p : Addr} {cs : List Int} {i r m : Int} (e : M p = some (.lst [.lst (cs.map .int), .int i, .int r, .int m])) (hc : cs.length ≤ 63) (hi : 0 ≤ i) : HandAt M p := ⟨⟨cs, i, r, m⟩, e, hc, hi⟩
theorem set_gen {M : Sto} {p : Addr} {i : Int} {l : List D} {v : D} {j : Nat} {φ : Sto → Prop} (e : M p = some (.lst l)) (hj : L2.ixN l.length i = some j) (h : ∀ M', M' p = some (.lst (l.set j v)) → (∀ b, b ≠ p → M' b = M b) → φ M') : setD (.ref p) i v M φ :=
  set_ref e hj (h _ updM_same fun b hb => updM_ne hb)
def itm (d : D) : Option (List D) := match d with
  | .str x => some (signs x)
  | .tup l => some l
  | .lst l => some l
  | _ => none
end Z
namespace Z
open PySem PySem.Spec PyProof.Rows L2
end Z
namespace Z
open PySem PySem.Spec PyProof.Rows L2
def iL (t : T4) : List Int := [t.1, t.2.1, t.2.2.1, t.2.2.2]
theorem iL_inj {s t : T4} (h : iL s = iL t) : s = t := by
  obtain ⟨a, b, c, d⟩ := s
  obtain ⟨e, f, g, k⟩ := t
  unfold iL at h
  simp only [List.cons.injEq, and_true] at h
  obtain ⟨rfl, rfl, rfl, rfl⟩ := h
  rfl
def gF (g : Nat) (l : List Int) : Nat := l.foldl (fun g x => Nat.gcd g x.natAbs) g
def gN (l : List Int) : Nat := gF 0 l
theorem gF_dvd0 : ∀ (l : List Int) (g : Nat), gF g l ∣ g
  | [], g => Nat.dvd_refl _
  | x :: l, g => Nat.dvd_trans (gF_dvd0 l _) (Nat.gcd_dvd_left _ _)
theorem gF_dvd : ∀ (l : List Int) (g : Nat) (x : Int), x ∈ l → gF g l ∣ x.natAbs
  | y :: l, g, x, h => by
    rcases List.mem_cons.mp h with rfl | h
    · exact Nat.dvd_trans (gF_dvd0 l _) (Nat.gcd_dvd_right _ _)
    · exact gF_dvd l _ x h
theorem gF_mul (m : Int) : ∀ (l : List Int) (g : Nat), gF (m.natAbs * g) (l.map (m * ·)) = m.natAbs * gF g l
  | [], g => rfl
  | x :: l, g => by
    show gF (Nat.gcd (m.natAbs * g) (m * x).natAbs) (l.map (m * ·)) = m.natAbs * gF (Nat.gcd g x.natAbs) l
    rw [Int.natAbs_mul, Nat.gcd_mul_left]
    exact gF_mul m l _
theorem gN_mul (m : Int) (l : List Int) : gN (l.map (m * ·)) = m.natAbs * gN l := gF_mul m l 0
theorem gN_dvd {l : List Int} {x : Int} (h : x ∈ l) : gN l ∣ x.natAbs := gF_dvd l 0 x h
theorem gN_zero {l : List Int} (h : gN l = 0) : ∀ x ∈ l, x = 0 := fun x hx => by
  have := gN_dvd hx
  rw [h] at this
  have := Nat.eq_zero_of_zero_dvd this
  omega
theorem gN_snoc (l : List Int) (x : Int) : gN (l ++ [x]) = Nat.gcd (gN l) x.natAbs := by
  unfold gN gF
  rw [List.foldl_append]; rfl
theorem gN_take {l : List Int} {i : Nat} {x : Int} (h : l[i]? = some x) : gN (l.take (i + 1)) = Nat.gcd (gN (l.take i)) x.natAbs := by
  rw [List.take_succ, h]; exact gN_snoc _ _
theorem fdiv_ex {x : Int} {g : Nat} (hg : 0 < g) (h : g ∣ x.natAbs) : (g : Int) * x.fdiv g = x := by
  have h2 : (g : Int) ∣ x := Int.ofNat_dvd_left.mpr h
  obtain ⟨y, rfl⟩ := h2
  rw [Int.mul_fdiv_cancel_left _ (by omega)]
def dvL (g : Nat) (l : List Int) : List Int := l.map fun x => x.fdiv g
theorem dvL_mul {g : Nat} {l : List Int} (hg : 0 < g) (h : ∀ x ∈ l, g ∣ x.natAbs) : (dvL g l).map ((g : Int) * ·) = l := by
  unfold dvL
  rw [List.map_map]
  conv => rhs; rw [← List.map_id l]
  exact List.map_congr_left fun x hx => fdiv_ex hg (h x hx)
theorem gN_dvL {l : List Int} (hg : 0 < gN l) : gN (dvL (gN l) l) = 1 := by
  have e := dvL_mul hg fun x hx => gN_dvd hx
  have e2 : gN ((dvL (gN l) l).map ((gN l : Int) * ·)) = gN l := by rw [e]
  rw [gN_mul, Int.natAbs_natCast] at e2
  exact Nat.eq_of_mul_eq_mul_left hg (by rw [e2, Nat.mul_one])
def lead (l : List Int) : Int := (l.filter fun x => decide (x ≠ 0)).headD 0
def ngL (l : List Int) : List Int := l.map fun x => -x
def plL (l : List Int) : List Int := if 0 < lead (dvL (gN l) l) then dvL (gN l) l else ngL (dvL (gN l) l)
theorem lead_mul {m : Int} (hm : m ≠ 0) (l : List Int) : lead (l.map (m * ·)) = m * lead l := by
  unfold lead
  induction l with
  | nil => exact (Int.mul_zero m).symm
  | cons x l ih =>
    rw [List.map_cons, List.filter_cons, List.filter_cons]
    by_cases h : x = 0
    · subst h
      rw [Int.mul_zero]
      simpa using ih
    · have h2 : m * x ≠ 0 := Int.mul_ne_zero hm h
      rw [if_pos (decide_eq_true h2), if_pos (decide_eq_true h)]
      rfl
theorem lead_ne {l : List Int} (h : ∃ x ∈ l, x ≠ 0) : lead l ≠ 0 ∧ lead l ∈ l := by
  obtain ⟨x, hx, h0⟩ := h
  unfold lead
  have hm : x ∈ l.filter fun x => decide (x ≠ 0) := List.mem_filter.mpr ⟨hx, decide_eq_true h0⟩
  cases e : l.filter fun x => decide (x ≠ 0) with
  | nil => rw [e] at hm; cases hm
  | cons y r =>
    have hy : y ∈ l.filter fun x => decide (x ≠ 0) := by rw [e]; exact List.mem_cons_self
    obtain ⟨h1, h2⟩ := List.mem_filter.mp hy
    exact ⟨of_decide_eq_true h2, h1⟩
theorem ngL_mul (l : List Int) : ngL l = l.map ((-1) * ·) := List.map_congr_left fun x _ => by omega
structure Prim (l : List Int) : Prop where
  one : gN l = 1
  pos : 0 < lead l
theorem plL_prim {l : List Int} (h : ∃ x ∈ l, x ≠ 0) : Prim (plL l) ∧ ∃ k : Int, k ≠ 0 ∧ l = (plL l).map (k * ·) := by
  have hg : 0 < gN l := by
    rcases Nat.eq_zero_or_pos (gN l) with e | e
    · obtain ⟨x, hx, h0⟩ := h
      exact absurd (gN_zero e x hx) h0
    · exact e
  have e1 := gN_dvL hg
  have e2 := dvL_mul hg fun x hx => gN_dvd hx
  have hu : ∃ x ∈ dvL (gN l) l, x ≠ 0 := by
    obtain ⟨x, hx, h0⟩ := h
    refine ⟨x.fdiv (gN l), List.mem_map.mpr ⟨x, hx, rfl⟩, fun z => h0 ?_⟩
    have := fdiv_ex hg (gN_dvd hx)
    rw [z, Int.mul_zero] at this
    exact this.symm
  obtain ⟨l1, _⟩ := lead_ne hu
  unfold plL
  split
  · rename_i hp
    exact ⟨⟨e1, hp⟩, gN l, by omega, e2.symm⟩
  · rename_i hp
    refine ⟨⟨?_, ?_⟩, -(gN l : Int), by omega, ?_⟩
    · rw [ngL_mul, gN_mul, e1]; rfl
    · rw [ngL_mul, lead_mul (by decide)]; omega
    · conv => lhs; rw [← e2]
      unfold ngL
      rw [List.map_map]
      exact List.map_congr_left fun x _ => by show _ = -(gN l : Int) * -x; rw [Int.neg_mul_neg]
def Cr (l m : List Int) : Prop := l.length = m.length ∧ ∀ (i j : Nat) a b c d, l[i]? = some a → l[j]? = some b → m[i]? = some c → m[j]? = some d → a * d = b * c
theorem Cr.mul {l m : List Int} {k k' : Int} (h : Cr l m) : Cr (l.map (k * ·)) (m.map (k' * ·)) := by
  refine ⟨by rw [List.length_map, List.length_map]; exact h.1, fun i j a b c d h1 h2 h3 h4 => ?_⟩
  rw [List.getElem?_map] at h1 h2 h3 h4
  obtain ⟨a, e1, rfl⟩ := Option.map_eq_some_iff.mp h1
  obtain ⟨b, e2, rfl⟩ := Option.map_eq_some_iff.mp h2
  obtain ⟨c, e3, rfl⟩ := Option.map_eq_some_iff.mp h3
  obtain ⟨d, e4, rfl⟩ := Option.map_eq_some_iff.mp h4
  have := h.2 i j a b c d e1 e2 e3 e4
  grind
theorem Cr.refl (l : List Int) : Cr l l := ⟨rfl, fun i j a b c d h1 h2 h3 h4 => by rw [h1] at h3; rw [h2] at h4; cases h3; cases h4; exact Int.mul_comm _ _⟩
theorem lead_at : ∀ {l : List Int}, lead l ≠ 0 → ∃ i, l[i]? = some (lead l) ∧ ∀ (j : Nat) x, j < i → l[j]? = some x → x = 0
  | [], h => absurd rfl h
  | x :: l, h => by
    by_cases e : x = 0
    · have e2 : lead (x :: l) = lead l := by unfold lead; rw [List.filter_cons, if_neg (by simp [e])]
      rw [e2] at h ⊢
      obtain ⟨i, h1, h2⟩ := lead_at h
      refine ⟨i + 1, by simpa using h1, fun j y hj hy => ?_⟩
      cases j with
      | zero => simp at hy; omega
      | succ j => exact h2 j y (by omega) (by simpa using hy)
    · have e2 : lead (x :: l) = x := by unfold lead; rw [List.filter_cons, if_pos (decide_eq_true e)]; rfl
      rw [e2]
      exact ⟨0, rfl, fun j y hj => by omega⟩
theorem Prim.eq {p q : List Int} (hp : Prim p) (hq : Prim q) (h : Cr p q) : p = q := by
  have hl := h.1
  have abs : ∀ (i : Nat) a c, p[i]? = some a → q[i]? = some c → a.natAbs = c.natAbs := fun i a c h1 h3 => by
    have e : q.map (a * ·) = p.map (c * ·) := by
      apply List.ext_getElem?
      intro j
      rw [List.getElem?_map, List.getElem?_map]
      rcases Nat.lt_or_ge j p.length with hj | hj
      · have h2 := List.getElem?_eq_getElem hj
        have h4 := List.getElem?_eq_getElem (hl ▸ hj : j < q.length)
        rw [h2, h4]
        have := h.2 i j _ _ _ _ h1 h2 h3 h4
        exact congrArg some (this.trans (Int.mul_comm _ _))
      · rw [List.getElem?_eq_none hj, List.getElem?_eq_none (by omega)]; rfl
    have e2 : gN (q.map (a * ·)) = gN (p.map (c * ·)) := by rw [e]
    rw [gN_mul, gN_mul, hp.one, hq.one] at e2
    omega
  obtain ⟨i, i1, i2⟩ := lead_at (l := p) (by have := hp.pos; omega)
  obtain ⟨j, j1, j2⟩ := lead_at (l := q) (by have := hq.pos; omega)
  have lt_p : i < p.length := (List.getElem?_eq_some_iff.mp i1).1
  have lt_q : j < q.length := (List.getElem?_eq_some_iff.mp j1).1
  have hij : i = j := by
    rcases Nat.lt_trichotomy i j with z | z | z
    · have h4 := List.getElem?_eq_getElem (hl ▸ lt_p : i < q.length)
      have h5 := j2 i _ z h4
      have := abs i _ _ i1 h4
      have := hp.pos
      omega
    · exact z
    · have h4 := List.getElem?_eq_getElem (hl ▸ lt_q : j < p.length)
      have h5 := i2 j _ z h4
      have := abs j _ _ h4 j1
      have := hq.pos
      omega
  subst hij
  have el : lead p = lead q := by
    have := abs i _ _ i1 j1
    have := hp.pos
    have := hq.pos
    omega
  apply List.ext_getElem?
  intro k
  rcases Nat.lt_or_ge k p.length with hk | hk
  · have h2 := List.getElem?_eq_getElem hk
    have h4 := List.getElem?_eq_getElem (hl ▸ hk : k < q.length)
    rw [h2, h4]
    have := h.2 i k _ _ _ _ i1 h2 j1 h4
    rw [el] at this
    have e := Int.eq_of_mul_eq_mul_left (a := lead q) (by have := hq.pos; omega) (this.trans (Int.mul_comm _ _))
    rw [e]
  · rw [List.getElem?_eq_none hk, List.getElem?_eq_none (by omega)]
end Z
namespace Z
open PySem PySem.Spec PyProof.Rows L2
section
variable {M : Sto} {n : Nat}
end
def pl4 (t : T4) : T4 := match plL (iL t) with
  | [a, b, c, d] => (a, b, c, d)
  | _ => t
theorem plL_len (l : List Int) : (plL l).length = l.length := by
  unfold plL
  split
  · unfold dvL; rw [List.length_map]
  · unfold ngL dvL; rw [List.length_map, List.length_map]
theorem iL_pl (t : T4) : iL (pl4 t) = plL (iL t) := by
  have h := plL_len (iL t)
  unfold pl4
  match e : plL (iL t), h with
  | [a, b, c, d], _ => rfl
theorem det_ne {t : T4} (h : det4 t ≠ 0) : ∃ x ∈ iL t, x ≠ 0 := by
  obtain ⟨a, b, c, d⟩ := t
  by_cases ha : a = 0
  · by_cases hb : b = 0
    · exfalso; apply h; unfold det4; simp [ha, hb]
    · exact ⟨b, by unfold iL; simp, hb⟩
  · exact ⟨a, by unfold iL; simp, ha⟩
def sc (m : Int) (t : T4) : T4 := (m * t.1, m * t.2.1, m * t.2.2.1, m * t.2.2.2)
theorem iL_sc (m : Int) (t : T4) : iL (sc m t) = (iL t).map (m * ·) := rfl
theorem det_sc' (m : Int) (t : T4) : det4 (sc m t) = m * m * det4 t := by unfold det4 sc; simp only; grind
theorem pl_mul {t : T4} (h : det4 t ≠ 0) : ∃ k : Int, k ≠ 0 ∧ t = sc k (pl4 t) := by
  obtain ⟨_, k, hk, e⟩ := plL_prim (det_ne h)
  exact ⟨k, hk, iL_inj (by rw [iL_sc, iL_pl]; exact e)⟩
theorem det_pl {t : T4} (h : det4 t ≠ 0) : det4 (pl4 t) ≠ 0 := by
  obtain ⟨k, hk, e⟩ := pl_mul h
  intro z
  rw [e, det_sc', z, Int.mul_zero] at h
  exact h rfl
theorem abs_le_mul {k x : Int} (hk : k ≠ 0) : x.natAbs ≤ (k * x).natAbs := by
  rw [Int.natAbs_mul]
  exact Nat.le_mul_of_pos_left _ (by omega)
theorem sm_pl {t : T4} {n : Nat} (h : det4 t ≠ 0) (hs : Sm n t) : Sm n (pl4 t) := by
  obtain ⟨k, hk, e⟩ := pl_mul h
  rw [e] at hs
  exact ⟨Nat.lt_of_le_of_lt (abs_le_mul hk) hs.1, Nat.lt_of_le_of_lt (abs_le_mul hk) hs.2.1, Nat.lt_of_le_of_lt (abs_le_mul hk) hs.2.2.1, Nat.lt_of_le_of_lt (abs_le_mul hk) hs.2.2.2⟩
def nzB (d : D) : Bool := match d with
  | .int j => decide (j ≠ 0)
  | _ => false
theorem filt_nz (l : List Int) : (l.map D.int).filter nzB = (l.filter fun x => decide (x ≠ 0)).map D.int := by
  induction l with
  | nil => rfl
  | cons x l ih =>
    rw [List.map_cons, List.filter_cons, List.filter_cons]
    by_cases h : x = 0
    · rw [if_neg (by simp [nzB, h]), if_neg (by simp [h])]; exact ih
    · rw [if_pos (show nzB (.int x) = true from decide_eq_true h), if_pos (decide_eq_true h), List.map_cons, ih]
theorem at0_lead {l : List Int} (h : ∃ x ∈ l, x ≠ 0) : L2.atI ((l.filter fun x => decide (x ≠ 0)).map D.int) 0 = some (.int (lead l)) := by
  obtain ⟨x, hx, h0⟩ := h
  have hm : x ∈ l.filter fun x => decide (x ≠ 0) := List.mem_filter.mpr ⟨hx, decide_eq_true h0⟩
  unfold lead
  cases e : l.filter fun x => decide (x ≠ 0) with
  | nil => rw [e] at hm; cases hm
  | cons y r => exact at_nat (j := 0) rfl rfl
theorem gcd_step (a b : Nat) : Nat.gcd b (a % b) = Nat.gcd a b := by rw [Nat.gcd_comm b, ← Nat.gcd_rec, Nat.gcd_comm]
theorem fmod_nat (a b : Nat) : (a : Int).fmod (b : Int) = ((a % b : Nat) : Int) := by
  rw [Int.fmod_eq_emod_of_nonneg _ (by omega)]; rfl
theorem abs_nat (x : Int) : (if x < 0 then -x else x) = (x.natAbs : Int) := by split <;> omega
def slotN (r : En) (i : Nat) : Nat := match r[i]? with
  | some (some (.int j)) => j.natAbs
  | _ => 0
theorem map_get {l : List Int} {i : Nat} {d : D} (h : (l.map D.int)[i]? = some d) : ∃ x, l[i]? = some x ∧ d = .int x := by
  rw [List.getElem?_map] at h
  obtain ⟨x, e, rfl⟩ := Option.map_eq_some_iff.mp h
  exact ⟨x, e, rfl⟩
end Z
namespace Z
open PySem PySem.Spec PyProof.Rows L2
section
variable {X : Cx} {B : Bs} {pos apos : Pos} {e o : Expr} {es : List Expr} {fa fo : DTE} {ga : DTA}
theorem tyV_lst {K : PySem.W.Frag} {M : Sto} {H G : Hp} {d : D} {v : V} {l : List D} (w : Wd K M H G) (r : Rep K G d v) (e : lstOf M d = some l) : tyV K "list" v H := by
  obtain ⟨a, vs, rfl, h, _⟩ := lst_rep' w r e
  exact .inl ⟨rfl, vs, h⟩
theorem de_lm1 {id : String} {name : Str} {r : V → List V → Hp → VK → Prop} {g : Sto → D → List D → PD → Prop} (slot : Slot "list" name id) (ty : typeOf (.builtin id) = pure (.type "method_descriptor")) (rule : MtR X id r) (ok : OkM X.K r g) (ho : DE X B o fo) (ha : DA X B (e :: es) ga)
    (hbase : attributeBase o name X.env (eval o X.env) = eval o X.env := by rfl)
    (hfew : ((backTo pos (starEach (e :: es) X.env)).all (fun x => !x.1) && (backToKw pos (keywordEach [] X.env)).all (fun x => x.1.isSome)
      && decide ((e :: es).length + ([] : List Keyword).length + (if ([] : List Keyword).isEmpty then 0 else 1) < 30)) = true := by rfl)
    (hline : (apos.endLine == pos.line) = true := by rfl) (hs : starEach (e :: es) X.env = (false, eval e X.env) :: starEach es X.env := by rfl) (hplain : (backTo pos (starEach es X.env)).any (·.1) = false := by rfl) :
    DE X B (.Call (.Attribute o name apos) (e :: es) [] pos) (fun r M Ψ => fo r M fun x M1 => (∃ l, lstOf M1 x = some l) ∧ ga r M1 fun ds M2 => g M2 x ds Ψ) :=
  PE_imp (pe_bm PySem.F.plainAttrs_list slot ty rule ho ha hbase hfew hline hs hplain) fun σ H Q ⟨r, M, G, Ψ, R, h, k⟩ => by
    refine ⟨r, M, G, _, R, h, fun x M1 v H1 G1 ⟨⟨l, e1⟩, q⟩ R1 s1 p1 => ⟨tyV_lst R1.wd p1 e1, r, M1, G1, _, R1, q, fun ds M2 us H2 G2 q2 R2 s2 p2 => ?_⟩⟩
    exact ok M2 H2 G2 _ _ _ _ _ _ R2.wd (p1.mono s2) p2 q2 fun d M' w H' G' f w' s' p => k _ _ _ _ _ f (R2.go w' s') ((s1.tr s2).tr s'.gsub) p
def lstAt (M : Sto) (x : D) (φ : Addr → List D → Prop) : Prop := match x with
  | .ref p => match M p with
    | some (.lst l) => φ p l
    | _ => False
  | _ => False
theorem lstAt_of {M : Sto} {p : Addr} {l : List D} {φ : Addr → List D → Prop} (e : M p = some (.lst l)) (h : φ p l) : lstAt M (.ref p) φ := by
  unfold lstAt
  simp only [e]
  exact h
theorem lstAt_some {M : Sto} {x : D} {φ : Addr → List D → Prop} (h : lstAt M x φ) : ∃ p l, x = .ref p ∧ M p = some (.lst l) ∧ φ p l := by
  unfold lstAt at h
  split at h
  · split at h
    · rename_i p _ l e
      exact ⟨p, l, rfl, e, h⟩
    · exact h.elim
  · exact h.elim
def appendD (M : Sto) (x : D) (ds : List D) (φ : PD) : Prop := match ds with
  | [d] => lstAt M x fun p l => l.length < sizeLine ∧ φ .non (updM M p (.lst (l ++ [d])))
  | _ => False
section
variable {K : PySem.W.Frag}
theorem RepL.dropLast {G : Hp} : ∀ {xs : List D} {us : List V}, RepL K G xs us → RepL K G xs.dropLast us.dropLast := fun {xs us} r => by
  rw [List.dropLast_eq_take, List.dropLast_eq_take, r.length]
  exact r.take _
theorem ok_append : OkM K rAppend appendD := fun M H G x v ds vs φ Q w r rs h k => by
  unfold appendD at h
  split at h
  · obtain ⟨p, l, rfl, e, hl, h⟩ := lstAt_some h
    cases r
    cases rs with
    | cons r1 rs =>
      cases rs
      obtain ⟨gp, us, hp, rl⟩ := w.cells _ _ e
      obtain ⟨w1, s1⟩ := cell_put (c := .lst (l ++ [_])) (o := .lst (us ++ [_])) w e ⟨_, upd_same, rl.app (.cons r1 .nil)⟩
      exact ⟨p, us, _, rfl, rfl, hp, by rw [← rl.length]; exact hl, k _ _ _ _ _ h w1 s1 .non⟩
  · exact h.elim
end
theorem de_append (ho : DE X B o fo) (ha : DA X B [e] ga) (hbase : attributeBase o "append" X.env (eval o X.env) = eval o X.env := by rfl) (hline : (apos.endLine == pos.line) = true := by rfl) (hs : starEach [e] X.env = (false, eval e X.env) :: starEach [] X.env := by rfl)
    (hfew : ((backTo pos (starEach [e] X.env)).all (fun x => !x.1) && (backToKw pos (keywordEach [] X.env)).all (fun x => x.1.isSome)
      && decide ([e].length + ([] : List Keyword).length + (if ([] : List Keyword).isEmpty then 0 else 1) < 30)) = true := by rfl) :
    DE X B (.Call (.Attribute o "append" apos) [e] [] pos) (fun r M Ψ => fo r M fun x M1 => (∃ l, lstOf M1 x = some l) ∧ ga r M1 fun ds M2 => appendD M2 x ds Ψ) := de_lm1 PySem.F.slot_list_append PySem.F.type_list_append mt_append ok_append ho ha hbase hfew hline hs rfl
end
section
variable {X : Cx} {B : Bs} {k j : Nat} {c : Ct} {pos apos p : Pos} {a : Expr} {ga : DTA} {C : Addr} {bs : List (Nat × List Str × (List D → List D → List D))}
def rOwn1 (K : PySem.W.Frag) (C : Addr) (c : Ct) (ok : D → Prop) : List V → Hp → VK → Prop := fun xs H Q => ∃ a dx fs M G x Ψ, xs = [.ref a] ∧ H a = some (.ins C dx fs) ∧ Wd K M H G ∧ Rep K G x (.ref a) ∧ c [x] M Ψ noX ∧ Post K H G M (fun d M' => Ψ d M') (fun v H' => Q v H') ∧ ∀ d M', Ψ d M' → ok d
def own1D (C : Addr) (c : Ct) (ok : D → Prop) (M : Sto) (ds : List D) (φ : PD) : Prop := match ds with
  | [x] => isO C M x fun _ => c [x] M (fun d M' => ok d ∧ φ d M') noX
  | _ => False
theorem ok_own1 {K : PySem.W.Frag} {C : Addr} {c : Ct} {ok : D → Prop} : OkC K (rOwn1 K C c ok) (own1D C c ok) := fun M H G ds vs φ Q w r h k => by
  unfold own1D at h
  split at h
  · obtain ⟨fs, e1, h⟩ := isO_some h
    cases r with
    | cons r1 r2 =>
      cases r2
      obtain ⟨a, dx, fvs, rfl, h1, _⟩ := obj_rep w r1 e1
      exact ⟨a, dx, _, M, G, _, _, rfl, h1, w, r1, h, fun d M' w H' G' f w' s' p => k _ _ _ _ _ f.2 w' s' p, fun d M' f => f.1⟩
  · exact h.elim
theorem bind1 {fd : FuncData} {ps : List Str} {K : PySem.W.Frag} (h : BindD K fd ps (Z.pos 1)) {x : D} : BindD K fd ps ([x].length, [], fun ds _ => ds) := h
def lenOk : D → Prop
  | .int n => 0 ≤ n ∧ n < 2 ^ 63
  | _ => False
theorem call_ownL (F : Mf X.prog X.w X.K X.mg X.base C "__len__" j c bs) (hr : Room k X.A) (hb : Z.pos 1 ∈ bs) (hj : j + 1 ≤ k := by decide) : CallR X (.builtin "len") (rOwn1 X.K C c lenOk) := by
  obtain ⟨f, fd, ps, mt, FO, hbs⟩ := F.ex
  intro pins s σ H xs us Q I rx h
  obtain ⟨a, dx, fs, M, G, x, Ψ, rfl, h1, w, r1, hq, hP, hS⟩ := h
  cases rx with
  | cons rx ry =>
    cases rx; cases ry
    obtain ⟨mA, J, _⟩ := ins_get I.hok h1
    obtain ⟨od, J, _⟩ := J.look
    obtain ⟨m, hF⟩ := I.fr
    have hr1 : Room (j + 1) X.A := hr.mono hj
    refine PySem.W.len_K hF I.ok.mod.kin J mt.at_ mt.fn ?_
    refine wpAny_mono (run_n (Q := fun v H' => (∃ n : Int, v = .int n ∧ 0 ≤ n ∧ n < 2 ^ 63) ∧ Q v H') (vs := [.ref a]) FO hr1.in1 rfl (bind1 (hbs _ hb)) I w (.cons rfl .nil) (.cons r1 .nil) hq fun d M' v' H' G' z w' s' p => ⟨?_, hP d M' v' H' G' z w' s' p⟩) (fun u s' z => ?_) fun _ _ z => z
    · have := hS d M' z
      cases p <;> first | exact ⟨_, rfl, this⟩ | exact this.elim
    · obtain ⟨v, H', I', r, ⟨n, rfl, hn⟩, q⟩ := z
      obtain ⟨t, rfl⟩ := r
      exact ⟨hn, .int n, H', I'.tok _, ⟨_, rfl⟩, q⟩
theorem de_lenO (F : Mf X.prog X.w X.K X.mg X.base C "__len__" j c bs) (hm : X.mg "len" = none) (hr : Room k X.A) (hb : Z.pos 1 ∈ bs) (ha : DA X B [a] ga) (hj : j + 1 ≤ k := by decide) (hg : Gl X "len" := by rfl) (he : starEach [a] X.env = (false, eval a X.env) :: starEach [] X.env := by rfl) :
    DE X B (.Call (.Name "len" p) [a] [] pos) (fun r M Ψ => ga r M fun ds M1 => own1D C c lenOk M1 ds Ψ) := de_callB (call_ownL F hr hb hj) ok_own1 hm PySem.boot_len ha hg (by decide) (by decide) he rfl
end
section
variable {X : Cx} {B : Bs} {pos : Pos} {e : Expr} {fa : DTE}
theorem ok_ipa {K : PySem.W.Frag} {f : Int → Int → Int} {g : Sto → D → D → (D → Prop) → Prop} (hg : ∀ M x y φ, g M x y φ → ∃ i j, x = .int i ∧ y = .int j ∧ φ (.int (f i j))) : Ok2 K (ipI f) g := fun M H G x y v u φ Q w rx ry h k => by
  obtain ⟨i, j, rfl, rfl, q⟩ := hg _ _ _ _ h
  cases rx; cases ry
  exact ⟨i, j, rfl, rfl, k _ _ _ _ q (Grow.refl w.sub) .int⟩
def iaddD (_ : Sto) (x y : D) (φ : D → Prop) : Prop := match x, y with
  | .int i, .int j => φ (.int (i + j))
  | _, _ => False
theorem ds_iadd {i : Nat} {x : Str} {pos' : Pos} (hN : X.N.Nodup) (he : DE X B e fa) (hi : X.N[i]? = some x := by rfl) (hx : Loc X.env.scope x := by first | exact Or.inl rfl | exact Or.inr rfl)
    (hf : X.fn x = true ∨ X.env.scope.names.lookup x = some .local := by first | exact .inl rfl | exact .inr rfl | assumption) :
    DS X B (.AugAssign (.Name x pos') .Add e pos) (fun E r M => getS r i fun d => fa r M fun d' M1 => iaddD M1 d d' fun z => E.nx (r.set i (some z)) M1) :=
  ds_aug ip_add (ok_ipa fun M x y φ h => by unfold iaddD at h; split at h; exact ⟨_, _, rfl, rfl, h⟩; exact h.elim) hN he hi hx hf
end
end Z
namespace Z
open PySem PySem.Spec PyProof.Rows L2
theorem foldl_min : ∀ (ns : List Int) (n : Int), ns.foldl min n ∈ n :: ns ∧ ∀ y ∈ n :: ns, ns.foldl min n ≤ y
  | [], n => ⟨by simp, fun y hy => by simp at hy; subst hy; exact Int.le_refl _⟩
  | m :: ns, n => by
    obtain ⟨h1, h2⟩ := foldl_min ns (min n m)
    refine ⟨?_, fun y hy => ?_⟩
    · rw [List.foldl_cons]
      rcases List.mem_cons.mp h1 with h | h
      · rw [h]
        rcases Int.le_total n m with c | c
        · rw [Int.min_eq_left c]; simp
        · rw [Int.min_eq_right c]; simp
      · exact List.mem_cons_of_mem _ (List.mem_cons_of_mem _ h)
    · rw [List.foldl_cons]
      have h3 := h2 (min n m) List.mem_cons_self
      rcases List.mem_cons.mp hy with rfl | hy
      · exact Int.le_trans h3 (Int.min_le_left _ _)
      · rcases List.mem_cons.mp hy with rfl | hy
        · exact Int.le_trans h3 (Int.min_le_right _ _)
        · exact h2 y (List.mem_cons_of_mem _ hy)
theorem reads_ints {h : Heap} : ∀ {ns : List Int} {vs : List Value}, Vals (ns.map V.int) vs → ∃ as, ReadsAll h vs (ns.map PyData.int) as
  | [], _, r => by cases r; exact ⟨[], .nil⟩
  | n :: ns, _, r => by
    cases r with
    | cons r1 r2 =>
      obtain ⟨t, rfl⟩ := r1
      obtain ⟨as, ra⟩ := reads_ints (h := h) r2
      exact ⟨_, .cons (.int n t) ra⟩
theorem alike_ints (ns : List Int) : PySem.W.AlikeAll (ns.map PyData.int) := by
  refine ⟨fun x hx y hy => ?_, fun x hx => ?_⟩
  · obtain ⟨i, _, rfl⟩ := List.mem_map.mp hx
    obtain ⟨j, _, rfl⟩ := List.mem_map.mp hy
    rfl
  · obtain ⟨i, _, rfl⟩ := List.mem_map.mp hx
    intro z; cases z
theorem depth_ints : ∀ ns : List Int, PyData.depthAll (ns.map PyData.int) ≤ 1
  | [] => by unfold PyData.depthAll; simp
  | n :: ns => by
    have ih := depth_ints ns
    rw [List.map_cons]
    unfold PyData.depthAll
    have : (PyData.int n).depth ≤ 1 := by unfold PyData.depth; simp
    omega
def rMinT (K : PySem.W.Frag) : List V → Hp → VK → Prop := fun vs H Q => ∃ (a : Addr) (n : Int) (ns : List Int), vs = [V.ref a] ∧ SqT K H a ((n :: ns).map V.int) ∧ Q (.int (ns.foldl min n)) H
section
variable {X : Cx}
theorem cr_minT (hc : X.calm = true) (hu : X.A.units + 65 < cLine) : CallR X (.builtin "min") (rMinT X.K) := by
  intro pins s σ H vs us Q I r h
  obtain ⟨a, n, ns, rfl, hs, q⟩ := h
  obtain ⟨its, rv, ⟨o, h1, h2, m, h3⟩, _⟩ := I.tuple hs
  rw [Vals.ref1 r]
  obtain ⟨as, ra⟩ := reads_ints (h := s.heap) (ns := n :: ns) rv
  have dd := depth_ints (n :: ns)
  refine PySem.W.min_tuple_data (vs := its.toArray) (x := .int n) (xs := ns.map .int) (as := as) (I.ok.hd hc) ⟨o, h1, h2, m, h3⟩ (by simpa using ra) (alike_ints (n :: ns)) (by have : PyData.depthAll (PyData.int n :: List.map PyData.int ns) ≤ 1 := dd; omega) fun i v h' tk bs hv hr hk => ?_
  rw [PySem.W.minD_ints] at hr
  cases hr
  exact ⟨.int _, H, I.kept hk, ⟨_, rfl⟩, q⟩
end
def intsOf (M : Sto) (d : D) (l : List Int) : Prop := lstOf M d = some (l.map .int) ∨ d = .tup (l.map .int)
def minAD (M : Sto) (ds : List D) (φ : PD) : Prop := match ds with
  | [d] => ∃ (n : Int) (ns : List Int), intsOf M d (n :: ns) ∧ φ (.int (ns.foldl min n)) M
  | _ => False
theorem ok_minA {K : PySem.W.Frag} : OkC K (fun xs H Q => rMin K xs H Q ∨ rMinT K xs H Q) minAD := fun M H G ds vs φ Q w r h k => by
  unfold minAD at h
  split at h
  · obtain ⟨n, ns, e | rfl, h⟩ := h
    · obtain ⟨a, us, rfl, h1, h2⟩ := one_lst w r e
      have := repL_ints h2; subst this
      refine .inl ⟨a, n :: ns, rfl, h1, by simp, fun m hm hy => ?_⟩
      obtain ⟨f1, f2⟩ := foldl_min ns n
      have e2 : m = ns.foldl min n := Int.le_antisymm (hy _ f1) (f2 m hm)
      rw [e2]
      exact k.id w h .int
    · cases r with
      | cons r1 r2 =>
        cases r2
        obtain ⟨a, us, rfl, h1, h2⟩ := tup_rep w r1 rfl
        have := repL_ints h2; subst this
        exact .inr ⟨a, n, ns, rfl, h1, k.id w h .int⟩
  · exact h.elim
section
variable {X : Cx} {B : Bs} {k : Nat} {pos p : Pos} {a : Expr} {ga : DTA}
theorem de_minA (hc : X.calm = true) (hr : Room k X.A) (hm : X.mg "min" = none) (ha : DA X B [a] ga) (hg : Gl X "min" := by rfl) (he : starEach [a] X.env = (false, eval a X.env) :: starEach [] X.env := by rfl) : DE X B (.Call (.Name "min" p) [a] [] pos) (fun r M Ψ => ga r M fun ds M1 => minAD M1 ds Ψ) :=
  de_callB (CallR_or (cr_min hc) (cr_minT hc (room65 hr))) ok_minA hm bt_min ha hg (by decide) (by decide) he rfl
end
end Z
namespace Z
open PySem PySem.Spec PyProof.Rows L2
def bR (t : T4) : Bool := decide (t.2.2.1 ≤ t.1) && decide (t.2.2.2 ≤ t.2.1)
def bL (t : T4) : Bool := decide (t.1 ≤ t.2.2.1) && decide (t.2.1 ≤ t.2.2.2)
structure Bal (t : T4) : Prop where
  r : bR t = false
  l : bL t = false
structure Tk (t : T4) (w : List Nat) (u : T4) : Prop where
  lr : LR w
  eq : mul4 (wL w) u = t
  nn : Nn u
  bal : Bal u
theorem turn_R : turnT 82 = R4 := by unfold turnT; rw [if_pos (by decide +kernel)]
theorem turn_L : turnT 76 = L4 := by unfold turnT; rw [if_neg (by decide +kernel)]
theorem wL_nil : wL [] = O4 := rfl
theorem wL_one (c : Nat) : wL [c] = turnT c := one_mul4 _
theorem wL_cons (c : Nat) (l : List Nat) : wL (c :: l) = mul4 (turnT c) (wL l) := by
  rw [show c :: l = [c] ++ l from rfl, wL_app, wL_one]
theorem mul_R (t : T4) : mul4 R4 t = (t.1 + t.2.2.1, t.2.1 + t.2.2.2, t.2.2.1, t.2.2.2) := by unfold mul4 R4; simp
theorem mul_L (t : T4) : mul4 L4 t = (t.1, t.2.1, t.1 + t.2.2.1, t.2.1 + t.2.2.2) := by unfold mul4 L4; simp
theorem beg_R {t : T4} (h : Nn t) (hd : 0 < det4 t) : bR (mul4 R4 t) = true ∧ bL (mul4 R4 t) = false := by
  rw [mul_R]
  obtain ⟨a, b, c, d⟩ := t
  obtain ⟨h1, h2, h3, h4⟩ := h
  simp only at h1 h2 h3 h4
  unfold bR bL
  simp only
  refine ⟨by rw [decide_eq_true (by omega), decide_eq_true (by omega)]; rfl, ?_⟩
  rw [Bool.and_eq_false_iff]
  by_cases e : a = 0
  · right
    refine decide_eq_false fun z => ?_
    have : b = 0 := by omega
    subst this e
    unfold det4 at hd
    simp at hd
  · left; exact decide_eq_false (by omega)
theorem beg_L {t : T4} (h : Nn t) (hd : 0 < det4 t) : bL (mul4 L4 t) = true ∧ bR (mul4 L4 t) = false := by
  rw [mul_L]
  obtain ⟨a, b, c, d⟩ := t
  obtain ⟨h1, h2, h3, h4⟩ := h
  simp only at h1 h2 h3 h4
  unfold bR bL
  simp only
  refine ⟨by rw [decide_eq_true (by omega), decide_eq_true (by omega)]; rfl, ?_⟩
  rw [Bool.and_eq_false_iff]
  by_cases e : c = 0
  · right
    refine decide_eq_false fun z => ?_
    have : d = 0 := by omega
    subst this e
    unfold det4 at hd
    simp at hd
  · left; exact decide_eq_false (by omega)
theorem det_w {w : List Nat} {u t : T4} (e : mul4 (wL w) u = t) : det4 u = det4 t := by rw [← e, det_mul, det_wL, Int.one_mul]
theorem R4_inj {s t : T4} (h : mul4 R4 s = mul4 R4 t) : s = t := by
  rw [mul_R, mul_R] at h
  obtain ⟨a, b, c, d⟩ := s
  obtain ⟨e, f, g, k⟩ := t
  simp only [Prod.mk.injEq] at h ⊢
  omega
theorem L4_inj {s t : T4} (h : mul4 L4 s = mul4 L4 t) : s = t := by
  rw [mul_L, mul_L] at h
  obtain ⟨a, b, c, d⟩ := s
  obtain ⟨e, f, g, k⟩ := t
  simp only [Prod.mk.injEq] at h ⊢
  omega
theorem Tk.tail {t u : T4} {c : Nat} {w : List Nat} (h : Tk t (c :: w) u) : ∃ t1, Tk t1 w u ∧ Nn t1 ∧ det4 t1 = det4 t ∧ t = mul4 (turnT c) t1 := by
  have e := h.eq
  rw [wL_cons, mul_assoc4] at e
  have hn : Nn (mul4 (wL w) u) := (nn_wL w).mul h.nn
  exact ⟨_, ⟨fun d hd => h.lr d (List.mem_cons_of_mem _ hd), rfl, h.nn, h.bal⟩, hn, by rw [← e, det_mul (turnT c), det_turn, Int.one_mul], e.symm⟩
theorem Tk.first {t u : T4} {c : Nat} {w : List Nat} (hd : 0 < det4 t) (h : Tk t (c :: w) u) : (c = 82 ∧ bR t = true ∧ bL t = false) ∨ (c = 76 ∧ bL t = true ∧ bR t = false) := by
  obtain ⟨t1, h1, hn, e1, e2⟩ := h.tail
  rw [← e1] at hd
  rcases h.lr c List.mem_cons_self with rfl | rfl
  · rw [turn_L] at e2
    obtain ⟨z1, z2⟩ := beg_L hn hd
    rw [e2]
    exact .inr ⟨rfl, z1, z2⟩
  · rw [turn_R] at e2
    obtain ⟨z1, z2⟩ := beg_R hn hd
    rw [e2]
    exact .inl ⟨rfl, z1, z2⟩
theorem Tk.uniq : ∀ {w w' : List Nat} {t u u' : T4}, 0 < det4 t → Tk t w u → Tk t w' u' → w = w' ∧ u = u'
  | [], [], t, u, u', hd, h, h' => by
    have e := h.eq
    have e' := h'.eq
    rw [wL_nil, one_mul4] at e e'
    exact ⟨rfl, e.trans e'.symm⟩
  | [], c :: w', t, u, u', hd, h, h' => by
    exfalso
    have e := h.eq
    rw [wL_nil, one_mul4] at e
    rcases h'.first hd with ⟨_, z, _⟩ | ⟨_, z, _⟩
    · rw [← e, h.bal.r] at z; cases z
    · rw [← e, h.bal.l] at z; cases z
  | c :: w, [], t, u, u', hd, h, h' => by
    exfalso
    have e := h'.eq
    rw [wL_nil, one_mul4] at e
    rcases h.first hd with ⟨_, z, _⟩ | ⟨_, z, _⟩
    · rw [← e, h'.bal.r] at z; cases z
    · rw [← e, h'.bal.l] at z; cases z
  | c :: w, c' :: w', t, u, u', hd, h, h' => by
    have hc : c = c' := by
      rcases h.first hd with ⟨rfl, z, y⟩ | ⟨rfl, z, y⟩ <;> rcases h'.first hd with ⟨rfl, z', y'⟩ | ⟨rfl, z', y'⟩ <;> first | rfl | (rw [z] at y'; cases y') | (rw [z'] at y; cases y)
    subst hc
    obtain ⟨t1, h1, hn, e1, e2⟩ := h.tail
    obtain ⟨t2, h2, hn2, e3, e4⟩ := h'.tail
    have et : t1 = t2 := by
      rcases h.lr c List.mem_cons_self with rfl | rfl
      · rw [turn_L] at e2 e4; exact L4_inj (e2.symm.trans e4)
      · rw [turn_R] at e2 e4; exact R4_inj (e2.symm.trans e4)
    subst et
    obtain ⟨r1, r2⟩ := h1.uniq (by rw [e1]; exact hd) h2
    exact ⟨by rw [r1], r2⟩
theorem Tk.bal_self {t : T4} (hn : Nn t) (hb : Bal t) : Tk t [] t := ⟨fun c h => (nomatch h), by rw [wL_nil, one_mul4], hn, hb⟩
theorem wL_Rs : ∀ k : Nat, wL (List.replicate k 82) = (1, (k : Int), 0, 1)
  | 0 => rfl
  | k + 1 => by
    rw [List.replicate_succ, wL_cons, wL_Rs k, turn_R, mul_R, show ((k + 1 : Nat) : Int) = (k : Int) + 1 from by omega]
    rfl
theorem wL_Ls : ∀ k : Nat, wL (List.replicate k 76) = (1, 0, (k : Int), 1)
  | 0 => rfl
  | k + 1 => by
    rw [List.replicate_succ, wL_cons, wL_Ls k, turn_L, mul_L, show ((k + 1 : Nat) : Int) = (k : Int) + 1 from by omega, Int.add_comm (k : Int) 1]
    rfl
def subR (k : Int) (t : T4) : T4 := (t.1 - k * t.2.2.1, t.2.1 - k * t.2.2.2, t.2.2.1, t.2.2.2)
def subL (k : Int) (t : T4) : T4 := (t.1, t.2.1, t.2.2.1 - k * t.1, t.2.2.2 - k * t.2.1)
theorem mul_subR (k : Nat) (t : T4) : mul4 (wL (List.replicate k 82)) (subR k t) = t := by
  rw [wL_Rs]
  obtain ⟨a, b, c, d⟩ := t
  unfold mul4 subR
  simp only [Prod.mk.injEq]
  refine ⟨?_, ?_, ?_, ?_⟩ <;> grind
theorem mul_subL (k : Nat) (t : T4) : mul4 (wL (List.replicate k 76)) (subL k t) = t := by
  rw [wL_Ls]
  obtain ⟨a, b, c, d⟩ := t
  unfold mul4 subL
  simp only [Prod.mk.injEq]
  refine ⟨?_, ?_, ?_, ?_⟩ <;> grind
theorem path_R {t t0 : T4} {w : List Nat} (k : Nat) (h : mul4 (wL w) t = t0) : mul4 (wL (w ++ List.replicate k 82)) (subR k t) = t0 := by rw [wL_app, mul_assoc4, mul_subR]; exact h
theorem path_L {t t0 : T4} {w : List Nat} (k : Nat) (h : mul4 (wL w) t = t0) : mul4 (wL (w ++ List.replicate k 76)) (subL k t) = t0 := by rw [wL_app, mul_assoc4, mul_subL]; exact h
theorem LR.rep {w : List Nat} (h : LR w) {c k : Nat} (hc : c = 76 ∨ c = 82) : LR (w ++ List.replicate k c) := fun d hd => by
  rcases List.mem_append.mp hd with z | z
  · exact h d z
  · rw [List.eq_of_mem_replicate z]; exact hc
def ltm (a b c d : Int) : Int := if 0 < c then (if 0 < d then min (a.fdiv c) (b.fdiv d) else a.fdiv c) else b.fdiv d
theorem fdiv_mul_le {a c : Int} (h : 0 < c) : a.fdiv c * c ≤ a := by
  rw [Int.fdiv_eq_ediv_of_nonneg _ (Int.le_of_lt h)]
  exact Int.ediv_mul_le _ (by omega)
theorem le_fdiv {a c k : Int} (h : 0 < c) (hk : k * c ≤ a) : k ≤ a.fdiv c := by
  rw [Int.fdiv_eq_ediv_of_nonneg _ (Int.le_of_lt h)]
  exact (Int.le_ediv_iff_mul_le h).mpr hk
theorem ltm_ok {a b c d : Int} (hc : 0 ≤ c) (hd : 0 ≤ d) (h : 0 < c ∨ 0 < d) (h1 : c ≤ a) (h2 : d ≤ b) : 1 ≤ ltm a b c d ∧ ltm a b c d * c ≤ a ∧ ltm a b c d * d ≤ b := by
  have mono : ∀ {x y z : Int}, 0 ≤ z → x ≤ y → x * z ≤ y * z := fun hz h => Int.mul_le_mul_of_nonneg_right h hz
  unfold ltm
  by_cases e1 : 0 < c
  · rw [if_pos e1]
    have k1 := fdiv_mul_le (a := a) e1
    have g1 : 1 ≤ a.fdiv c := le_fdiv e1 (by omega)
    by_cases e2 : 0 < d
    · rw [if_pos e2]
      have k2 := fdiv_mul_le (a := b) e2
      have g2 : 1 ≤ b.fdiv d := le_fdiv e2 (by omega)
      refine ⟨by omega, ?_, ?_⟩
      · exact Int.le_trans (mono hc (Int.min_le_left _ _)) k1
      · exact Int.le_trans (mono hd (Int.min_le_right _ _)) k2
    · rw [if_neg e2]
      have : d = 0 := by omega
      subst this
      exact ⟨g1, k1, by rw [Int.mul_zero]; exact h2⟩
  · rw [if_neg e1]
    have e2 : 0 < d := h.resolve_left e1
    have k2 := fdiv_mul_le (a := b) e2
    have g2 : 1 ≤ b.fdiv d := le_fdiv e2 (by omega)
    have : c = 0 := by omega
    subst this
    exact ⟨g2, by rw [Int.mul_zero]; exact h1, k2⟩
theorem bR_of {t : T4} (h : bR t = true) : t.2.2.1 ≤ t.1 ∧ t.2.2.2 ≤ t.2.1 := by
  unfold bR at h
  simpa using h
theorem bL_of {t : T4} (h : bL t = true) : t.1 ≤ t.2.2.1 ∧ t.2.1 ≤ t.2.2.2 := by
  unfold bL at h
  simpa using h
theorem low_pos {t : T4} (hn : Nn t) (hd : 0 < det4 t) : (0 < t.2.2.1 ∨ 0 < t.2.2.2) ∧ (0 < t.1 ∨ 0 < t.2.1) := by
  obtain ⟨a, b, c, d⟩ := t
  obtain ⟨h1, h2, h3, h4⟩ := hn
  simp only at h1 h2 h3 h4 ⊢
  unfold det4 at hd
  simp only at hd
  refine ⟨?_, ?_⟩
  · rcases Int.lt_or_le 0 c with h | h
    · exact .inl h
    · have : c = 0 := by omega
      subst this
      rcases Int.lt_or_le 0 d with h | h
      · exact .inr h
      · have : d = 0 := by omega
        subst this
        simp at hd
  · rcases Int.lt_or_le 0 a with h | h
    · exact .inl h
    · have : a = 0 := by omega
      subst this
      rcases Int.lt_or_le 0 b with h | h
      · exact .inr h
      · have : b = 0 := by omega
        subst this
        simp at hd
def sum4 (t : T4) : Nat := t.1.natAbs + t.2.1.natAbs + t.2.2.1.natAbs + t.2.2.2.natAbs
theorem stepR_ok {t : T4} (hn : Nn t) (hd : 0 < det4 t) (hb : bR t = true) : ∃ k : Nat, ltm t.1 t.2.1 t.2.2.1 t.2.2.2 = (k : Int) ∧ 1 ≤ k ∧ Nn (subR k t) ∧ sum4 (subR k t) + k ≤ sum4 t := by
  obtain ⟨z1, z2⟩ := bR_of hb
  obtain ⟨l1, _⟩ := low_pos hn hd
  obtain ⟨a, b, c, d⟩ := t
  obtain ⟨h1, h2, h3, h4⟩ := hn
  simp only at h1 h2 h3 h4 z1 z2 l1 ⊢
  obtain ⟨q1, q2, q3⟩ := ltm_ok h3 h4 l1 z1 z2
  obtain ⟨k, hk⟩ := Int.eq_ofNat_of_zero_le (show 0 ≤ ltm a b c d by omega)
  rw [hk] at q1 q2 q3
  refine ⟨k, hk, by omega, ⟨by show 0 ≤ a - k * c; omega, by show 0 ≤ b - k * d; omega, h3, h4⟩, ?_⟩
  unfold sum4 subR
  simp only
  have g1 : 0 ≤ (k : Int) * c := Int.mul_nonneg (by omega) h3
  have g2 : 0 ≤ (k : Int) * d := Int.mul_nonneg (by omega) h4
  have g3 : (k : Int) ≤ k * c + k * d := by
    rw [← Int.mul_add]
    have := Int.mul_le_mul_of_nonneg_left (show (1 : Int) ≤ c + d by omega) (show (0 : Int) ≤ k by omega)
    omega
  omega
theorem stepL_ok {t : T4} (hn : Nn t) (hd : 0 < det4 t) (hb : bL t = true) : ∃ k : Nat, ltm t.2.2.1 t.2.2.2 t.1 t.2.1 = (k : Int) ∧ 1 ≤ k ∧ Nn (subL k t) ∧ sum4 (subL k t) + k ≤ sum4 t := by
  obtain ⟨z1, z2⟩ := bL_of hb
  obtain ⟨_, l1⟩ := low_pos hn hd
  obtain ⟨a, b, c, d⟩ := t
  obtain ⟨h1, h2, h3, h4⟩ := hn
  simp only at h1 h2 h3 h4 z1 z2 l1 ⊢
  obtain ⟨q1, q2, q3⟩ := ltm_ok h1 h2 l1 z1 z2
  obtain ⟨k, hk⟩ := Int.eq_ofNat_of_zero_le (show 0 ≤ ltm c d a b by omega)
  rw [hk] at q1 q2 q3
  refine ⟨k, hk, by omega, ⟨h1, h2, by show 0 ≤ c - k * a; omega, by show 0 ≤ d - k * b; omega⟩, ?_⟩
  unfold sum4 subL
  simp only
  have g1 : 0 ≤ (k : Int) * a := Int.mul_nonneg (by omega) h1
  have g2 : 0 ≤ (k : Int) * b := Int.mul_nonneg (by omega) h2
  have g3 : (k : Int) ≤ k * a + k * b := by
    rw [← Int.mul_add]
    have := Int.mul_le_mul_of_nonneg_left (show (1 : Int) ≤ a + b by omega) (show (0 : Int) ≤ k by omega)
    omega
  omega
theorem path_det {t t0 : T4} {w : List Nat} (h : mul4 (wL w) t = t0) : det4 t = det4 t0 := det_w h
theorem len_sum {t : T4} : ∀ {w : List Nat} {u : T4}, LR w → Nn u → 0 < det4 t → mul4 (wL w) u = t → w.length + sum4 u ≤ sum4 t
  | [], u, _, _, _, e => by rw [wL_nil, one_mul4] at e; rw [e]; simp
  | c :: w, u, hl, hn, hd, e => by
    rw [wL_cons, mul_assoc4] at e
    have hn1 : Nn (mul4 (wL w) u) := (nn_wL w).mul hn
    have hd1 : 0 < det4 (mul4 (wL w) u) := by rw [← e, det_mul, det_turn, Int.one_mul] at hd; exact hd
    have ih := len_sum (t := mul4 (wL w) u) (fun d h => hl d (List.mem_cons_of_mem _ h)) hn hd1 rfl
    generalize mul4 (wL w) u = t1 at e hn1 hd1 ih
    obtain ⟨l1, l2⟩ := low_pos hn1 hd1
    obtain ⟨h1, h2, h3, h4⟩ := hn1
    rw [← e, List.length_cons]
    rcases hl c List.mem_cons_self with rfl | rfl
    · rw [turn_L, mul_L]; unfold sum4 at ih ⊢; simp only at ih ⊢; omega
    · rw [turn_R, mul_R]; unfold sum4 at ih ⊢; simp only at ih ⊢; omega
theorem fold_rep (x : Array Nat) : ∀ (n : Nat) (acc : Array Nat), ((List.replicate n x).foldl (· ++ ·) acc).toList = acc.toList ++ (List.replicate n x.toList).flatten
  | 0, acc => by simp
  | n + 1, acc => by
    rw [List.replicate_succ, List.foldl_cons, fold_rep x n, List.replicate_succ, List.flatten_cons]
    simp
theorem mul_one_sign (c k : Nat) : Txt.mul ⟨#[c]⟩ (k : Int) = ⟨(List.replicate k c).toArray⟩ := by
  unfold Txt.mul
  by_cases h : (k : Int) < 1
  · rw [if_pos h]
    have : k = 0 := by omega
    subst this; rfl
  · rw [if_neg h]
    by_cases h1 : k = 1
    · subst h1; rfl
    · rw [if_neg (by simp [Str.length]; omega)]
      have e := fold_rep #[c] k #[]
      have : (List.replicate k [c]).flatten = List.replicate k c := by
        induction k with
        | zero => rfl
        | succ n ih => simp [List.replicate_succ]
      simp only [Int.toNat_natCast]
      generalize hz : (List.replicate k #[c]).foldl (· ++ ·) #[] = z at e ⊢
      have e2 : z.toList = List.replicate k c := by rw [e, this]; rfl
      rw [← e2]
theorem mulok_one {c : Nat} {k : Nat} (h : k ≤ 100000) : MulOk ⟨#[c]⟩ (k : Int) := by
  refine ⟨?_, fun h1 _ => ?_, fun _ _ => ?_⟩
  · rw [Bool.or_eq_false_iff]
    exact ⟨decide_eq_false (by omega), decide_eq_false (by omega)⟩
  · have e : ((⟨#[c]⟩ : Str).length : Int) = 1 := rfl
    rw [e]
    have : (1 : Int) ≤ (2 ^ 63 - 1) / (k : Int) := (Int.le_ediv_iff_mul_le (by omega)).mpr (by omega)
    omega
  · have e : (⟨#[c]⟩ : Str).length = 1 := rfl
    rw [e, Nat.one_mul, Int.toNat_natCast]
    show decide (k > sizeLine) = false
    refine decide_eq_false ?_
    have := big_ok
    omega
def rMulS : R2 := fun x y H Q => ∃ a n, x = .str a ∧ y = .int n ∧ MulOk a n ∧ Q (.str (Txt.mul a n)) H
theorem op_mulS {X : Cx} : OpR X (binaryOp .Mult) rMulS := by
  intro pins s σ H x y v u Q I rx ry h
  obtain ⟨i, j, rfl, rfl, hz, q⟩ := h
  obtain ⟨t, rfl⟩ := rx
  obtain ⟨t', rfl⟩ := ry
  exact SB.mul hz fun t'' k => ⟨.str _, H, I.tok _, ⟨_, rfl⟩, q⟩
def mulSD (_ : Sto) (x y : D) (φ : D → Prop) : Prop := match x, y with
  | .str a, .int n => MulOk a n ∧ φ (.str (Txt.mul a n))
  | _, _ => False
theorem ok_mulS {K : PySem.W.Frag} : Ok2 K rMulS mulSD := fun M H G x y v u φ Q w rx ry h k => by
  unfold mulSD at h
  split at h
  · cases rx; cases ry; exact ⟨_, _, rfl, rfl, h.1, k _ _ _ _ h.2 (Grow.refl w.sub) .str⟩
  · exact h.elim
theorem de_mulS {X : Cx} {B : Bs} {a b : Expr} {fa fb : DTE} {pos : Pos} (ha : DE X B a fa) (hb : DE X B b fb) : DE X B (.BinOp a .Mult b pos) (fun r M Ψ => fa r M fun x M1 => fb r M1 fun y M2 => mulSD M2 x y fun z => Ψ z M2) := de_op op_mulS ok_mulS ha hb
theorem rs_upd {M : Sto} {p : Addr} {c : Cell} (h : M p = none) : rs M (updM M p c) = M := by
  funext a
  unfold rs
  by_cases e : a = p
  · subst e; rw [h]
  · rw [updM_ne e]
    cases M a <;> rfl
abbrev Rn := Nat × Nat
def rnD (p : Rn) : D := .tup [.str ⟨#[p.1]⟩, .int p.2]
def wR : List Rn → List Nat
  | [] => []
  | (c, k) :: r => List.replicate k c ++ wR r
theorem wR_snoc : ∀ (l : List Rn) (c k : Nat), wR (l ++ [(c, k)]) = wR l ++ List.replicate k c
  | [], c, k => by show List.replicate k c ++ [] = _; rw [List.append_nil]; rfl
  | (d, j) :: l, c, k => by
    show List.replicate j d ++ wR (l ++ [(c, k)]) = (List.replicate j d ++ wR l) ++ _
    rw [wR_snoc l c k, List.append_assoc]
theorem sb_rn (g : Addr → D) : ∀ l : List Rn, sbL g (l.map rnD) = l.map rnD
  | [] => rfl
  | _ :: l => by
    show _ :: sbL g (l.map rnD) = _
    rw [sb_rn g l]; rfl
theorem sum_rn : ∀ l : List Rn, (l.map fun p => (p.2 : Int)).sum = ((wR l).length : Int)
  | [] => rfl
  | (c, k) :: l => by
    show (k : Int) + (l.map fun p => (p.2 : Int)).sum = ((List.replicate k c ++ wR l).length : Int)
    rw [sum_rn l, List.length_append, List.length_replicate]; omega
end Z
namespace Z
section
open PySem PySem.SeqAt GQ
open AutoSeq1 (wpAny_loadPart')
open MeetsSeq MeetsSeq2 MeetsSeq3 SeqRoads2
variable {prog : Program} {w : World} {A : Around} {R : Result → Shared → Prop}
end
section
open PySem PySem.SeqAt GQ
variable {prog : Program} {w : World} {A : Around} {E : Value → Shared → Prop} {s : Shared}
end
open PySem PySem.Spec PyProof.Rows L2
section
variable {X : Cx} {j : Nat} {own : D → D → Sto → Prop}
end
section
variable {X : Cx} {B : Bs} {k j : Nat} {c : Ct} {pos : Pos} {a b : Expr} {fa fb : DTE} {C : Addr} {bs : List (Nat × List Str × (List D → List D → List D))}
end
end Z
namespace Z
open PySem PySem.Spec PyProof.Rows L2
theorem getS_z {d : D} {r : En} {k : D → Prop} : getS (some d :: r) 0 k = k d := rfl
theorem getS_s {o : Option D} {r : En} {i : Nat} {k : D → Prop} : getS (o :: r) (i + 1) k = getS r i k := rfl
theorem cmp_i {p : Int → Int → Bool} {M : Sto} {i j : Int} {φ : D → Prop} : cmpD p M (.int i) (.int j) φ = φ (.bl (p i j)) := rfl
theorem add_i {M : Sto} {i j : Int} {φ : D → Prop} : addD M (.int i) (.int j) φ = φ (.int (i + j)) := rfl
theorem min2_i {M : Sto} {i j : Int} {φ : PD} : min2D M [.int i, .int j] φ = φ (.int (if j < i then j else i)) M := rfl
theorem max2_i {M : Sto} {i j : Int} {φ : PD} : max2D M [.int i, .int j] φ = φ (.int (if j > i then j else i)) M := rfl
theorem sub_i {M : Sto} {i j : Int} {φ : D → Prop} : subD M (.int i) (.int j) φ = φ (.int (i - j)) := rfl
theorem and2 {φ : Bool → Prop} {p q : Bool} (h : φ (p && q)) : blD (fun c => if c = true then blD φ (.bl q) else φ false) (.bl p) := by
  cases p with
  | true => exact bl_t rfl (ite_t rfl (bl_c (fun e => by rw [e] at h; exact h) fun e => by rw [e] at h; exact h))
  | false => exact bl_f rfl (ite_f rfl h)
theorem bl_v {φ : Bool → Prop} {p : Bool} (h : φ p) : blD φ (.bl p) := bl_c (fun e => by rw [e] at h; exact h) fun e => by rw [e] at h; exact h
theorem joinL_nil : ∀ l : List (List Nat), TL.joinL [] l = l.flatten
  | [] => rfl
  | [p] => by simp [TL.joinL]
  | p :: q :: r => by
    have ih := joinL_nil (q :: r)
    show p ++ ([] ++ TL.joinL [] (q :: r)) = _
    rw [ih, List.nil_append]
    rfl
theorem wR_flat : ∀ l : List Rn, (l.map fun p => List.replicate p.2 p.1).flatten = wR l
  | [] => rfl
  | (c, k) :: l => by
    rw [List.map_cons, List.flatten_cons, wR_flat l]; rfl
theorem join_rn (l : List Rn) : Txt.join Str.empty (l.map fun p => (⟨(List.replicate p.2 p.1).toArray⟩ : Str)) = ⟨(wR l).toArray⟩ := by
  have h := SX.join_S [] (l.map fun p => List.replicate p.2 p.1)
  rw [joinL_nil, wR_flat, List.map_map] at h
  exact h
theorem rn_sum : ∀ l : List Rn, ((l.map fun p => (⟨(List.replicate p.2 p.1).toArray⟩ : Str)).map (·.length)).sum = (wR l).length
  | [] => rfl
  | (c, k) :: l => by
    rw [List.map_cons, List.map_cons, List.sum_cons, rn_sum l]
    show (List.replicate k c).toArray.size + _ = (List.replicate k c ++ wR l).length
    rw [List.length_append, List.size_toArray]
theorem rn_le : ∀ {l : List Rn} {p : Rn}, p ∈ l → p.2 ≤ (wR l).length
  | (c, k) :: l, p, h => by
    show p.2 ≤ (List.replicate k c ++ wR l).length
    rw [List.length_append, List.length_replicate]
    rcases List.mem_cons.mp h with rfl | h
    · exact Nat.le_add_right _ _
    · exact Nat.le_trans (rn_le h) (Nat.le_add_left _ _)
theorem abs_sum {t : T4} : t.1.natAbs ≤ sum4 t ∧ t.2.1.natAbs ≤ sum4 t ∧ t.2.2.1.natAbs ≤ sum4 t ∧ t.2.2.2.natAbs ≤ sum4 t := by unfold sum4; omega
theorem lg {i : Int} {n : Nat} (h : i.natAbs < 2 ^ n) (hn : n ≤ 8000) : i.natAbs.log2 < 9000 := by
  by_cases e : i.natAbs = 0
  · rw [e]; decide
  · have := (Nat.log2_lt e).mpr h
    omega
def mnB (t : T4) : Bool := decide (0 ≤ [t.2.1, t.2.2.1, t.2.2.2].foldl min t.1)
theorem mnB_iff (t : T4) : mnB t = true ↔ Nn t := by
  obtain ⟨f1, f2⟩ := foldl_min [t.2.1, t.2.2.1, t.2.2.2] t.1
  unfold mnB
  rw [decide_eq_true_eq]
  constructor
  · intro h
    exact ⟨Int.le_trans h (f2 _ (by simp)), Int.le_trans h (f2 _ (by simp)), Int.le_trans h (f2 _ (by simp)), Int.le_trans h (f2 _ (by simp))⟩
  · rintro ⟨h1, h2, h3, h4⟩
    simp only [List.mem_cons, List.not_mem_nil, or_false] at f1
    rcases f1 with e | e | e | e <;> (rw [e]; assumption)
theorem append_of {M : Sto} {p : Addr} {l : List D} {d : D} {φ : PD} (e : M p = some (.lst l)) (hl : l.length < sizeLine) (h : φ .non (updM M p (.lst (l ++ [d])))) : appendD M (.ref p) [d] φ := by
  unfold appendD
  exact lstAt_of e ⟨hl, h⟩
theorem dok_lg {j : Int} (h : j ≠ 0) (hl : j.natAbs.log2 < 9000) : Dok j := ⟨h, hl⟩
end Z
namespace Z
open PySem PySem.Spec PyProof.Rows L2
section
variable {X : Cx} {B : Bs} {pos : Pos} {a b c : Expr} {es : List Expr} {fa fb : DTE} {ta tb : DTT}
abbrev isV (v : D) (M : Sto) : PD := fun y M' => y = v ∧ M' = M
theorem de_ifV (hc : DT X B c ta) (ha : DE X B a fa) (hb : DE X B b fb) : DE X B (.IfExp c a b pos) (fun r M Ψ => ta r M fun t M1 => ∃ v : D, (t = true → fa r M1 (isV v M1)) ∧ (t = false → fb r M1 (isV v M1)) ∧ Ψ v M1) :=
  PE_imp (pe_ifExp hc ha hb) fun σ H Q ⟨r, M, G, Ψ, R, h, k⟩ => by
    refine ⟨r, M, G, _, R, h, fun t M1 H1 G1 q R1 s1 => ?_⟩
    obtain ⟨v, h1, h2, q⟩ := q
    cases t with
    | true => exact ⟨r, M1, G1, _, R1, h1 rfl, fun d M' v H' G' q' R' s p => by
        obtain ⟨rfl, rfl⟩ := q'
        exact k _ _ _ _ _ q R' (s1.tr s) p⟩
    | false => exact ⟨r, M1, G1, _, R1, h2 rfl, fun d M' v H' G' q' R' s p => by
        obtain ⟨rfl, rfl⟩ := q'
        exact k _ _ _ _ _ q R' (s1.tr s) p⟩
end
end Z
namespace Z
open PySem PySem.Spec PyProof.Rows L2
theorem log_sm {i : Int} {n : Nat} (h : i.natAbs < 2 ^ n) (hn : n ≤ 1900) : i.natAbs.log2 < 1920 := by
  by_cases e : i.natAbs = 0
  · rw [e]; decide
  · have := (Nat.log2_lt e).mpr h
    omega
theorem sz_le {x : Str} {n : Nat} (h : x.length ≤ n) (hn : n ≤ 1000000) : x.length ≤ sizeLine := Nat.le_trans h (Nat.le_trans hn big_ok)
theorem sz_int {i : Int} {n : Nat} (h : i.natAbs < 2 ^ n) (hn : n ≤ 1900) : (Str.ofString (toString i)).length ≤ 1921 := PyProof.Rows.int_text_len_1921 (log_sm h hn)
theorem ix_t {M : Sto} {l : List D} {i : Int} {d : D} {φ : D → Prop} (e : L2.atI l i = some d) (h : φ d) : ixD M (.tup l) (.int i) φ := optK_of e h
def wds : Nat → List (List Nat)
  | 0 => [[]]
  | n + 1 => [] :: ((wds n).map (76 :: ·) ++ (wds n).map (82 :: ·))
theorem mem_wds : ∀ {n : Nat} {w : List Nat}, LR w → w.length ≤ n → w ∈ wds n
  | 0, [], _, _ => by simp [wds]
  | 0, c :: w, _, h => by simp at h
  | n + 1, [], _, _ => List.mem_cons_self
  | n + 1, c :: w, hl, h => by
    have ih := mem_wds (n := n) (w := w) (fun d hd => hl d (List.mem_cons_of_mem _ hd)) (by simpa using h)
    refine List.mem_cons_of_mem _ (List.mem_append.mpr ?_)
    rcases hl c List.mem_cons_self with rfl | rfl
    · exact .inl (List.mem_map.mpr ⟨w, ih, rfl⟩)
    · exact .inr (List.mem_map.mpr ⟨w, ih, rfl⟩)
theorem wds3 : ∀ w ∈ wds 3, (wL w).1 ≤ 3 ∧ (wL w).2.1 ≤ 3 ∧ (wL w).2.2.1 ≤ 3 ∧ (wL w).2.2.2 ≤ 3 := by decide +kernel
theorem w3_le {w : List Nat} (h : LR w) (hl : w.length ≤ 3) : (wL w).1 ≤ 3 ∧ (wL w).2.1 ≤ 3 ∧ (wL w).2.2.1 ≤ 3 ∧ (wL w).2.2.2 ≤ 3 := wds3 w (mem_wds h hl)
structure Le4 (n : Int) (t : T4) : Prop where
  a : t.1 ≤ n
  b : t.2.1 ≤ n
  c : t.2.2.1 ≤ n
  d : t.2.2.2 ≤ n
theorem le_two {x y z w m n : Int} (hx : 0 ≤ x) (hy : 0 ≤ y) (h1 : x ≤ m) (h2 : y ≤ m) (h3 : z ≤ n) (h4 : w ≤ n) (hn : 0 ≤ n) : x * z + y * w ≤ 2 * m * n := by
  have k1 : x * z ≤ x * n := Int.mul_le_mul_of_nonneg_left h3 hx
  have k2 : x * n ≤ m * n := Int.mul_le_mul_of_nonneg_right h1 hn
  have k3 : y * w ≤ y * n := Int.mul_le_mul_of_nonneg_left h4 hy
  have k4 : y * n ≤ m * n := Int.mul_le_mul_of_nonneg_right h2 hn
  have : 2 * m * n = m * n + m * n := by rw [Int.mul_assoc, Int.two_mul]
  omega
theorem Le4.mul {s t : T4} {m n : Int} (hs : Nn s) (h1 : Le4 m s) (h2 : Le4 n t) (hn : 0 ≤ n) : Le4 (2 * m * n) (mul4 s t) :=
  ⟨le_two hs.1 hs.2.1 h1.a h1.b h2.a h2.c hn, le_two hs.1 hs.2.1 h1.a h1.b h2.b h2.d hn, le_two hs.2.2.1 hs.2.2.2 h1.c h1.d h2.a h2.c hn, le_two hs.2.2.1 hs.2.2.2 h1.c h1.d h2.b h2.d hn⟩
theorem Le4.sum {t : T4} {n : Nat} (hn : Nn t) (h : Le4 n t) : sum4 t ≤ 4 * n := by
  obtain ⟨h1, h2, h3, h4⟩ := hn
  obtain ⟨k1, k2, k3, k4⟩ := h
  unfold sum4
  omega
def sw4' (t : T4) : T4 := (t.2.1, t.1, t.2.2.2, t.2.2.1)
theorem det_sw' (t : T4) : det4 (sw4' t) = - det4 t := by unfold det4 sw4'; simp only; grind
theorem nn_sc' {m : Int} {t : T4} (hm : 0 ≤ m) (h : Nn t) : Nn (sc m t) := ⟨Int.mul_nonneg hm h.1, Int.mul_nonneg hm h.2.1, Int.mul_nonneg hm h.2.2.1, Int.mul_nonneg hm h.2.2.2⟩
theorem det_sc_pos {m : Int} {t : T4} (hm : 1 ≤ m) (h : 0 < det4 t) : 0 < det4 (sc m t) := by
  rw [det_sc']
  exact Int.mul_pos (Int.mul_pos (by omega) (by omega)) h
theorem sum_sc {m : Int} {t : T4} : sum4 (sc m t) = m.natAbs * sum4 t := by
  unfold sum4 sc
  simp only [Int.natAbs_mul, Nat.mul_add]
theorem sum_sw (t : T4) : sum4 (sw4' t) = sum4 t := by unfold sum4 sw4'; simp only; omega
theorem sm_of_sum {t : T4} {n : Nat} (h : sum4 t < 2 ^ n) : Sm n t := by
  obtain ⟨h1, h2, h3, h4⟩ := abs_sum (t := t)
  exact ⟨by omega, by omega, by omega, by omega⟩
theorem mul_sc4 (m : Int) (s t : T4) : mul4 s (sc m t) = sc m (mul4 s t) := by
  unfold mul4 sc
  simp only [Prod.mk.injEq]
  refine ⟨?_, ?_, ?_, ?_⟩ <;> grind
theorem Tk.app {t u : T4} {v w : List Nat} (hv : LR v) (h : Tk t w u) : Tk (mul4 (wL v) t) (v ++ w) u :=
  ⟨fun c hc => (List.mem_append.mp hc).elim (hv c) (h.lr c), by rw [wL_app, mul_assoc4, h.eq], h.nn, h.bal⟩
end Z
namespace Z
open PySem PySem.Spec PyProof.Rows L2
def Ib (n : Nat) (i : Int) : Prop := i.natAbs < 2 ^ n
theorem Ib.mono {n m : Nat} {i : Int} (h : Ib n i) (hm : n ≤ m) : Ib m i := Nat.lt_of_lt_of_le h (Nat.pow_le_pow_right (by decide) hm)
theorem Ib.mul {n m : Nat} {i j : Int} (h : Ib n i) (k : Ib m j) : Ib (n + m) (i * j) := by
  unfold Ib at *
  rw [Int.natAbs_mul, Nat.pow_add]
  exact Nat.mul_lt_mul'' h k
theorem Ib.add {n : Nat} {i j : Int} (h : Ib n i) (k : Ib n j) : Ib (n + 1) (i + j) := by
  unfold Ib at *
  rw [Nat.pow_succ]
  generalize 2 ^ n = z at *
  omega
theorem Ib.sub {n : Nat} {i j : Int} (h : Ib n i) (k : Ib n j) : Ib (n + 1) (i - j) := by
  unfold Ib at *
  rw [Nat.pow_succ]
  generalize 2 ^ n = z at *
  omega
theorem Ib.neg {n : Nat} {i : Int} (h : Ib n i) : Ib n (-i) := by unfold Ib at *; rw [Int.natAbs_neg]; exact h
theorem Ib.le {n : Nat} {i j : Int} (h : Ib n i) (k : j.natAbs ≤ i.natAbs) : Ib n j := Nat.lt_of_le_of_lt k h
theorem Ib.bits {n : Nat} {i : Int} (h : Ib n i) (hn : n ≤ 100000) : Builtin.Int.intBits i ≤ 2 ^ 20 := by
  unfold Builtin.Int.intBits
  unfold Ib at h
  by_cases e : i.natAbs = 0
  · have : i = 0 := by omega
    subst this
    decide
  · have := (Nat.log2_lt e).mpr h
    split <;> omega
theorem Ib.mok {n m : Nat} {i j : Int} (h : Ib n i) (k : Ib m j) (hn : n ≤ 100000) (hm : m ≤ 100000) : IntMulOk i j := IntMulOk.of_bits (h.bits hn) (k.bits hm)
theorem Ib.str {n : Nat} {i : Int} (h : Ib n i) (hn : n ≤ 1900) : (Str.ofString (toString i)).length ≤ 1921 := sz_int h hn
def rtN : Nat → Nat
  | 0 => 0
  | n + 1 => if (rtN n + 1) * (rtN n + 1) ≤ n + 1 then rtN n + 1 else rtN n
theorem sq_succ (r : Nat) : (r + 1) * (r + 1) = r * r + 2 * r + 1 := by grind
theorem rtN_spec : ∀ n : Nat, rtN n * rtN n ≤ n ∧ n < (rtN n + 1) * (rtN n + 1)
  | 0 => by decide
  | n + 1 => by
    obtain ⟨h1, h2⟩ := rtN_spec n
    unfold rtN
    split
    · rename_i h
      refine ⟨h, ?_⟩
      rw [sq_succ]
      omega
    · exact ⟨by omega, by omega⟩
def rtI (u : Int) : Int := rtN u.toNat
def Sq (u : Int) : Prop := rtI u * rtI u = u
instance (u : Int) : Decidable (Sq u) := inferInstanceAs (Decidable (rtI u * rtI u = u))
abbrev T3 := Int × Int × Int
def sgI (b : Int) : Int := if 0 < b then 1 else -1
def gF2 (t b u : Int) : Int := (gN [t + rtI u, b] : Int) * sgI b
def gI3 (t b u : Int) : Int := (gN [b * b, 2 * t * b, t * t - u] : Int) * sgI b
def nf (t b u : Int) : T3 :=
  if Sq u then ((t + rtI u).fdiv (gF2 t b u), b.fdiv (gF2 t b u), 0)
  else (-((-2 * t * b).fdiv (gI3 t b u)), 2 * (b * b).fdiv (gI3 t b u), (-2 * t * b).fdiv (gI3 t b u) * (-2 * t * b).fdiv (gI3 t b u) - 4 * (b * b).fdiv (gI3 t b u) * (t * t - u).fdiv (gI3 t b u))
theorem Ib.rt {n : Nat} {u : Int} (h : Ib n u) (h0 : 0 ≤ u) : Ib n (rtI u) := by
  refine h.le ?_
  obtain ⟨v, rfl⟩ := Int.eq_ofNat_of_zero_le h0
  unfold rtI
  rw [Int.toNat_natCast]
  have := (rtN_spec v).1
  have := Nat.le_mul_self (rtN v)
  omega
theorem Ib.c {i : Int} (n : Nat) (h : i.natAbs < 2 ^ n := by decide) : Ib n i := h
theorem sz2 {x y : Str} {n m : Nat} (h : x.length ≤ n) (h' : y.length ≤ m) (hn : n + m ≤ 1000000) : x.length + y.length ≤ sizeLine := Nat.le_trans (Nat.add_le_add h h') (Nat.le_trans hn big_ok)
end Z
namespace Z
open PySem PySem.Spec PyProof.Rows L2
def s3 (x : Int) : Int := if 0 < x then 1 else if x < 0 then -1 else 0
def Gp (a p : Int) : Prop := 0 < a ∨ a * a < p
def Gm (a p : Int) : Prop := 0 < a ∧ p < a * a
def Gt (a b u : Int) : Prop := (0 ≤ b ∧ Gp a (b * b * u)) ∨ (b < 0 ∧ Gm a (b * b * u))
def Lt (a b u : Int) : Prop := Gt (-a) (-b) u
end Z
namespace Z
open PySem PySem.Spec PyProof.Rows L2
end Z
namespace Z
open PySem PySem.Spec PyProof.Rows L2
end Z
namespace Z
open PySem PySem.Spec PyProof.Rows L2
end Z
namespace Z
open PySem PySem.Spec PyProof.Rows L2
theorem Ib.up {n : Nat} {x : Int} (h : Ib n x) : x < 2 ^ n ∧ -(2 ^ n) < x := by
  unfold Ib at h
  have : ((2 ^ n : Nat) : Int) = 2 ^ n := by simp
  rw [← this]
  generalize 2 ^ n = z at *
  omega
theorem big {S b f Q v x : Int} (hS : 2 ^ 199 ≤ S) (iS : Ib 200 S) (hb : 1 ≤ b) (hf : 0 ≤ f * Q) (if_ : Ib 70 (f * Q)) (hv : S * b - f * Q ≤ v) (ix : Ib 380 x) : (2 : Int) ^ 160 * 2 ^ 223 ≤ S * v + x := by
  obtain ⟨u1, _⟩ := if_.up
  obtain ⟨_, u2⟩ := ix.up
  have h1 := Int.mul_le_mul_of_nonneg_left hb (show 0 ≤ S by omega)
  have h2 : 2 ^ 198 ≤ v := by omega
  have h3 := Int.mul_le_mul hS h2 (by decide) (by omega)
  have h4 : (2 : Int) ^ 160 * 2 ^ 223 + 2 ^ 380 ≤ 2 ^ 199 * 2 ^ 198 := by decide
  omega
end Z
namespace Z
open PySem PySem.Spec PyProof.Rows L2

section
variable {X : Cx} {Wout : WX} {D : Ends} {pins : List (Addr × Obj)} {σ : L2.St} {H : Hp} {sI : Shared} {a : Addr} {cls : Value} {d : Option Addr} {B : Heap}
end
end Z
namespace Z
open PySem PySem.Spec PyProof.Rows L2

section
variable {X : Cx} {B : Bs} {pos : Pos} {a b e : Expr} {fa fb : DTE}
end

section
variable {X : Cx} {B : Bs} {pos : Pos} {e : Expr} {fa : DTE} {a : Addr} {oe : Obj} {x : XD} {cls : Value} {d : Option Addr} {n : Str}
end
section
variable {P : Program} {w : World} {K : PySem.W.Frag} {mg : Str → Option Value} {base : Heap} {k : Nat} {f : Addr} {fd : FuncData} {N ps : List Str} {x qual : Str} {st : Stmt} {dvs : List V} {kws : List (Str × V)}
end
section
variable {X : Cx} {B : Bs} {pos p : Pos} {e : Expr} {ga : DTA} {a : Addr} {oe : Obj} {y : XD} {cls : Value} {d : Option Addr} {x : Str} {c : Addr → XD → Ct} {pn : List (Addr × Obj)}
end
end Z
namespace Z
open PySem PySem.Spec PyProof.Rows L2

def Bs.at (H G : Hp) (M : Sto) : Bs := ⟨H, G, M⟩
theorem Rel.here {K : PySem.W.Frag} {B : Bs} {r : En} {M : Sto} {σ : L2.St} {H G : Hp} (R : Rel K B r M σ H G) : Rel K (Bs.at H G M) r M σ H G := ⟨R.wd, R.len, R.slots, Since.refl⟩
theorem Rel.back {K : PySem.W.Frag} {B : Bs} {r r' : En} {M M' : Sto} {σ σ' : L2.St} {H G H' G' : Hp} (R : Rel K B r M σ H G) (R' : Rel K (Bs.at H G M) r' M' σ' H' G') : Rel K B r' M' σ' H' G' := ⟨R'.wd, R'.len, R'.slots, Since.trans R.wd R.sin R'.sin⟩
theorem EkOk.here {K : PySem.W.Frag} {B : Bs} {r : En} {M : Sto} {σ : L2.St} {H G : Hp} {E : Ek} {D : Ends} (k : EkOk K B G E D) (R : Rel K B r M σ H G) : EkOk K (Bs.at H G M) G E D :=
  ⟨fun r' M' σ' H' G' q R' s => k.nx _ _ _ _ _ q (R.back R') s, fun d r' M' v σ' H' G' q R' p => k.rt _ _ _ _ _ _ _ q (R.back R') p, fun r' M' σ' H' G' q R' s => k.bk _ _ _ _ _ q (R.back R') s, fun r' M' σ' H' G' q R' s => k.ct _ _ _ _ _ q (R.back R') s⟩
section
variable {X : Cx} {B : Bs} {Ξ : XD → En → Sto → Prop} {E : Ek} {D : Ends} {G0 : Hp} {r0 : En} {M0 : Sto} {σ0 : L2.St} {H0 : Hp}
end
structure Lam where
  q : Str
  params : Arguments
  body : Expr
  scope : Scope
  cl : List (Str × Addr)
section
variable {X : Cx} {pins : List (Addr × Obj)} {σ : L2.St} {H : Hp} {s : Shared}
end
section
variable {X : Cx} {B : Bs} {pos : Pos} {l : Lam} {P c : Addr}
end
end Z
namespace Z
open PySem PySem.Spec PyProof.Rows L2

section
variable {X : Cx} {B : Bs} {pos p1 : Pos} {l : Lam} {P c : Addr}
end
section
variable {X : Cx} {pins : List (Addr × Obj)} {σ : L2.St} {H HZ : Hp} {s s1 : Shared} {l : Lam} {ps : List Str}
end
section
variable {X : Cx} {pins : List (Addr × Obj)} {σ : L2.St} {H G : Hp} {s : Shared} {l : Lam} {ps : List Str} {ns : List Int} {B : Bs} {r : En} {M : Sto} {k : Nat} {t : (XD → En → Sto → Prop) → DTE} {Ng : List Str} {qg : Str} {sg : Scope} {g : Addr} {cdg : Value} {Eg : XK} {CXg : CXT}
end
end Z
namespace Z
open PySem PySem.Spec PyProof.Rows L2

section
variable {X : Cx} {B : Bs} {k j : Nat} {x : Str} {pos p : Pos} {e : Expr} {ga : DTA}
end
end Z
namespace Z
open PySem PySem.Spec PyProof.Rows L2

end Z
namespace Z
open PySem PySem.Spec PyProof.Rows L2

section
variable {K : PySem.W.Frag} {C : Str} {n t : Str} {fs : List (Str × D)} {φ : Str → D → Prop} {v : D}
end
end Z
namespace Z
open PySem PySem.Spec PyProof.Rows L2

theorem ltm_max {a b c d : Int} (hc : 0 ≤ c) (hd : 0 ≤ d) (h : 0 < c ∨ 0 < d) : ¬ (c ≤ a - ltm a b c d * c ∧ d ≤ b - ltm a b c d * d) := fun ⟨h1, h2⟩ => by
  have k1 : 0 < c → ltm a b c d + 1 ≤ a.fdiv c := fun e => le_fdiv e (by rw [Int.add_mul, Int.one_mul]; omega)
  have k2 : 0 < d → ltm a b c d + 1 ≤ b.fdiv d := fun e => le_fdiv e (by rw [Int.add_mul, Int.one_mul]; omega)
  generalize hm : ltm a b c d = m at *
  unfold ltm at hm
  split at hm
  · rename_i e1
    split at hm
    · rename_i e2
      have := k1 e1; have := k2 e2
      omega
    · have := k1 e1
      omega
  · rename_i e1
    have := k2 (h.resolve_left e1)
    omega
theorem not_bR {t : T4} {k : Nat} (hn : Nn t) (hd : 0 < det4 t) (hk : ltm t.1 t.2.1 t.2.2.1 t.2.2.2 = (k : Int)) : bR (subR k t) = false := by
  have h := ltm_max (a := t.1) (b := t.2.1) hn.2.2.1 hn.2.2.2 (low_pos hn hd).1
  rw [hk] at h
  cases e : bR (subR k t) with
  | false => rfl
  | true => exact absurd (bR_of e) h
theorem not_bL {t : T4} {k : Nat} (hn : Nn t) (hd : 0 < det4 t) (hk : ltm t.2.2.1 t.2.2.2 t.1 t.2.1 = (k : Int)) : bL (subL k t) = false := by
  have h := ltm_max (a := t.2.2.1) (b := t.2.2.2) hn.1 hn.2.1 (low_pos hn hd).2
  rw [hk] at h
  cases e : bL (subL k t) with
  | false => rfl
  | true => exact absurd (bL_of e) h
def c1s (t : T4) : Int := t.1 + t.2.2.1
def c2s (t : T4) : Int := t.2.1 + t.2.2.2
theorem c1_R (w : T4) (k : Int) : c1s (mul4 w (1, k, 0, 1)) = c1s w ∧ c2s (mul4 w (1, k, 0, 1)) = k * c1s w + c2s w := by
  unfold c1s c2s mul4
  simp only
  refine ⟨by grind, by grind⟩
theorem c1_L (w : T4) (k : Int) : c1s (mul4 w (1, 0, k, 1)) = c1s w + k * c2s w ∧ c2s (mul4 w (1, 0, k, 1)) = c2s w := by
  unfold c1s c2s mul4
  simp only
  refine ⟨by grind, by grind⟩
structure Few (l : List Rn) (t : T4) : Prop where
  p1 : 1 ≤ c1s (wL (wR l))
  p2 : 1 ≤ c2s (wL (wR l))
  pw : (2 : Int) ^ l.length ≤ c1s (wL (wR l)) * c2s (wL (wR l))
  r : bR t = true → c2s (wL (wR l)) ≤ c1s (wL (wR l))
  l : bL t = true → c1s (wL (wR l)) ≤ c2s (wL (wR l))
theorem Few.nil (t : T4) : Few [] t := ⟨by decide, by decide, by decide, fun _ => by decide, fun _ => by decide⟩
theorem Few.R {l : List Rn} {t t' : T4} {k : Nat} (h : Few l t) (hb : bR t = true) (hk : 1 ≤ k) (hn : bR t' = false) : Few (l ++ [(82, k)]) t' := by
  have e : wL (wR (l ++ [(82, k)])) = mul4 (wL (wR l)) (1, (k : Int), 0, 1) := by rw [wR_snoc, wL_app, wL_Rs]
  obtain ⟨e1, e2⟩ := c1_R (wL (wR l)) k
  have hs := h.r hb
  have p1 := h.p1
  have p2 := h.p2
  have hk' : c1s (wL (wR l)) ≤ (k : Int) * c1s (wL (wR l)) := by
    have := Int.mul_le_mul_of_nonneg_right (show (1 : Int) ≤ k by omega) (show 0 ≤ c1s (wL (wR l)) by omega)
    omega
  refine ⟨by rw [e, e1]; exact p1, by rw [e, e2]; omega, ?_, (fun z => by rw [hn] at z; cases z), (fun _ => by rw [e, e1, e2]; omega)⟩
  rw [e, e1, e2, List.length_append]
  show (2 : Int) ^ (l.length + 1) ≤ _
  rw [Int.pow_succ]
  have pw := h.pw
  generalize c1s (wL (wR l)) = x at *
  generalize c2s (wL (wR l)) = y at *
  have h1 : x * (x + y) ≤ x * ((k : Int) * x + y) := Int.mul_le_mul_of_nonneg_left (by omega) (by omega)
  have h2 : x * (y + y) ≤ x * (x + y) := Int.mul_le_mul_of_nonneg_left (by omega) (by omega)
  have h3 : x * (y + y) = x * y * 2 := by grind
  omega
theorem Few.L {l : List Rn} {t t' : T4} {k : Nat} (h : Few l t) (hb : bL t = true) (hk : 1 ≤ k) (hn : bL t' = false) : Few (l ++ [(76, k)]) t' := by
  have e : wL (wR (l ++ [(76, k)])) = mul4 (wL (wR l)) (1, 0, (k : Int), 1) := by rw [wR_snoc, wL_app, wL_Ls]
  obtain ⟨e1, e2⟩ := c1_L (wL (wR l)) k
  have hs := h.l hb
  have p1 := h.p1
  have p2 := h.p2
  have hk' : c2s (wL (wR l)) ≤ (k : Int) * c2s (wL (wR l)) := by
    have := Int.mul_le_mul_of_nonneg_right (show (1 : Int) ≤ k by omega) (show 0 ≤ c2s (wL (wR l)) by omega)
    omega
  refine ⟨by rw [e, e1]; omega, by rw [e, e2]; exact p2, ?_, (fun _ => by rw [e, e1, e2]; omega), (fun z => by rw [hn] at z; cases z)⟩
  rw [e, e1, e2, List.length_append]
  show (2 : Int) ^ (l.length + 1) ≤ _
  rw [Int.pow_succ]
  have pw := h.pw
  generalize c1s (wL (wR l)) = x at *
  generalize c2s (wL (wR l)) = y at *
  have h1 : (x + y) * y ≤ (x + (k : Int) * y) * y := Int.mul_le_mul_of_nonneg_right (by omega) (by omega)
  have h2 : (x + x) * y ≤ (x + y) * y := Int.mul_le_mul_of_nonneg_right (by omega) (by omega)
  have h3 : (x + x) * y = x * y * 2 := by grind
  omega
theorem col_sum {w t u : T4} (h : mul4 w t = u) (hw1 : 1 ≤ c1s w) (hw2 : 1 ≤ c2s w) (hn : Nn t) (hd : 0 < det4 t) (hu : Nn u) : c1s w ≤ sum4 u ∧ c2s w ≤ sum4 u := by
  obtain ⟨l1, l2⟩ := low_pos hn hd
  have e : (sum4 u : Int) = c1s w * (t.1 + t.2.1) + c2s w * (t.2.2.1 + t.2.2.2) := by
    obtain ⟨h1, h2, h3, h4⟩ := hu
    have z : (sum4 u : Int) = u.1 + u.2.1 + u.2.2.1 + u.2.2.2 := by unfold sum4; omega
    rw [z, ← h]
    unfold mul4 c1s c2s
    simp only
    grind
  obtain ⟨n1, n2, n3, n4⟩ := hn
  have a1 : c1s w * 1 ≤ c1s w * (t.1 + t.2.1) := Int.mul_le_mul_of_nonneg_left (by omega) (by omega)
  have a2 : c2s w * 1 ≤ c2s w * (t.2.2.1 + t.2.2.2) := Int.mul_le_mul_of_nonneg_left (by omega) (by omega)
  omega
theorem Few.len {l : List Rn} {t u : T4} {n : Nat} (h : Few l t) (e : mul4 (wL (wR l)) t = u) (hn : Nn t) (hd : 0 < det4 t) (hu : Nn u) (hs : sum4 u < 2 ^ n) : l.length < n + n := by
  obtain ⟨a, b⟩ := col_sum e h.p1 h.p2 hn hd hu
  have pw := h.pw
  have p1 := h.p1
  have p2 := h.p2
  have z : (sum4 u : Int) < 2 ^ n := by exact_mod_cast hs
  have m : c1s (wL (wR l)) * c2s (wL (wR l)) < (2 : Int) ^ n * 2 ^ n := by
    have m1 : c1s (wL (wR l)) * c2s (wL (wR l)) ≤ (sum4 u : Int) * sum4 u := Int.mul_le_mul a b (by omega) (by omega)
    have m2 : (sum4 u : Int) * sum4 u < (2 : Int) ^ n * 2 ^ n := Int.mul_lt_mul z (by omega) (by omega) (by omega)
    omega
  rw [← Int.pow_add] at m
  rcases Nat.lt_or_ge l.length (n + n) with q | q
  · exact q
  · have z2 : (2 : Int) ^ (n + n) ≤ 2 ^ l.length := by exact_mod_cast Nat.pow_le_pow_right (n := 2) (by decide) q
    omega
end Z
namespace Z
open PySem PySem.Spec PyProof.Rows L2
def oc (c : Nat) : Nat := if c = 76 then 82 else 76
theorem ch_eq {c d : Nat} : ((⟨#[c]⟩ : Str) = ⟨#[d]⟩) ↔ c = d := ⟨fun h => by
  have := congrArg (fun z : Str => z.cps.toList) h
  simpa using this, fun h => by rw [h]⟩
end Z
namespace Z
open PySem PySem.Spec PyProof.Rows L2

section
variable {X : Cx} {σ : L2.St} {H HZ : Hp} {s s1 : Shared} {l : Lam} {ps : List Str} {St : List Env}
end
section
variable {X : Cx} {σ : L2.St} {H G : Hp} {s : Shared} {l : Lam} {ps : List Str} {ns : List Int} {B : Bs} {r : En} {M : Sto} {k : Nat} {t : (XD → En → Sto → Prop) → DTE} {Ng : List Str} {qg : Str} {sg : Scope} {g : Addr} {cdg : Value} {Eg : XK} {CXg : CXT} {St : List Env}
end
end Z
namespace Z
open PySem PySem.Spec PyProof.Rows L2

section
variable {X : Cx} {B : Bs} {j k : Nat} {x : Str} {e : Expr} {ga : DTA} {p cpos pos : Pos}
end
end Z
namespace Z
open PySem PySem.Spec PyProof.Rows L2

inductive Two {α β : Type} (R : α → β → Prop) : List α → List β → Prop
  | nil : Two R [] []
  | cons {x : α} {y : β} {xs : List α} {ys : List β} (h : R x y) (r : Two R xs ys) : Two R (x :: xs) (y :: ys)
theorem Two.len {α β : Type} {R : α → β → Prop} : ∀ {xs : List α} {ys : List β}, Two R xs ys → xs.length = ys.length
  | _, _, .nil => rfl
  | _, _, .cons _ r => congrArg (· + 1) r.len
theorem Two.at {α β : Type} {R : α → β → Prop} : ∀ {xs : List α} {ys : List β}, Two R xs ys → ∀ (i : Nat) (d : α), xs[i]? = some d → ∃ y, ys[i]? = some y ∧ R d y
  | _, _, .cons h r, 0, d, e => by
    simp only [List.getElem?_cons_zero, Option.some.injEq] at e
    subst e
    exact ⟨_, rfl, h⟩
  | _, _, .cons h r, i + 1, d, e => by
    simp only [List.getElem?_cons_succ] at e ⊢
    exact r.at i d e
section
variable {vs : List Nat} {wi : DTI} {as : D → En → (En → Prop) → Prop} {fe : DTE} {r : En} {M : Sto} {Φ : List D → Sto → Prop}
theorem compD_two {xs ys : List D} {S : Sto → Prop} (hw : ∀ K : List D → (Sto → Prop) → Sto → Prop, K xs S M → wi r M K) (hS : S M) (hl : xs.length ≤ sizeLine) (h : Two (fun d y => ∀ Q : D → Sto → Prop, Q y M → as d (wipeD r vs) fun r2 => fe r2 M Q) xs ys) (fin : Φ ys M) :
    compD vs wi as (fun _ M Ψ => Ψ true M) fe r M Φ := by
  unfold compD
  refine hw _ ⟨fun i acc M' => M' = M ∧ acc = ys.take i, ⟨rfl, rfl⟩, fun i acc M' h => by rw [h.1]; exact hS, fun i d acc M' hd ⟨e1, e2⟩ => ?_, fun acc M' ⟨e1, e2⟩ => ?_⟩
  · subst e1 e2
    obtain ⟨y, hy, q⟩ := h.at i d hd
    obtain ⟨hi, ei⟩ := List.getElem?_eq_some_iff.mp hy
    obtain ⟨hx, _⟩ := List.getElem?_eq_some_iff.mp hd
    have hlt : (ys.take i).length < sizeLine := Nat.lt_of_le_of_lt (List.length_take_le _ _) (Nat.lt_of_lt_of_le hx hl)
    refine q _ ?_
    refine ⟨hlt, rfl, ?_⟩
    rw [List.take_add_one, hy]
    rfl
  · subst e1 e2
    rw [h.len, List.take_length]
    exact fin
end
theorem RepL.rep {K : PySem.W.Frag} {G : Hp} {a : List D} {us : List V} (r : RepL K G a us) : ∀ n : Nat, RepL K G (List.replicate n a).flatten (List.replicate n us).flatten
  | 0 => .nil
  | n + 1 => by
    rw [List.replicate_succ, List.replicate_succ, List.flatten_cons, List.flatten_cons]
    exact r.app (r.rep n)
end Z
namespace Z
open PySem PySem.Spec PyProof.Rows L2

section
variable {X : Cx} {B : Bs} {o e a b c : Expr} {es : List Expr} {fo : DTE} {ga : DTA} {apos pos p : Pos}
end
end Z
namespace Z
open PySem PySem.Spec PyProof.Rows L2

def PerF (f : Nat → Nat) (k : Nat) : Prop := ∀ i, f (i + k) = f i
theorem PerF.mul {f : Nat → Nat} {k : Nat} (h : PerF f k) (q i : Nat) : f (i + k * q) = f i := by
  induction q with
  | zero => rfl
  | succ q ih => rw [Nat.mul_succ, ← Nat.add_assoc, h, ih]
theorem PerF.sub {f : Nat → Nat} {a b : Nat} (ha : PerF f a) (hb : PerF f b) : PerF f (b % a) := fun i => by
  have := ha.mul (b / a) (i + b % a)
  rw [Nat.add_assoc, Nat.mod_add_div, hb] at this
  exact this.symm
theorem PerF.gcd {f : Nat → Nat} (a b : Nat) : PerF f a → PerF f b → PerF f (Nat.gcd a b) := by
  induction a, b using Nat.gcd.induction with
  | H0 n => intro _ hb; rw [Nat.gcd_zero_left]; exact hb
  | H1 m n hm ih =>
    intro ha hb
    rw [Nat.gcd_rec]
    exact ih (ha.sub hb) ha
end Z
namespace Z
open PySem PySem.Spec PyProof.Rows L2

theorem wlen {w : List Nat} : (⟨w.toArray⟩ : Str).length = w.length := List.size_toArray
theorem wapp {a b : List Nat} : (⟨a.toArray⟩ : Str) ++ ⟨b.toArray⟩ = ⟨(a ++ b).toArray⟩ := by
  show (⟨_ ++ _⟩ : Str) = _
  simp
theorem weq {a b : List Nat} : (⟨a.toArray⟩ : Str) = ⟨b.toArray⟩ ↔ a = b := ⟨fun h => by
  have : a.toArray = b.toArray := congrArg Str.cps h
  simpa using this, fun h => by rw [h]⟩
theorem cut_take {w : List Nat} {k : Nat} : cutS ⟨w.toArray⟩ none (some (k : Int)) = ⟨(w.take k).toArray⟩ := by
  unfold cutS
  rw [HT.sIx_nat, HT.sIx_none, wlen]
  simp only [List.drop_zero, Nat.sub_zero, List.take_eq_take_iff.mpr]
  congr 2
  rcases Nat.le_total k w.length with h | h
  · rw [Nat.min_eq_left h]
  · rw [Nat.min_eq_right h, List.take_of_length_le (Nat.le_refl _), List.take_of_length_le h]
theorem mul_word {w : List Nat} {k : Nat} : Txt.mul ⟨w.toArray⟩ (k : Int) = ⟨(List.replicate k w).flatten.toArray⟩ := by
  unfold Txt.mul
  by_cases h : (k : Int) < 1
  · rw [if_pos h]
    have : k = 0 := by omega
    subst this; rfl
  · rw [if_neg h]
    by_cases h1 : k = 1 ∨ w = []
    · rw [if_pos (by rcases h1 with e | e <;> subst e <;> simp [Str.length])]
      rcases h1 with e | e
      · subst e
        simp
      · subst e
        simp
    · have h2 : ¬ k = 1 ∧ ¬ w = [] := ⟨fun z => h1 (.inl z), fun z => h1 (.inr z)⟩
      rw [if_neg (by simp [Str.length]; exact ⟨by omega, h2.2⟩)]
      have e := fold_rep w.toArray k #[]
      simp only [Int.toNat_natCast]
      generalize hz : (List.replicate k w.toArray).foldl (· ++ ·) #[] = z at e ⊢
      have e2 : z.toList = (List.replicate k w).flatten := by rw [e]; simp
      rw [← e2]
end Z
namespace Z
open PySem PySem.Spec PyProof.Rows L2

end Z
namespace Z
open PySem PySem.Spec PyProof.Rows L2

section
variable {M : Sto} {w u : List Nat} {φ : D → Prop} {Φ : PD}
theorem w_sz (h : w.length ≤ 400000) : (⟨w.toArray⟩ : Str).length ≤ sizeLine := sz_le (n := 400000) (by rw [wlen]; exact h) (by decide)
theorem sl_take {k : Nat} (h : w.length ≤ 400000) (q : φ (.str ⟨(w.take k).toArray⟩)) : slD M (.str ⟨w.toArray⟩) none (some (k : Int)) φ := by
  refine ⟨w_sz h, ?_⟩
  rw [cut_take]
  exact q
theorem add_w (h : w.length ≤ 400000) (h' : u.length ≤ 400000) (q : φ (.str ⟨(w ++ u).toArray⟩)) : addD M (.str ⟨w.toArray⟩) (.str ⟨u.toArray⟩) φ := by
  refine ⟨sz2 (n := 400000) (m := 400000) (by rw [wlen]; exact h) (by rw [wlen]; exact h') (by decide), ?_⟩
  rw [wapp]
  exact q
theorem mul_w {k : Nat} (hk : k ≤ 400000) (h : w.length * k ≤ 400000) (h' : w.length ≤ 400000) (q : φ (.str ⟨(List.replicate k w).flatten.toArray⟩)) : mulSD M (.str ⟨w.toArray⟩) (.int (k : Int)) φ := by
  refine ⟨⟨?_, fun h1 h2 => ?_, fun h1 h2 => ?_⟩, ?_⟩
  · rw [Bool.or_eq_false_iff]
    exact ⟨decide_eq_false (by omega), decide_eq_false (by omega)⟩
  · rw [wlen]
    have : (w.length : Int) ≤ (2 ^ 63 - 1) / (k : Int) := (Int.le_ediv_iff_mul_le (by omega)).mpr (by
      have : ((w.length * k : Nat) : Int) ≤ 400000 := by omega
      rw [Int.natCast_mul] at this
      omega)
    omega
  · rw [wlen, Int.toNat_natCast]
    show decide (w.length * k > sizeLine) = false
    refine decide_eq_false ?_
    have := big_ok
    omega
  · rw [mul_word]
    exact q
theorem inKI {i : Int} {ψ : Int → Prop} (q : ψ i) : inK (.int i) ψ := q
theorem eq_w {s : List Nat} {t : List Nat} (q : φ (.bl (decide (s = t)))) : eqD M (.str ⟨s.toArray⟩) (.str ⟨t.toArray⟩) φ := eqS (by rw [show decide ((⟨s.toArray⟩ : Str) = ⟨t.toArray⟩) = decide (s = t) from decide_eq_decide.mpr weq]; exact q)
end
theorem PerF.least {f : Nat → Nat} {m k : Nat} (m0 : 0 < m) (pm : PerF f m) (hm : ∀ j, j < m → ¬ (0 < j ∧ PerF f j)) (p : PerF f k) : m ∣ k := by
  have g := PerF.gcd m k pm p
  have h1 : 0 < Nat.gcd m k := Nat.gcd_pos_of_pos_left _ m0
  have h2 : Nat.gcd m k = m := by
    have := Nat.le_of_dvd m0 (Nat.gcd_dvd_left m k)
    rcases Nat.lt_or_ge (Nat.gcd m k) m with z | z
    · exact absurd ⟨h1, g⟩ (hm _ z)
    · omega
  rw [← h2]
  exact Nat.gcd_dvd_right _ _
theorem LR.take {w : List Nat} (h : LR w) (k : Nat) : LR (w.take k) := fun c hc => h c (List.mem_of_mem_take hc)
theorem LR.drop {w : List Nat} (h : LR w) (k : Nat) : LR (w.drop k) := fun c hc => h c (List.mem_of_mem_drop hc)
theorem LR.app {w u : List Nat} (h : LR w) (h' : LR u) : LR (w ++ u) := fun c hc => (List.mem_append.mp hc).elim (h c) (h' c)
theorem no_w {f : Str} {d : D} (h : (f == ("whole" : Str)) = false := by decide +kernel) : List.lookup f [(("whole" : Str), d)] = none := look_ne h
end Z
namespace Z
open PySem PySem.Spec PyProof.Rows L2

end Z
namespace Z
open PySem PySem.Spec PyProof.Rows L2

section
variable {X : Cx} {B : Bs} {a b : Expr} {fa fb : DTE} {pos : Pos}
end
theorem PerF.mod {f : Nat → Nat} {k : Nat} (h : PerF f k) (i : Nat) : f (i % k) = f i := by
  have := h.mul (i / k) (i % k)
  rw [Nat.mod_add_div] at this
  exact this.symm
theorem alike {f g : Nat → Nat} {p q : Nat} (hp : PerF f p) (hq : PerF g q) (p0 : 0 < p) (q0 : 0 < q) (h : ∀ i, i < p + q → f i = g i) (i : Nat) : f i = g i := by
  have fq : PerF f q := fun i => by
    have hm := Nat.mod_lt i p0
    have e1 : f (i + q) = f (i % p + q) := by
      have := hp.mul (i / p) (i % p + q)
      rw [← this]
      congr 1
      have := Nat.mod_add_div i p
      omega
    rw [e1, h _ (by omega), hq, ← h _ (by omega), hp.mod]
  have hm := Nat.mod_lt i q0
  rw [← fq.mod i, h _ (by omega), hq.mod]
theorem LR.oc {w : List Nat} (h : LR w) : LR (w.map Z.oc) := fun c hc => by
  obtain ⟨d, hd, rfl⟩ := List.mem_map.mp hc
  rcases h d hd with rfl | rfl
  · exact .inr rfl
  · exact .inl rfl
end Z
noncomputable section
namespace Z
open PySem PySem.W PySem.Calls PyProof.Rows HandSHeadRun

section
variable (st : SharedT → Thread → Option (SharedT × Thread)) (n0 : Nat) (ann : Option Value)
def segF (b : Nat) : Nat → SharedT → Thread → Option (Flow × SharedT × Code × Pos)
  | 0, _, _ => none
  | m + 1, s, t => match endAt b t with
    | some f => some (f, s, t.code, t.pos)
    | none => match stepOk n0 ann t with
      | false => none
      | true => match st s t with
        | some (s', t') => frS s' fun s' => segF b m s' t'
        | none => none
def preF : Nat → SharedT → Thread → Option (SharedT × Thread)
  | 0, s, t => some (s, t)
  | m + 1, s, t => match through t with
    | true => none
    | false => match stepOk n0 ann t with
      | false => none
      | true => match st s t with
        | some (s', t') => frS s' fun s' => preF m s' t'
        | none => none
end
theorem segF_eq {st : SharedT → Thread → Option (SharedT × Thread)} {n0 : Nat} {ann : Option Value} {b m : Nat} {s : SharedT} {t : Thread} : segF st n0 ann b (m + 1) s t = (match endAt b t with
    | some f => some (f, s, t.code, t.pos)
    | none => match stepOk n0 ann t with
      | false => none
      | true => match st s t with
        | some (s', t') => frS s' fun s' => segF st n0 ann b m s' t'
        | none => none) := rfl
theorem preF_eq {st : SharedT → Thread → Option (SharedT × Thread)} {n0 : Nat} {ann : Option Value} {m : Nat} {s : SharedT} {t : Thread} : preF st n0 ann (m + 1) s t = (match through t with
    | true => none
    | false => match stepOk n0 ann t with
      | false => none
      | true => match st s t with
        | some (s', t') => frS s' fun s' => preF st n0 ann m s' t'
        | none => none) := rfl
section
variable {tb : String → Option Builtin} {p : Program} {w : World} {n0 : Nat} {ann : Option Value}
theorem segF_ok {b : Nat} : ∀ {m : Nat} {s s' : SharedT} {t : Thread} {f : Flow} {c : Code} {q : Pos}, segF (stepT (denote tb) p w) n0 ann b m s t = some (f, s', c, q) → segRun tb p w n0 ann b m s.abs t = some (f, s'.abs, c, q)
  | 0, _, _, _, _, _, _, h => by cases h
  | m + 1, s, s', t, f, c, q, h => by
    rw [segF_eq] at h
    unfold segRun
    cases he : endAt b t with
    | some x =>
      rw [he] at h
      cases h
      rfl
    | none =>
      rw [he] at h
      cases hk : stepOk n0 ann t with
      | false =>
        rw [hk] at h
        cases h
      | true =>
        rw [hk] at h
        cases hs : stepT (denote tb) p w s t with
        | none =>
          rw [hs] at h
          cases h
        | some r =>
          obtain ⟨s2, t2⟩ := r
          rw [hs] at h
          have h3 : (frS s2 fun s' => segF (stepT (denote tb) p w) n0 ann b m s' t2) = some (f, s', c, q) := h
          rw [frS_eq] at h3
          have z := segF_ok h3
          show (match step (denote tb) p w s.abs t with
            | .go s' t' => segRun tb p w n0 ann b m s' t'
            | .halt _ _ => none) = _
          rw [stepT_spec hs]
          exact z
theorem preF_ok : ∀ {m : Nat} {s s' : SharedT} {t t' : Thread}, preF (stepT (denote tb) p w) n0 ann m s t = some (s', t') → topGo tb p w n0 ann m s.abs t = some (s'.abs, t')
  | 0, _, _, _, _, h => by cases h; rfl
  | m + 1, s, s', t, t', h => by
    rw [preF_eq] at h
    unfold topGo
    cases he : through t with
    | true =>
      rw [he] at h
      cases h
    | false =>
      rw [he] at h
      cases hk : stepOk n0 ann t with
      | false =>
        rw [hk] at h
        cases h
      | true =>
        rw [hk] at h
        cases hs : stepT (denote tb) p w s t with
        | none =>
          rw [hs] at h
          cases h
        | some r =>
          obtain ⟨s2, t2⟩ := r
          rw [hs] at h
          have h3 : (frS s2 fun s' => preF (stepT (denote tb) p w) n0 ann m s' t2) = some (s', t') := h
          rw [frS_eq] at h3
          have z := preF_ok h3
          show (match step (denote tb) p w s.abs t with
            | .go s' t' => topGo tb p w n0 ann m s' t'
            | .halt _ _ => none) = _
          rw [stepT_spec hs]
          exact z
end
def envT (p : Program) (cv : Value) (fr : Addr) : Env := { scope := p.main.scope, locals := mainNs, globals := mainNs, cells := [], code := cv, frame := some fr }
def codT (p : Program) (cv : Value) (fr : Addr) : Code := .body (behindTheImports p) (envT p cv fr)
def firstF (st : SharedT → Thread → Option (SharedT × Thread)) (p : Program) (w : World) (cv : Value) (fr : Addr) (q : Pos) (m0 mB m : Nat) (l : List Stmt) (os : OsState) : Option (Nat × Thread × Flow × Code × Flow × SharedT × Code × Pos) :=
  match putAll (boot_heap w.params).objs.toList .nil 0 with
  | some (t, n) => frNat n fun n0 => match preF st n0 (bootAnn w) m0 (bootT w os (t, n0)) (topStub p) with
    | some (sa, ta) => (match segF st n0 (bootAnn w) 1 mB sa (blockOf (behindTheImports p) (envT p cv fr) ta.code ta.pos [topFrame q]) with
      | some (f1, sb, c1, p1) => (match segF st n0 (bootAnn w) 1 m sb (piecesOf l (envT p cv fr) c1 p1 [topFrame q]) with
        | some (f2, s1, c2, p2) => some (n0, ta, f1, c1, f2, s1, c2, p2)
        | none => none)
      | none => none)
    | none => none
  | none => none
def lastF (st : SharedT → Thread → Option (SharedT × Thread)) (p : Program) (w : World) (cv : Value) (fr : Addr) (q : Pos) (n0 m mf : Nat) (l : List Stmt) (s : SharedT) (pos : Pos) : Option (Flow × Code × SharedT) :=
  match segF st n0 (bootAnn w) 1 m s (piecesOf l (envT p cv fr) (codT p cv fr) pos [topFrame q]) with
  | some (f, s1, c1, p1) => (match goF st n0 (bootAnn w) mf s1 ⟨doneF .next, c1, p1, [topFrame q]⟩ with
    | some sf => some (f, c1, sf)
    | none => none)
  | none => none
def RestOk (p q : Program) (loose : List PySem.Str) (Xt : Shared → Bool) {α : Type} (ob : SharedT → α) (val : World → α) (cv : Value) (fr : Addr) (qp : Pos) (n0 : Nat) (M : Nat) (S : World → OsState → SharedT) (l : List Stmt) (pos : Pos) : Prop :=
  ∀ (w : World) (os : OsState), ∃ sf : SharedT, topRun treeTable p w n0 (bootAnn w) M (S w os).abs (restOf l (envT p cv fr) (codT p cv fr) pos [topFrame qp]) = some sf.abs ∧
    (looksF p (boot_heap w.params) sf.abs, openSeen q loose (importedModules p.main.body) Xt true sf.abs, ob sf) = (true, openGood q loose, val w)
section
variable {p q : Program} {loose : List PySem.Str} {Xt : Shared → Bool} {α : Type} {ob : SharedT → α} {val : World → α} {cv : Value} {fr : Addr} {qp : Pos} {n0 M m mf : Nat} {S S' : World → OsState → SharedT} {l l' : List Stmt} {pos pos' : Pos}
abbrev stQ (p : Program) (w : World) : SharedT → Thread → Option (SharedT × Thread) := stepQ (denQ tabQ) p w
theorem stQ_eq {p : Program} {w : World} : stQ p w = stepT (denote treeTable) p w := by
  unfold stQ
  rw [← stepQ_eq, ← denQ_eq, ← tabQ_eq]
theorem rest_seg (h : ∀ (w : World) (os : OsState), segF (stQ p w) n0 (bootAnn w) 1 m (S w os) (piecesOf l (envT p cv fr) (codT p cv fr) pos [topFrame qp]) = some (.next, S' w os, codT p cv fr, pos'))
    (k : RestOk p q loose Xt ob val cv fr qp n0 M S' l' pos') : RestOk p q loose Xt ob val cv fr qp n0 (m + M) S (l ++ l') pos := fun w os => by
  obtain ⟨sf, h1, h2⟩ := k w os
  have z := h w os
  rw [stQ_eq] at z
  exact ⟨sf, piece_app (segF_ok z) h1, h2⟩
theorem rest_last (h : ∀ (w : World) (os : OsState), (lastF (stQ p w) p w cv fr qp n0 m mf l (S w os) pos).map (fun x => (x.1, x.2.1, looksF p (boot_heap w.params) x.2.2.abs, seenQ q loose (importedModules p.main.body) Xt x.2.2.abs, ob x.2.2)) = some (.next, codT p cv fr, true, openGood q loose, val w)) :
    RestOk p q loose Xt ob val cv fr qp n0 (m + mf) S l pos := fun w os => by
  obtain ⟨⟨f, c, sf⟩, e1, e2⟩ := Option.map_eq_some_iff.mp (h w os)
  have e2' : (f, c, looksF p (boot_heap w.params) sf.abs, seenQ q loose (importedModules p.main.body) Xt sf.abs, ob sf) = (.next, codT p cv fr, true, openGood q loose, val w) := e2
  simp only [Prod.mk.injEq] at e2'
  obtain ⟨rfl, rfl, a1, a2, a3⟩ := e2'
  rw [stQ_eq] at e1
  unfold lastF at e1
  cases z : segF (stepT (denote treeTable) p w) n0 (bootAnn w) 1 m (S w os) (piecesOf l (envT p cv fr) (codT p cv fr) pos [topFrame qp]) with
  | none => rw [z] at e1; cases e1
  | some r =>
    obtain ⟨f1, s1, c1, p1⟩ := r
    rw [z] at e1
    dsimp only at e1
    cases y : goF (stepT (denote treeTable) p w) n0 (bootAnn w) mf s1 ⟨doneF .next, c1, p1, [topFrame qp]⟩ with
    | none => rw [y] at e1; cases e1
    | some sf' =>
      rw [y] at e1
      cases e1
      refine ⟨sf, ?_, ?_⟩
      · have := piece_app (rest := []) (q := qp) (segF_ok z) (piece_nil (goF_ok y))
        rw [List.append_nil] at this
        exact this
      · rw [← seenQ_eq] at a2
        rw [a1, a2, a3]
theorem rest_last3 (h1 : ∀ (w : World) (os : OsState), (lastF (stQ p w) p w cv fr qp n0 m mf l (S w os) pos).map (fun x => (x.1, x.2.1, looksF p (boot_heap w.params) x.2.2.abs)) = some (.next, codT p cv fr, true))
    (h2 : ∀ (w : World) (os : OsState), (lastF (stQ p w) p w cv fr qp n0 m mf l (S w os) pos).map (fun x => seenQ q loose (importedModules p.main.body) Xt x.2.2.abs) = some (openGood q loose))
    (h3 : ∀ (w : World) (os : OsState), (lastF (stQ p w) p w cv fr qp n0 m mf l (S w os) pos).map (fun x => ob x.2.2) = some (val w)) :
    RestOk p q loose Xt ob val cv fr qp n0 (m + mf) S l pos := rest_last fun w os => by
  obtain ⟨⟨f, c, sf⟩, e1, e2⟩ := Option.map_eq_some_iff.mp (h1 w os)
  have a2 := h2 w os
  have a3 := h3 w os
  rw [e1] at a2 a3 ⊢
  have a2' : seenQ q loose (importedModules p.main.body) Xt sf.abs = openGood q loose := Option.some.inj a2
  have a3' : ob sf = val w := Option.some.inj a3
  have e2' : (f, c, looksF p (boot_heap w.params) sf.abs) = (.next, codT p cv fr, true) := e2
  simp only [Prod.mk.injEq] at e2'
  obtain ⟨z1, z2, z3⟩ := e2'
  show some (f, c, looksF p (boot_heap w.params) sf.abs, seenQ q loose (importedModules p.main.body) Xt sf.abs, ob sf) = _
  rw [z1, z2, z3, a2', a3']
theorem left_cut {N : Nat} {m0 mB : Nat} {pos0 : Pos} (e : opening p = plainProg p.main.scope.names) (hN : Nat.ble 600 N = true) (f : ∀ s, fenceModules? p s = some s) (hb : behindTheImports p = l ++ l')
    (first : ∀ (w : World) (os : OsState), firstF (stQ p w) p w cv fr qp m0 mB m l os = some (n0, ⟨denQ tabQ (codT p cv fr), codT p cv fr, pos0, [topFrame qp]⟩, .next, codT p cv fr, .next, S w os, codT p cv fr, pos))
    (k : RestOk p q loose Xt ob val cv fr qp n0 M S l' pos) (le : Nat.ble (m0 + (mB + (m + M))) N = true) {obs : Shared → α} (ho : ∀ s : SharedT, ob s = obs s.abs) :
    LeftO p q loose Xt obs val N true := fun w => by
  obtain ⟨⟨h, gs, d, kk, os⟩, a, a'⟩ := Option.map_eq_some_iff.mp (boot_open e hN f w)
  obtain ⟨rfl, rfl, rfl, rfl⟩ : h = boot_heap w.params ∧ gs = Array.mk [] ∧ d = boot_drawn ∧ kk = boot_toks := by simpa using a'
  obtain ⟨sf, hr, hv⟩ := k w os
  have hv' : (looksF p (boot_heap w.params) sf.abs, openSeen q loose (importedModules p.main.body) Xt true sf.abs, ob sf) = (true, openGood q loose, val w) := hv
  simp only [Prod.mk.injEq] at hv'
  obtain ⟨l1, l2, l3⟩ := hv'
  have F := first w os
  rw [stQ_eq, show denQ tabQ = denote treeTable by rw [denQ_eq, tabQ_eq]] at F
  unfold firstF at F
  cases e0 : putAll (boot_heap w.params).objs.toList .nil 0 with
  | none => rw [e0] at F; cases F
  | some r0 =>
    obtain ⟨t, n⟩ := r0
    rw [e0] at F
    dsimp only at F
    rw [frNat_eq] at F
    have eh := putAll_heap e0
    have en : (boot_heap w.params).objs.size = n := by
      rw [← eh]
      exact absHeap_size t n _
    have eb : (bootT w os (t, n)).abs = ⟨boot_heap w.params, #[], boot_drawn, boot_toks, os⟩ := by
      show (⟨absHeap t n (boot_heap w.params).life, #[], boot_drawn, boot_toks, os⟩ : Shared) = _
      rw [eh]
    cases e1 : preF (stepT (denote treeTable) p w) n (bootAnn w) m0 (bootT w os (t, n)) (topStub p) with
    | none => rw [e1] at F; cases F
    | some r1 =>
      obtain ⟨sa, ta⟩ := r1
      rw [e1] at F
      dsimp only at F
      cases e2 : segF (stepT (denote treeTable) p w) n (bootAnn w) 1 mB sa (blockOf (behindTheImports p) (envT p cv fr) ta.code ta.pos [topFrame qp]) with
      | none => rw [e2] at F; cases F
      | some r2 =>
        obtain ⟨f1, sb, c1, p1⟩ := r2
        rw [e2] at F
        dsimp only at F
        cases e3 : segF (stepT (denote treeTable) p w) n (bootAnn w) 1 m sb (piecesOf l (envT p cv fr) c1 p1 [topFrame qp]) with
        | none => rw [e3] at F; cases F
        | some r3 =>
          obtain ⟨f2, s1, c2, p2⟩ := r3
          rw [e3] at F
          dsimp only at F
          have F2 := Option.some.inj F
          simp only [Prod.mk.injEq] at F2
          obtain ⟨rfl, rfl, rfl, rfl, rfl, rfl, rfl, rfl⟩ := F2
          have r2 := piece_app (segF_ok e3) hr
          rw [← hb] at r2
          have r1 := piece_block (segF_ok e2) r2
          have r0 := go_top (preF_ok e1) r1
          rw [eb] at r0
          have r := topRun_mono (N - (m0 + (mB + (m + M)))) _ _ _ _ r0
          rw [show m0 + (mB + (m + M)) + (N - (m0 + (mB + (m + M)))) = N by have := Nat.le_of_ble_eq_true le; omega] at r
          have l1' : (staticsOk (importedModules p.main.body) (boot_heap w.params) sf.abs.heap && namesBound p sf.abs.heap && gensDone sf.abs && laidKept (boot_heap w.params) sf.abs.heap) = true := l1
          have tt : topFrom treeTable p w N ⟨boot_heap w.params, Array.mk [], boot_drawn, boot_toks, os⟩ = some sf.abs := by
            unfold topFrom
            dsimp only
            rw [boot_ns]
            show (topRun treeTable p w (boot_heap w.params).objs.size (bootAnn w) N ⟨boot_heap w.params, #[], boot_drawn, boot_toks, os⟩ (topStub p)).bind _ = _
            rw [en, r]
            show (match staticsOk (importedModules p.main.body) (boot_heap w.params) sf.abs.heap && namesBound p sf.abs.heap && gensDone sf.abs && laidKept (boot_heap w.params) sf.abs.heap with | true => some sf.abs | false => none) = _
            rw [l1']
          unfold openEnds
          rw [a]
          show (topFrom treeTable p w N _).map _ = _
          rw [tt, ← l3, ho sf]
          exact congrArg some (Prod.ext l2 rfl)
end
theorem head_cut {r : OpenRow} {q : Program} {H : Hook} {ob : SharedT → H.α} {loose : List PySem.Str} {d : DefRec} {kwd : List (PySem.Str × PySem.Expr)} {cv : Value} {fr : Addr} {qp : Pos} {n0 M m m0 mB : Nat} {S : World → OsState → SharedT} {l l' : List Stmt} {pos pos0 : Pos}
    (ho : ∀ s : SharedT, ob s = H.obs s.abs) (e : opening r.prog = plainProg r.prog.main.scope.names) (f : ∀ s, fenceModules? r.prog s = some s) (hbd : behindTheImports r.prog = l ++ l')
    (first : ∀ (w : World) (os : OsState), firstF (stQ r.prog w) r.prog w cv fr qp m0 mB m l os = some (n0, ⟨denQ tabQ (codT r.prog cv fr), codT r.prog cv fr, pos0, [topFrame qp]⟩, .next, codT r.prog cv fr, .next, S w os, codT r.prog cv fr, pos))
    (k : RestOk r.prog q loose (fun s => xlAt q [] s && recOk r.toRowW.records s) ob H.val cv fr qp n0 M S l' pos)
    (hdef : defOf q r.name = some (d, kwd)) (hp : r.prog.theDef r.name = some (d.params, d.body, d.scope)) (hk : kwWritten? d.params.kwonlyargs d.params.kw_defaults = some kwd)
    (hwr : (!r.writes || r.records.isEmpty) = true) (k1 : r.wellSaid = true) (ok : (chainsOk q && opensWell r.prog && (frees r.toRowW && r.within.isEmpty)) = true) (hb : r.prog.bare) (hw : r.toRowW.promised)
    (call : WalkO q loose (XL q []) H.says r.toRowW d kwd fun f vs => PySem.call f vs) : r.Holds :=
  holds_open (r := r) (q := q) (loose := loose) (XP := XL q []) (YP := H.says) (d := d) (kwd := kwd) (left_cut (N := m0 + (mB + (m + M)) + 600) e (Nat.ble_eq_true_of_le (by omega)) f hbd first k (Nat.ble_eq_true_of_le (by omega)) ho) H.of H.keeps (fun s z => xl_of s (Bool.and_eq_true_iff.mp z).1) XL.keeps hdef hp hk (fun s z => recFacts_of (Bool.and_eq_true_iff.mp z).2) hwr k1 ok hb hw call
end Z
namespace Z
open PySem PySem.Spec PyProof.Rows L2

mutual
inductive Pl : Nat → D → Prop
  | non {n : Nat} : Pl n .non
  | int {n : Nat} (i : Int) : Pl n (.int i)
  | str {n : Nat} {x : Str} (h : PyData.strOk x = true) : Pl n (.str x)
  | tup {n : Nat} {l : List D} (h : PlL n l) : Pl (n + 1) (.tup l)
  | lst {n : Nat} {l : List D} (h : PlL n l) : Pl (n + 1) (.lst l)
inductive PlL : Nat → List D → Prop
  | nil {n : Nat} : PlL n []
  | cons {n : Nat} {d : D} {l : List D} (h : Pl n d) (r : PlL n l) : PlL n (d :: l)
end
theorem PlL.of {n : Nat} : ∀ {l : List D}, (∀ d ∈ l, Pl n d) → PlL n l
  | [], _ => .nil
  | d :: l, h => .cons (h d List.mem_cons_self) (PlL.of fun e he => h e (List.mem_cons_of_mem _ he))
mutual
theorem Pl.data : ∀ {n : Nat} {d : D}, Pl n d → ∃ p, pd d = some p ∧ PyData.canLay0 p = true ∧ PyData.depth p ≤ n ∧ ∀ (e : D) (m : Nat) (q : PyData), Pl m e → pd e = some q → (PyData.eqv p q = true ↔ d = e)
  | _, _, .non => ⟨.none, rfl, rfl, Nat.zero_le _, fun e m q h eq => by
      cases h with
      | non => cases eq; exact ⟨fun _ => rfl, fun _ => rfl⟩
      | int => cases eq; exact ⟨(fun h => by cases h), (fun h => by cases h)⟩
      | str => cases eq; exact ⟨(fun h => by cases h), (fun h => by cases h)⟩
      | tup => obtain ⟨_, _, rfl⟩ := Option.map_eq_some_iff.mp (show (pdL _).map PyData.tuple = some _ from eq); exact ⟨(fun h => by cases h), (fun h => by cases h)⟩
      | lst => obtain ⟨_, _, rfl⟩ := Option.map_eq_some_iff.mp (show (pdL _).map PyData.list = some _ from eq); exact ⟨(fun h => by cases h), (fun h => by cases h)⟩⟩
  | _, _, .int i => ⟨.int i, rfl, rfl, Nat.zero_le _, fun e m q h eq => by
      cases h with
      | non => cases eq; exact ⟨(fun h => by cases h), (fun h => by cases h)⟩
      | int => cases eq; exact ⟨fun h => by rw [show i = _ from by simpa [PyData.eqv] using h], fun h => by cases h; simp [PyData.eqv]⟩
      | str => cases eq; exact ⟨(fun h => by cases h), (fun h => by cases h)⟩
      | tup => obtain ⟨_, _, rfl⟩ := Option.map_eq_some_iff.mp (show (pdL _).map PyData.tuple = some _ from eq); exact ⟨(fun h => by cases h), (fun h => by cases h)⟩
      | lst => obtain ⟨_, _, rfl⟩ := Option.map_eq_some_iff.mp (show (pdL _).map PyData.list = some _ from eq); exact ⟨(fun h => by cases h), (fun h => by cases h)⟩⟩
  | _, _, .str (x := x) hx => ⟨.str x, rfl, hx, Nat.zero_le _, fun e m q h eq => by
      cases h with
      | non => cases eq; exact ⟨(fun h => by cases h), (fun h => by cases h)⟩
      | int => cases eq; exact ⟨(fun h => by cases h), (fun h => by cases h)⟩
      | str => cases eq; exact ⟨fun h => by rw [show x = _ from by simpa [PyData.eqv] using h], fun h => by cases h; simp [PyData.eqv]⟩
      | tup => obtain ⟨_, _, rfl⟩ := Option.map_eq_some_iff.mp (show (pdL _).map PyData.tuple = some _ from eq); exact ⟨(fun h => by cases h), (fun h => by cases h)⟩
      | lst => obtain ⟨_, _, rfl⟩ := Option.map_eq_some_iff.mp (show (pdL _).map PyData.list = some _ from eq); exact ⟨(fun h => by cases h), (fun h => by cases h)⟩⟩
  | _, _, .tup (l := l) hl => by
    obtain ⟨ps, e1, c1, d1, k⟩ := hl.pds
    refine ⟨.tuple ps, by show (pdL l).map PyData.tuple = _; rw [e1]; rfl, c1, Nat.succ_le_succ d1, fun e m q h eq => ?_⟩
    cases h with
    | non => cases eq; exact ⟨(fun h => by cases h), (fun h => by cases h)⟩
    | int => cases eq; exact ⟨(fun h => by cases h), (fun h => by cases h)⟩
    | str => cases eq; exact ⟨(fun h => by cases h), (fun h => by cases h)⟩
    | tup h' =>
      obtain ⟨qs, e2, rfl⟩ := Option.map_eq_some_iff.mp (show (pdL _).map PyData.tuple = some _ from eq)
      exact (k _ _ _ h' e2).trans ⟨fun h => by rw [h], fun h => by injection h⟩
    | lst => obtain ⟨_, _, rfl⟩ := Option.map_eq_some_iff.mp (show (pdL _).map PyData.list = some _ from eq); exact ⟨(fun h => by cases h), (fun h => by cases h)⟩
  | _, _, .lst (l := l) hl => by
    obtain ⟨ps, e1, c1, d1, k⟩ := hl.pds
    refine ⟨.list ps, by show (pdL l).map PyData.list = _; rw [e1]; rfl, c1, Nat.succ_le_succ d1, fun e m q h eq => ?_⟩
    cases h with
    | non => cases eq; exact ⟨(fun h => by cases h), (fun h => by cases h)⟩
    | int => cases eq; exact ⟨(fun h => by cases h), (fun h => by cases h)⟩
    | str => cases eq; exact ⟨(fun h => by cases h), (fun h => by cases h)⟩
    | tup => obtain ⟨_, _, rfl⟩ := Option.map_eq_some_iff.mp (show (pdL _).map PyData.tuple = some _ from eq); exact ⟨(fun h => by cases h), (fun h => by cases h)⟩
    | lst h' =>
      obtain ⟨qs, e2, rfl⟩ := Option.map_eq_some_iff.mp (show (pdL _).map PyData.list = some _ from eq)
      exact (k _ _ _ h' e2).trans ⟨fun h => by rw [h], fun h => by injection h⟩
theorem PlL.pds : ∀ {n : Nat} {l : List D}, PlL n l → ∃ ps, pdL l = some ps ∧ PyData.canLayAll0 ps = true ∧ PyData.depthAll ps ≤ n ∧ ∀ (l' : List D) (m : Nat) (qs : List PyData), PlL m l' → pdL l' = some qs → (PyData.eqvAll ps qs = true ↔ l = l')
  | _, _, .nil => ⟨[], rfl, rfl, Nat.zero_le _, fun l' m qs h eq => by
      cases h with
      | nil => cases eq; exact ⟨fun _ => rfl, fun _ => rfl⟩
      | cons h r =>
        unfold pdL at eq
        split at eq
        · cases eq
          exact ⟨(fun h => by cases h), (fun h => by cases h)⟩
        · cases eq⟩
  | _, _, .cons h r => by
    obtain ⟨p, e1, c1, d1, k1⟩ := h.data
    obtain ⟨ps, e2, c2, d2, k2⟩ := r.pds
    refine ⟨p :: ps, by unfold pdL; rw [e1, e2], by show (_ && _) = true; rw [c1, c2]; rfl, Nat.max_le.mpr ⟨d1, d2⟩, fun l' m qs h' eq => ?_⟩
    cases h' with
    | nil => cases eq; exact ⟨(fun h => by cases h), (fun h => by cases h)⟩
    | cons h' r' =>
      unfold pdL at eq
      split at eq
      case h_2 => cases eq
      rename_i p' ps' e1' e2'
      cases eq
      show (PyData.eqv p p' && PyData.eqvAll ps ps') = true ↔ _
      rw [Bool.and_eq_true, k1 _ _ _ h' e1', k2 _ _ _ r' e2', List.cons.injEq]
end
theorem Pl.shaped {n : Nat} {d : D} {p : PyData} (h : Pl n d) (e : pd d = some p) (hn : n ≤ 64) : SeqAt.shaped p = true := by
  obtain ⟨q, e1, c1, d1, _⟩ := h.data
  rw [e] at e1
  cases e1
  unfold SeqAt.shaped
  rw [c1, decide_eq_true (Nat.le_trans d1 hn)]
  rfl
theorem eqv_pl {M : Sto} {n m : Nat} {x y dx dy : D} {φ : Bool → Prop} (hx : Pl n dx) (hy : Pl m dy) (hn : n ≤ 64) (hm : m ≤ 64) (ex : toPd M x = pd dx) (ey : toPd M y = pd dy) (nt : ∀ i j, x = .int i → y = .int j → dx = x ∧ dy = y) (ns : ∀ i j, x = .str i → y = .str j → dx = x ∧ dy = y) (nb : ∀ i, x ≠ .bl i)
    (q : ∀ b : Bool, (b = true ↔ dx = dy) → φ b) : eqvD M x y φ := by
  have gen : ∃ p q, toPd M x = some p ∧ toPd M y = some q ∧ SeqAt.shaped p = true ∧ SeqAt.shaped q = true ∧ φ (PyData.eqv p q) := by
    obtain ⟨p, e1, _, _, k⟩ := hx.data
    obtain ⟨p', e2, _⟩ := hy.data
    exact ⟨p, p', ex.trans e1, ey.trans e2, hx.shaped e1 hn, hy.shaped e2 hm, q _ (k _ _ _ hy e2)⟩
  unfold eqvD
  split
  · obtain ⟨rfl, rfl⟩ := nt _ _ rfl rfl
    refine q _ ⟨fun h => by rw [of_decide_eq_true h], fun h => by cases h; exact decide_eq_true rfl⟩
  · obtain ⟨rfl, rfl⟩ := ns _ _ rfl rfl
    refine q _ ⟨fun h => by rw [of_decide_eq_true h], fun h => by cases h; exact decide_eq_true rfl⟩
  · exact absurd rfl (nb _)
  · exact gen
theorem toPd_pl {M : Sto} {n : Nat} {d : D} (h : Pl n d) : toPd M d = pd d := by
  unfold toPd
  cases h with
  | lst h => rfl
  | _ => rfl
theorem eqPl {M : Sto} {n m : Nat} {x y : D} {φ : D → Prop} (hx : Pl n x) (hy : Pl m y) (q : ∀ b : Bool, (b = true ↔ x = y) → φ (.bl b)) (hn : n ≤ 64 := by decide) (hm : m ≤ 64 := by decide) : eqD M x y φ := by
  unfold eqD
  exact eqv_pl (φ := fun b => φ (.bl b)) hx hy hn hm (toPd_pl hx) (toPd_pl hy) (fun _ _ _ _ => ⟨rfl, rfl⟩) (fun _ _ _ _ => ⟨rfl, rfl⟩) (fun i e => by subst e; cases hx) q
theorem nePl {M : Sto} {n m : Nat} {x y : D} {φ : D → Prop} (hx : Pl n x) (hy : Pl m y) (q : ∀ b : Bool, (b = true ↔ x = y) → φ (.bl (!b))) (hn : n ≤ 64 := by decide) (hm : m ≤ 64 := by decide) : neD M x y φ := by
  unfold neD
  exact eqv_pl (φ := fun b => φ (.bl (!b))) hx hy hn hm (toPd_pl hx) (toPd_pl hy) (fun _ _ _ _ => ⟨rfl, rfl⟩) (fun _ _ _ _ => ⟨rfl, rfl⟩) (fun i e => by subst e; cases hx) q
section
variable {X : Cx} {B : Bs} {o e : Expr} {es : List Expr} {fo : DTE} {ga : DTA} {apos pos : Pos}
end
end Z
namespace Z
open PySem PySem.Spec PyProof.Rows L2

section
variable {M : Sto} {p : Addr} {l : List D}
theorem lstOf_at (h : M p = some (.lst l)) : lstOf M (.ref p) = some l := by
  show (match M p with | some (.lst l) => some l | _ => none) = _
  rw [h]
theorem len_at (h : M p = some (.lst l)) {φ : PD} (q : φ (.int l.length) M) : lenD M [.ref p] φ := ⟨l, lstOf_at h, q⟩
theorem one_le_size {n : Nat} (h : n ≤ 1000000) : n ≤ sizeLine := Nat.le_trans h big_ok
end
end Z
namespace Z
open PySem PySem.Spec PyProof.Rows L2

section
variable {M : Sto} {φ : Bool → Prop}
end
section
variable {X : Cx} {B : Bs} {pos : Pos} {a b : Expr} {es : List Expr} {fa fb : DTE}
end
theorem HandAt.upd {M : Sto} {p u : Addr} {c : Cell} (h : HandAt M p) (hu : M u = none) : HandAt (updM M u c) p := by
  obtain ⟨k, e, a, b⟩ := h
  exact ⟨k, by rw [updM_ne fun z => by rw [z, hu] at e; cases e]; exact e, a, b⟩
theorem HandAt.put {M : Sto} {p u : Addr} {c : Cell} {l : List D} (h : HandAt M p) (hu : p ≠ u) : HandAt (updM M u c) p := by
  obtain ⟨k, e, a, b⟩ := h
  exact ⟨k, by rw [updM_ne hu]; exact e, a, b⟩
theorem HandAt.ne {M : Sto} {p u : Addr} (h : HandAt M p) (hu : M u = none) : p ≠ u := fun z => by
  obtain ⟨k, e, _⟩ := h
  rw [z, hu] at e
  cases e
end Z
namespace Z
open PySem PySem.Spec PyProof.Rows L2

section
variable {X : Cx} {B : Bs} {Ξ : XD → En → Sto → Prop} {k j n : Nat} {c : Ct} {pos apos p : Pos} {e : Expr} {es : List Expr} {kws : List Keyword} {ga gk : DTA} {C : Addr} {m x : Str} {ks : List Str} {g : List D → List D → List D} {bs : List (Nat × List Str × (List D → List D → List D))}
end
end Z
namespace Z
open PySem PySem.Spec PyProof.Rows L2

section
variable {X : Cx} {B : Bs} {pos : Pos} {es : List Expr}
end
section
variable {ts : List DTE} {a w : List Nat} {r : En} {M : Sto} {φ : Str → Sto → Prop}
end
end Z
namespace Z
open PySem PySem.Spec PyProof.Rows L2

open Classical in
noncomputable def dlook (l : List (D × D)) (c : D) : Option D := (l.find? fun kv => decide (kv.1 = c)).map (·.2)
open Classical in
noncomputable def dput (l : List (D × D)) (c d : D) : List (D × D) := if (dlook l c).isSome = true then l.map (fun kv => if kv.1 = c then (kv.1, d) else kv) else l ++ [(c, d)]
def ckey : D → D
  | .tpl l => .tup l
  | d => d
theorem keyD_inj : ∀ {c c' : D} {k : Key}, keyD c = some k → keyD c' = some k → c = c'
  | .int _, .int _, _, h, h' => by cases h; cases h'; rfl
  | .str _, .str _, _, h, h' => by cases h; cases h'; rfl
  | .int _, .str _, _, h, h' => by cases h; cases h'
  | .str _, .int _, _, h, h' => by cases h; cases h'
theorem keysD_inj : ∀ {l l' : List D} {ks : List Key}, keysD l = some ks → keysD l' = some ks → l = l'
  | [], [], _, _, _ => rfl
  | [], d :: l', ks, h, h' => by
    cases h
    unfold keysD at h'
    split at h' <;> cases h'
  | d :: l, [], ks, h, h' => by
    cases h'
    unfold keysD at h
    split at h <;> cases h
  | d :: l, d' :: l', ks, h, h' => by
    unfold keysD at h h'
    split at h
    · rename_i k1 ks1 e1 e2
      split at h'
      · rename_i k2 ks2 e3 e4
        cases h
        injection h' with h'
        injection h' with a b
        subst a b
        rw [keyD_inj e1 e3, keysD_inj e2 e4]
      · cases h'
    · cases h
theorem keyT_inj {c c' : D} {ks : List Key} (h : keyT c = some ks) (h' : keyT c' = some ks) : c = c' := by
  cases c <;> first | cases h | skip
  cases c' <;> first | cases h' | skip
  exact congrArg D.tup (keysD_inj h h')
section
variable {K : PySem.W.Frag} {G : Hp} {c d : D} {l : List (D × D)}
theorem dlook_nil : dlook [] c = none := rfl
theorem dlook_pos {q : D × D} (e : q.1 = c) : dlook (q :: l) c = some q.2 := by simp [dlook, List.find?_cons, e]
theorem dlook_neg {q : D × D} (e : ¬ q.1 = c) : dlook (q :: l) c = dlook l c := by simp [dlook, List.find?_cons, e]
theorem repD_look {k : Key} (hk : keyD c = some k) : ∀ {l : List (D × D)} {kvs : List (Key × V)}, RepD K G l kvs → (dlook l c = none ∧ valV kvs k = none) ∨ ∃ d v, dlook l c = some d ∧ valV kvs k = some v ∧ Rep K G d v
  | _, _, .nil => .inl ⟨rfl, rfl⟩
  | _, _, .cons (c := c0) (k := k0) e p r => by
    by_cases h : c0 = c
    · have hk0 : k0 = k := by rw [h, hk] at e; exact (Option.some.inj e).symm
      exact .inr ⟨_, _, dlook_pos h, valV_pos hk0, p⟩
    · have hk0 : ¬ k0 = k := fun z => h (keyD_inj e (by rw [z]; exact hk))
      rw [dlook_neg h, valV_neg hk0]
      exact repD_look hk r
theorem repT_look {k : List Key} (hk : keyT c = some k) : ∀ {l : List (D × D)} {kvs : List (List Key × V)}, RepT K G l kvs → (dlook l c = none ∧ valV kvs k = none) ∨ ∃ d v, dlook l c = some d ∧ valV kvs k = some v ∧ Rep K G d v
  | _, _, .nil => .inl ⟨rfl, rfl⟩
  | _, _, .cons (c := c0) (k := k0) e p r => by
    by_cases h : c0 = c
    · have hk0 : k0 = k := by rw [h, hk] at e; exact (Option.some.inj e).symm
      exact .inr ⟨_, _, dlook_pos h, valV_pos hk0, p⟩
    · have hk0 : ¬ k0 = k := fun z => h (keyT_inj e (by rw [z]; exact hk))
      rw [dlook_neg h, valV_neg hk0]
      exact repT_look hk r
theorem repD_app {k : Key} {v : V} (hk : keyD c = some k) (p : Rep K G d v) : ∀ {l : List (D × D)} {kvs : List (Key × V)}, RepD K G l kvs → RepD K G (l ++ [(c, d)]) (kvs ++ [(k, v)])
  | _, _, .nil => .cons hk p .nil
  | _, _, .cons e q r => .cons e q (repD_app hk p r)
theorem repT_app {k : List Key} {v : V} (hk : keyT c = some k) (p : Rep K G d v) : ∀ {l : List (D × D)} {kvs : List (List Key × V)}, RepT K G l kvs → RepT K G (l ++ [(c, d)]) (kvs ++ [(k, v)])
  | _, _, .nil => .cons hk p .nil
  | _, _, .cons e q r => .cons e q (repT_app hk p r)
open Classical in
theorem repD_map {k : Key} {v : V} (hk : keyD c = some k) (p : Rep K G d v) : ∀ {l : List (D × D)} {kvs : List (Key × V)}, RepD K G l kvs → RepD K G (l.map fun kv => if kv.1 = c then (kv.1, d) else kv) (kvs.map fun kv => if kv.1 = k then (kv.1, v) else kv)
  | _, _, .nil => .nil
  | _, _, .cons (c := c0) (k := k0) (d := d0) (v := v0) e q r => by
    rw [List.map_cons, List.map_cons]
    by_cases h : c0 = c
    · have hk0 : k0 = k := by rw [h, hk] at e; exact (Option.some.inj e).symm
      rw [if_pos (show (c0, d0).1 = c from h), if_pos (show (k0, v0).1 = k from hk0)]
      exact .cons e p (repD_map hk p r)
    · have hk0 : ¬ k0 = k := fun z => h (keyD_inj e (by rw [z]; exact hk))
      rw [if_neg (show ¬ (c0, d0).1 = c from h), if_neg (show ¬ (k0, v0).1 = k from hk0)]
      exact .cons e q (repD_map hk p r)
open Classical in
theorem repT_map {k : List Key} {v : V} (hk : keyT c = some k) (p : Rep K G d v) : ∀ {l : List (D × D)} {kvs : List (List Key × V)}, RepT K G l kvs → RepT K G (l.map fun kv => if kv.1 = c then (kv.1, d) else kv) (kvs.map fun kv => if kv.1 = k then (kv.1, v) else kv)
  | _, _, .nil => .nil
  | _, _, .cons (c := c0) (k := k0) (d := d0) (v := v0) e q r => by
    rw [List.map_cons, List.map_cons]
    by_cases h : c0 = c
    · have hk0 : k0 = k := by rw [h, hk] at e; exact (Option.some.inj e).symm
      rw [if_pos (show (c0, d0).1 = c from h), if_pos (show (k0, v0).1 = k from hk0)]
      exact .cons e p (repT_map hk p r)
    · have hk0 : ¬ k0 = k := fun z => h (keyT_inj e (by rw [z]; exact hk))
      rw [if_neg (show ¬ (c0, d0).1 = c from h), if_neg (show ¬ (k0, v0).1 = k from hk0)]
      exact .cons e q (repT_map hk p r)
theorem repD_put {k : Key} {v : V} {kvs : List (Key × V)} (hk : keyD c = some k) (p : Rep K G d v) (r : RepD K G l kvs) : RepD K G (dput l c d) (putK kvs k v) := by
  unfold dput putK
  rw [valV_any]
  rcases repD_look hk r with ⟨h1, h2⟩ | ⟨_, _, h1, h2, _⟩
  · rw [h1, h2, if_neg (by simp), if_neg (by simp)]
    exact repD_app hk p r
  · rw [h1, h2]
    exact repD_map hk p r
theorem repT_put {k : List Key} {v : V} {kvs : List (List Key × V)} (hk : keyT c = some k) (p : Rep K G d v) (r : RepT K G l kvs) : RepT K G (dput l c d) (putK kvs k v) := by
  unfold dput putK
  rw [valV_any]
  rcases repT_look hk r with ⟨h1, h2⟩ | ⟨_, _, h1, h2, _⟩
  · rw [h1, h2, if_neg (by simp), if_neg (by simp)]
    exact repT_app hk p r
  · rw [h1, h2]
    exact repT_map hk p r
theorem key_v {k : Key} {v : V} (r : Rep K G c v) (hk : keyD c = some k) : v = kV k := by
  cases r <;> cases hk <;> rfl
theorem keys_v : ∀ {l : List D} {vs : List V} {ks : List Key}, RepL K G l vs → keysD l = some ks → vs = ks.map kV
  | _, _, _, .nil, e => by cases e; rfl
  | _, _, _, .cons r rs, e => by
    unfold keysD at e
    split at e
    · rename_i k ks e1 e2
      cases e
      rw [key_v r e1, keys_v rs e2]
      rfl
    · cases e
end
def dgetQ (M : Sto) (x y : D) (φ : D → Prop) : Prop := ∃ l d, dicOf M x = some l ∧ dlook l (ckey y) = some d ∧ ((∃ k, keyD y = some k) ∨ ∃ l' ks, y = .tpl l' ∧ keysD l' = some ks) ∧ φ d
def dinQ (M : Sto) (x y : D) (φ : Bool → Prop) : Prop := ∃ p l, x = .ref p ∧ ((M p = some (.dic l) ∧ ∃ k, keyD y = some k) ∨ (M p = some (.dit l) ∧ ∃ l' ks, y = .tpl l' ∧ keysD l' = some ks)) ∧ φ (dlook l (ckey y)).isSome
def dputQ (M : Sto) (x y v : D) (φ : Sto → Prop) : Prop := ∃ p l, x = .ref p ∧ l.length < sizeLine ∧ ((M p = some (.dic l) ∧ (∃ k, keyD y = some k) ∧ φ (updM M p (.dic (dput l y v)))) ∨ (M p = some (.dit l) ∧ (∃ l' ks, y = .tpl l' ∧ keysD l' = some ks) ∧ φ (updM M p (.dit (dput l (ckey y) v)))))
section
variable {K : PySem.W.Frag} {M : Sto} {H G : Hp} {x y d : D} {v u t : V}
theorem dget_x {φ : D → Prop} (w : Wd K M H G) (rx : Rep K G x v) (ry : Rep K G y u) (h : dgetQ M x y φ) : ∃ a z d, v = .ref a ∧ DGet H a u (some z) ∧ Rep K G d z ∧ φ d := by
  obtain ⟨l, d, e, el, hk, h⟩ := h
  obtain ⟨a, rfl, hh⟩ := dic_rep w rx e
  rcases hk with ⟨k, hk⟩ | ⟨l', ks, rfl, hk⟩
  · have ec : ckey y = y := by cases y <;> first | rfl | cases hk
    rw [ec] at el
    rcases hh with ⟨kvs, hh, r⟩ | ⟨kvs, hh, r⟩
    · rcases repD_look hk r with ⟨z, _⟩ | ⟨d', v', z, e2, p⟩
      · rw [z] at el; cases el
      · rw [z] at el
        cases el
        rw [key_v ry hk]
        exact ⟨a, v', _, rfl, .inl ⟨kvs, k, hh, rfl, e2.symm⟩, p, h⟩
    · exfalso
      have : ∀ {l : List (D × D)} {kvs : List (List Key × V)}, RepT K G l kvs → dlook l y = none := fun {l kvs} r => by
        induction l generalizing kvs with
        | nil => rfl
        | cons q l ih =>
          cases r with
          | @cons c0 _ _ _ _ _ e0 p r =>
            rw [dlook_neg (fun z : c0 = y => by rw [z] at e0; cases y <;> first | cases e0 | cases hk)]
            exact ih r
      rw [this r] at el
      cases el
  · cases ry with
    | tpl hb rl =>
      have ev := keys_v rl hk
      subst ev
      rcases hh with ⟨kvs, hh, r⟩ | ⟨kvs, hh, r⟩
      · exfalso
        have : ∀ {l : List (D × D)} {kvs : List (Key × V)}, RepD K G l kvs → dlook l (.tup l') = none := fun {l kvs} r => by
          induction l generalizing kvs with
          | nil => rfl
          | cons q l ih =>
            cases r with
            | @cons c0 _ _ _ _ _ e0 p r =>
              rw [dlook_neg (fun z : c0 = .tup l' => by rw [z] at e0; cases e0)]
              exact ih r
        rw [show ckey (.tpl l') = .tup l' from rfl, this r] at el
        cases el
      · rcases repT_look (c := .tup l') hk r with ⟨z, _⟩ | ⟨d', v', z, e2, p⟩
        · rw [show ckey (.tpl l') = .tup l' from rfl, z] at el; cases el
        · rw [show ckey (.tpl l') = .tup l' from rfl, z] at el
          cases el
          exact ⟨a, v', _, rfl, by rw [← e2]; exact DGet.t hh (w.sub _ _ hb), p, h⟩
theorem din_x {φ : Bool → Prop} (w : Wd K M H G) (rx : Rep K G x v) (ry : Rep K G y u) (h : dinQ M x y φ) : ∃ a o, v = .ref a ∧ DGet H a u o ∧ φ o.isSome := by
  obtain ⟨p, l, rfl, hk, h⟩ := h
  cases rx
  rcases hk with ⟨hp, k, hk⟩ | ⟨hp, l', ks, rfl, hk⟩
  · obtain ⟨kvs, hh, r⟩ := (w.cells _ _ hp).2
    have ec : ckey y = y := by cases y <;> first | rfl | cases hk
    rw [ec] at h
    rw [key_v ry hk]
    refine ⟨p, _, rfl, DGet.k (k := k) hh, ?_⟩
    rcases repD_look hk r with ⟨z1, z2⟩ | ⟨_, _, z1, z2, _⟩ <;> (rw [z1] at h; rw [z2]; exact h)
  · obtain ⟨kvs, hh, r⟩ := (w.cells _ _ hp).2
    cases ry with
    | tpl hb rl =>
      have ev := keys_v rl hk
      subst ev
      refine ⟨p, _, rfl, DGet.t (k := ks) hh (w.sub _ _ hb), ?_⟩
      rcases repT_look (c := .tup l') hk r with ⟨z1, z2⟩ | ⟨_, _, z1, z2, _⟩ <;> (rw [show ckey (.tpl l') = .tup l' from rfl, z1] at h; rw [z2]; exact h)
theorem dput_x {φ : Sto → Prop} (w : Wd K M H G) (rx : Rep K G x v) (ry : Rep K G y u) (rd : Rep K G d t) (h : dputQ M x y d φ) : ∃ a H' M', v = .ref a ∧ DPut H a u t H' ∧ φ M' ∧ Wd K M' H' G ∧ Since H G M M' H' G := by
  obtain ⟨p, l, rfl, hl, hk⟩ := h
  cases rx
  rcases hk with ⟨hp, ⟨k, hk⟩, h⟩ | ⟨hp, ⟨l', ks, rfl, hk⟩, h⟩
  · obtain ⟨kvs, hh, r⟩ := (w.cells _ _ hp).2
    rw [key_v ry hk]
    obtain ⟨w1, s1⟩ := cell_put (c := .dic (dput l y d)) (o := .dK (putK kvs k t)) w hp ⟨_, upd_same, repD_put hk rd r⟩
    exact ⟨p, _, _, rfl, DPut.k hh (by rw [← r.length]; exact hl), h, w1, s1⟩
  · obtain ⟨kvs, hh, r⟩ := (w.cells _ _ hp).2
    cases ry with
    | tpl hb rl =>
      have ev := keys_v rl hk
      subst ev
      obtain ⟨w1, s1⟩ := cell_put (c := .dit (dput l (.tup l') d)) (o := .dT (putK kvs ks t)) w hp ⟨_, upd_same, repT_put (c := .tup l') hk rd r⟩
      exact ⟨p, _, _, rfl, DPut.t hh (w.sub _ _ hb) (by rw [← r.length]; exact hl), h, w1, s1⟩
end
theorem units1 {k : Nat} {A : Around} (r : Room k A) : A.units + 1 < cLine := by have := room65 r; omega
section
variable {X : Cx} {B : Bs} {pos p3 : Pos} {a b : Expr} {es : List Expr} {fa fb fc : DTE} {ga : DTA} {k : Nat}
theorem de_dget (hr : Room k X.A) (ha : DE X B a fa) (hb : DE X B b fb) (hs : NoSl b := by exact fun _ _ => rfl) : DE X B (.Subscript a b pos) (fun r M Ψ => fa r M fun x M1 => fb r M1 fun y M2 => dgetQ M2 x y fun d => Ψ d M2) :=
  PE_imp (pe_dget (units1 hr) ha hb hs) fun σ H Q ⟨r, M, G, Ψ, R, h, k⟩ => by
    refine ⟨r, M, G, _, R, h, fun x M1 v H1 G1 q1 R1 s1 p1 => ⟨r, M1, G1, _, R1, q1, fun y M2 u H2 G2 q2 R2 s2 p2 => ?_⟩⟩
    obtain ⟨c, z, d, e, g, p, q⟩ := dget_x R2.wd (p1.mono s2) p2 q2
    exact ⟨c, z, e, g, k _ _ _ _ _ q R2 (s1.tr s2) p⟩
theorem ds_dput {value : Expr} (hr : Room k X.A) (hv : DE X B value fc) (ha : DE X B a fa) (hb : DE X B b fb) (hs : swapsWith value (some (.Subscript a b p3)) pos.line X.env = pure false := by rfl) :
    DS X B (.Assign [.Subscript a b p3] value pos) (fun E r M => fc r M fun d M1 => fa r M1 fun x M2 => fb r M2 fun y M3 => dputQ M3 x y d fun M4 => E.nx r M4) :=
  PS_imp (ps_dput (units1 hr) ha hb hv hs) fun D' σ H h => by
    obtain ⟨r, M, G, E, R, q, k⟩ := EkOk.of h
    refine ⟨r, M, G, _, R, q, fun d M1 v H1 G1 q1 R1 s1 p1 => ?_⟩
    refine ⟨r, M1, G1, _, R1, q1, fun x M2 u H2 G2 q2 R2 s2 p2 => ?_⟩
    refine ⟨r, M2, G2, _, R2, q2, fun y M3 t H3 G3 q3 R3 s3 p3 => ?_⟩
    obtain ⟨c, H', M', e, g, q, w, s⟩ := dput_x R3.wd (p2.mono s3) p3 ((p1.mono s2).mono s3) q3
    exact ⟨c, H', e, g, k.nx _ _ _ _ _ q (R3.go w s) ((s1.tr s2).tr s3)⟩
theorem de_dnewK : DE X B (.Dict [] [] pos) (fun _ M Ψ => ∀ p, M p = none → Ψ (.ref p) (updM M p (.dic []))) :=
  PE_imp pe_dnewK fun σ H Q ⟨r, M, G, Ψ, R, h, k⟩ => fun p hp => by
    obtain ⟨w, s⟩ := cell_new (c := .dic []) (o := .dK []) R.wd hp ⟨_, upd_same, .nil⟩
    exact k _ _ _ _ _ (h p (R.wd.nomem hp)) (R.go w s) Sub.rfl' .ref
theorem de_tpl {x1} (h : DA X B es ga) : DE X B (.Tuple es x1 pos) (fun r M Ψ => ga r M fun ds M1 => ds.length ≤ sizeLine ∧ Ψ (.tpl ds) M1) := by
  refine PE_imp (pe_tup h) fun σ H Q ⟨r, M, G, Ψ, R, h, k⟩ => ?_
  refine ⟨r, M, G, _, R, h, fun ds M1 vs H1 G1 ⟨z, q⟩ R1 s1 p1 => ⟨by rw [← p1.length]; exact z, fun p hp => ?_⟩⟩
  have g : Grow H1 G1 (upd H1 p (.tup vs)) (upd G1 p (.tup vs)) := grow_upd R1.wd.sub hp
  exact k _ _ _ _ _ q (R1.grow g) (s1.tr g.gsub) (.tpl upd_same (p1.mono g.gsub))
def wk : D → D
  | .tpl l => .tup l
  | d => d
theorem rep_wk {K : PySem.W.Frag} {G : Hp} {d : D} {v : V} (r : Rep K G d v) : Rep K G (wk d) v := by
  cases r with
  | tpl h r => exact .tup (SqT.of h) r
  | non => exact .non
  | bl => exact .bl
  | int => exact .int
  | str => exact .str
  | ty => exact .ty
  | ref => exact .ref
  | tup h r => exact .tup h r
  | fn h q => exact .fn h q
  | lst h r => exact .lst h r
  | lk h r => exact .lk h r
  | dic h r => exact .dic h r
  | dlk h r => exact .dlk h r
  | dit h r => exact .dit h r
  | obj h r => exact .obj h r
theorem de_wk (h : DE X B a fa) : DE X B a (fun r M Ψ => fa r M fun d M1 => Ψ (wk d) M1) :=
  PE_imp h fun σ H Q ⟨r, M, G, Ψ, R, h, k⟩ => ⟨r, M, G, _, R, h, fun d M1 v H1 G1 q R1 s1 p1 => k _ _ _ _ _ q R1 s1 (rep_wk p1)⟩
end
end Z
namespace L2
open PySem PySem.Spec PyProof.Rows
def disp1Q (p : Addr) (Q : V → Hp → Prop) (x y : V) (H2 : Hp) : Prop := H2 p = some (.dT []) ∧ ∃ b ks, x = .ref b ∧ H2 b = some (.tup (ks.map kV)) ∧ Q (.ref p) (upd H2 p (.dT [(ks, y)]))
def tDisp1 (tk tv : TE) : TE := fun σ H Q => ∀ p, H p = none → tk σ (upd H p (.dT [])) fun x H1 => tv σ H1 fun y H2 => disp1Q p Q x y H2
def disp1P (p : Addr) (Q : V → Hp → Prop) : List (V × V) → Hp → Prop
  | [(x, y)], H2 => disp1Q p Q x y H2
  | _, _ => False
theorem pe_disp1 {X : Cx} {pos : Pos} {k v : Expr} {tk tv : TE} (hu : X.A.units + 1 < cLine) (hk : PE X k tk) (hv : PE X v tv) : PE X (.Dict [some k] [v] pos) (tDisp1 tk tv) := by
  refine ⟨fun pins s σ H Q I q => ?_⟩
  have hn := I.hok.fresh (Nat.le_refl s.heap.objs.size)
  have I1 := I.laid (a := s.heap.objs.size) (o := .dT []) (h' := s.heap.push { cls := .type "dict", data := .dict #[] }) (t' := s.toks) (fun _ _ q => Heap.get?_push_of_some _ q) (Nat.le_refl _) (dt_empty s.heap I.big)
  have hlen : (pairTrees [some k] [v] X.env pos).length = 1 := pairTrees_length [some k] [v] X.env pos rfl rfl
  rw [arm_eval_Dict, zip_pairTrees [some k] [v] X.env pos rfl rfl, dictDisplay_pairs _ (by intro z; rw [z] at hlen; cases hlen) (by omega)]
  refine wpAny_bind (wpAny_standAt (wpAny_bind (wpAny_subDictH (knd := tupleKind (mixKind X.prog X.w)) (show X.A.units < cLine by omega) (by omega) ?_)))
  have hr : tPairs [(tk, tv)] σ (upd H s.heap.objs.size (.dT [])) (disp1P s.heap.objs.size Q) := q _ hn
  refine thn ((pps_cons hk hv pps_nil).run pins _ σ _ _ I1 hr) fun ws s2 ⟨ps, H2, I2, rel, q2⟩ => ?_
  match ps, ws, rel, q2 with
  | [(x, y)], _, .cons (b := (kv, vv)) ⟨rx, ry⟩ .nil, ⟨e, b, ks, ex, eb, q3⟩ =>
    subst ex
    cases (show kv = Value.ref b from rx)
    obtain ⟨z, hd, xs, rel0, dd⟩ := dt_of I2.hok e
    cases rel0
    refine ⟨[(ks, b, vv)], ⟨rfl, rfl, key_of I2.hok eb, trivial⟩, dd, fun h' tk dd' hs => wpAny_pure ⟨.ref s.heap.objs.size, _, ?_, rfl, q3⟩⟩
    obtain ⟨q, es, ep, hq, h2, h3, h4, _, h5⟩ := dd'
    refine d_write I2 (by rw [e]; exact True.intro) hs ⟨q, hq⟩ ⟨(show 1 ≤ sizeLine by decide), hd, _, (KT.put (b := b) (u := vv) (.nil : KT H2 [] []) ks eb ry).keeps fun c ys ec => ?_, q, es, ep, hq, h2, h3, h4, h5⟩
    rw [upd_ne (ne_of ec e (fun z => nomatch z))]
    exact ec
end L2
namespace Z
open PySem PySem.Spec PyProof.Rows L2
section
variable {X : Cx} {B : Bs} {pos : Pos} {a b : Expr} {fk fv : DTE} {k : Nat}
theorem de_disp1 (hr : Room k X.A) (hk : DE X B a fk) (hv : DE X B b fv) : DE X B (.Dict [some a] [b] pos)
    (fun r M Ψ => ∀ p, M p = none → fk r (updM M p (.dit [])) fun y M1 => fv r M1 fun d M2 => M2 p = some (.dit []) ∧ (∃ l' ks, y = .tpl l' ∧ keysD l' = some ks) ∧ Ψ (.ref p) (updM M2 p (.dit [(ckey y, d)]))) :=
  PE_imp (pe_disp1 (units1 hr) hk hv) fun σ H Q ⟨r, M, G, Ψ, R, h, k⟩ => fun p hp => by
    obtain ⟨w, s⟩ := cell_new (c := .dit []) (o := .dT []) R.wd hp ⟨_, upd_same, .nil⟩
    refine ⟨r, _, G, _, R.go w s, h p (R.wd.nomem hp), fun y M1 v H1 G1 q1 R1 s1 p1 => ?_⟩
    refine ⟨r, M1, G1, _, R1, q1, fun d M2 u H2 G2 q2 R2 s2 p2 => ?_⟩
    obtain ⟨e, ⟨l', ks, rfl, hk'⟩, q⟩ := q2
    obtain ⟨kvs, hh, r0⟩ := (R2.wd.cells _ _ e).2
    cases r0
    cases p1.mono s2 with
    | tpl hb rl =>
      have ev := keys_v rl hk'
      subst ev
      obtain ⟨w3, s3⟩ := cell_put (c := .dit [(.tup l', d)]) (o := .dT [(ks, u)]) R2.wd e ⟨_, upd_same, .cons hk' p2 .nil⟩
      exact ⟨hh, _, ks, rfl, R2.wd.sub _ _ hb, k _ _ _ _ _ q (R2.go w3 s3) (s1.tr s2) .ref⟩
theorem dt_dnin {fb fa : DTE} (hr : Room k X.A) (hb : DE X B b fb) (ha : DE X B a fa) (h1 : behindInMarks .NotIn a = false := by rfl) : DT X B (.Compare b [.NotIn] [a] pos) (fun r M Ψ => fb r M fun y M1 => fa r M1 fun x M2 => dinQ M2 x y fun c => Ψ (!c) M2) :=
  PT_imp (pt_cmp (pc_dnotin (units1 hr) hb ha) h1) fun σ H Q ⟨r, M, G, Ψ, R, h, k⟩ => by
    refine ⟨r, M, G, _, R, h, fun y M1 v H1 G1 q1 R1 s1 p1 => ⟨r, M1, G1, _, R1, q1, fun x M2 u H2 G2 q2 R2 s2 p2 => ?_⟩⟩
    obtain ⟨c, o, e, g, q⟩ := din_x R2.wd p2 (p1.mono s2) q2
    exact ⟨c, o, e, g, _, rfl, k _ _ _ _ q R2 (s1.tr s2)⟩
end
end Z
namespace Z
open PySem PySem.Spec PyProof.Rows L2

theorem nodup_lt : ∀ (N : Nat) (l : List Nat), l.Nodup → (∀ x ∈ l, x < N) → l.length ≤ N
  | 0, [], _, _ => Nat.le_refl _
  | 0, x :: _, _, h => absurd (h x (List.mem_cons_self ..)) (Nat.not_lt_zero _)
  | N + 1, l, hn, h => by
    have h1 := nodup_lt N (l.filter (· ≠ N)) (hn.filter _) fun x hx => by
      obtain ⟨a, b⟩ := List.mem_filter.mp hx
      have := h x a
      have : x ≠ N := by simpa using b
      omega
    have h2 : l.length ≤ (l.filter (· ≠ N)).length + 1 := by
      have e : ∀ m : List Nat, m.Nodup → m.length ≤ (m.filter (· ≠ N)).length + 1 := fun m hm => by
        induction m with
        | nil => simp
        | cons x m ih =>
          obtain ⟨a, b⟩ := List.nodup_cons.mp hm
          by_cases z : x = N
          · have : m.filter (· ≠ N) = m := List.filter_eq_self.mpr fun y hy => by
              have : y ≠ N := fun e => a (by rw [z, ← e]; exact hy)
              simpa using this
            subst z
            rw [List.filter_cons_of_neg (by simp), this]
            exact Nat.le_refl _
          · rw [List.filter_cons_of_pos (by simpa using z)]
            have := ih b
            simp only [List.length_cons]
            omega
      exact e l hn
    omega
theorem nodup_map {α β : Type} {f : α → β} : ∀ {l : List α}, (∀ x ∈ l, ∀ y ∈ l, f x = f y → x = y) → l.Nodup → (l.map f).Nodup
  | [], _, _ => List.nodup_nil
  | x :: l, h, hn => by
    obtain ⟨a, b⟩ := List.nodup_cons.mp hn
    rw [List.map_cons]
    refine List.nodup_cons.mpr ⟨fun hx => ?_, nodup_map (fun x hx y hy => h x (List.mem_cons_of_mem _ hx) y (List.mem_cons_of_mem _ hy)) b⟩
    obtain ⟨y, hy, e⟩ := List.mem_map.mp hx
    exact a (by rw [← h y (List.mem_cons_of_mem _ hy) x (List.mem_cons_self ..) e]; exact hy)
theorem bal_small {t : T4} (hn : Nn t) (hb : Bal t) (hd : 0 < det4 t) : t.2.2.1 < t.1 ∧ t.2.1 < t.2.2.2 ∧ t.1 + t.2.1 ≤ det4 t ∧ t.2.2.1 + t.2.2.2 ≤ det4 t := by
  obtain ⟨a, b, c, d⟩ := t
  obtain ⟨h1, h2, h3, h4⟩ := hn
  obtain ⟨b1, b2⟩ := hb
  unfold bR at b1
  unfold bL at b2
  unfold det4 at hd ⊢
  dsimp only at *
  have k1 : ¬ (c ≤ a ∧ d ≤ b) := by simpa using b1
  have k2 : ¬ (a ≤ c ∧ b ≤ d) := by simpa using b2
  have k3 : c < a := by
    rcases Int.lt_or_le c a with z | z
    · exact z
    · exfalso
      have : d < b := by omega
      have e1 : a * d ≤ c * d := Int.mul_le_mul_of_nonneg_right z h4
      have e2 : c * d ≤ c * b := Int.mul_le_mul_of_nonneg_left (by omega) h3
      have e3 : c * b = b * c := Int.mul_comm _ _
      omega
  have k4 : b < d := by omega
  refine ⟨k3, k4, ?_, ?_⟩
  · have e1 : a * (b + 1) ≤ a * d := Int.mul_le_mul_of_nonneg_left (by omega) h1
    have e2 : b * (c + 1) ≤ b * a := Int.mul_le_mul_of_nonneg_left (by omega) h2
    have e3 : a * (b + 1) = a * b + a := by rw [Int.mul_add, Int.mul_one]
    have e4 : b * (c + 1) = b * c + b := by rw [Int.mul_add, Int.mul_one]
    have e5 : b * a = a * b := Int.mul_comm _ _
    omega
  · have e1 : (c + 1) * d ≤ a * d := Int.mul_le_mul_of_nonneg_right (by omega) h4
    have e2 : c * (b + 1) ≤ c * d := Int.mul_le_mul_of_nonneg_left (by omega) h3
    have e3 : (c + 1) * d = c * d + d := by rw [Int.add_mul, Int.one_mul]
    have e4 : c * (b + 1) = c * b + c := by rw [Int.mul_add, Int.mul_one]
    have e5 : b * c = c * b := Int.mul_comm _ _
    omega
structure Rm (n : Int) (t : T4) : Prop where
  nn : Nn t
  bal : Bal t
  det : det4 t = n
def rcode (t : T4) : Nat := t.1.natAbs * 3721 + t.2.1.natAbs * 61 + t.2.2.1.natAbs
theorem Rm.le {n : Int} {t : T4} (h : Rm n t) (h0 : 0 < n) (h1 : n ≤ 60) : t.2.2.1 < t.1 ∧ t.2.1 < t.2.2.2 ∧ t.1 + t.2.1 ≤ 60 ∧ t.2.2.1 + t.2.2.2 ≤ 60 := by
  have := bal_small h.nn h.bal (by rw [h.det]; exact h0)
  rw [h.det] at this
  exact ⟨this.1, this.2.1, by omega, by omega⟩
theorem rcode_inj {n : Int} {s t : T4} (hs : Rm n s) (ht : Rm n t) (h0 : 0 < n) (h1 : n ≤ 60) (e : rcode s = rcode t) : s = t := by
  have k1 := hs.le h0 h1
  have k2 := ht.le h0 h1
  obtain ⟨a, b, c, d⟩ := s
  obtain ⟨a', b', c', d'⟩ := t
  obtain ⟨⟨p1, p2, p3, p4⟩, _, p5⟩ := hs
  obtain ⟨⟨q1, q2, q3, q4⟩, _, q5⟩ := ht
  unfold rcode at e
  unfold det4 at p5 q5
  dsimp only at *
  have e1 : a = a' := by omega
  have e2 : b = b' := by omega
  have e3 : c = c' := by omega
  subst e1 e2 e3
  have e4 : a * d = a * d' := by omega
  rw [Int.eq_of_mul_eq_mul_left (show a ≠ 0 by omega) e4]
theorem rooms_le {n : Int} {l : List T4} (h0 : 0 < n) (h1 : n ≤ 60) (hn : l.Nodup) (h : ∀ t ∈ l, Rm n t) : l.length ≤ 230000 := by
  have := nodup_lt 230000 (l.map rcode) (nodup_map (fun x hx y hy e => rcode_inj (h x hx) (h y hy) h0 h1 e) hn) fun x hx => by
    obtain ⟨t, ht, rfl⟩ := List.mem_map.mp hx
    have k := (h t ht).le h0 h1
    have k2 := (h t ht).nn
    unfold rcode
    obtain ⟨a, b, c, d⟩ := t
    obtain ⟨p1, p2, p3, p4⟩ := k2
    dsimp only at *
    omega
  rw [List.length_map] at this
  exact this
noncomputable def wd (t : T4) : List Nat := Classical.epsilon fun w => ∃ u, Tk t w u
noncomputable def lf (t : T4) : T4 := Classical.epsilon fun u => ∃ w, Tk t w u
theorem wd_lf {t u : T4} {w : List Nat} (hd : 0 < det4 t) (h : Tk t w u) : wd t = w ∧ lf t = u := by
  have h1 : ∃ u, Tk t (wd t) u := Classical.epsilon_spec (p := fun w => ∃ u, Tk t w u) ⟨w, u, h⟩
  have h2 : ∃ w, Tk t w (lf t) := Classical.epsilon_spec (p := fun u => ∃ w, Tk t w u) ⟨u, w, h⟩
  obtain ⟨u', h1⟩ := h1
  obtain ⟨w', h2⟩ := h2
  exact ⟨(Tk.uniq hd h1 h).1, (Tk.uniq hd h2 h).2⟩
def tother (c : Nat) : Nat := if c = 76 then 82 else 76
def trn (tu : Bool) (c : Nat) : Nat := if tu = true then tother c else c
noncomputable def gol (tu : Bool) (u : T4) (c : Nat) : T4 := lf (mul4 u (turnT (trn tu c)))
noncomputable def tld (tu : Bool) (u : T4) (c : Nat) : List Nat := wd (mul4 u (turnT (trn tu c)))
open Classical in
noncomputable def insR (l : List T4) (g : T4) : List T4 := if g ∈ l then l else l ++ [g]
noncomputable def growR (tu : Bool) (l : List T4) (u : T4) : List T4 := insR (insR l (gol tu u 76)) (gol tu u 82)
inductive Bf (tu : Bool) : List T4 → Nat → List T4 → Prop
  | stop {l : List T4} {k : Nat} : l.length ≤ k → Bf tu l k l
  | step {l l' : List T4} {k : Nat} {u : T4} : l[k]? = some u → Bf tu (growR tu l u) (k + 1) l' → Bf tu l k l'
theorem Bf.uniq {tu : Bool} {l l1 l2 : List T4} {k : Nat} (h : Bf tu l k l1) (h' : Bf tu l k l2) : l1 = l2 := by
  induction h with
  | stop a =>
    cases h' with
    | stop => rfl
    | step e => rw [List.getElem?_eq_none_iff.mpr a] at e; cases e
  | step e _ ih =>
    cases h' with
    | stop a => rw [List.getElem?_eq_none_iff.mpr a] at e; cases e
    | step e' r => rw [e] at e'; cases e'; exact ih r
theorem insR_pre (l : List T4) (g : T4) : ∃ m, insR l g = l ++ m := by
  unfold insR
  split
  · exact ⟨[], (List.append_nil _).symm⟩
  · exact ⟨[g], rfl⟩
theorem mem_insR (l : List T4) (g : T4) : g ∈ insR l g := by
  unfold insR
  split
  · assumption
  · simp
theorem insR_nodup {l : List T4} {g : T4} (h : l.Nodup) : (insR l g).Nodup := by
  unfold insR
  split
  · exact h
  · rename_i z
    refine List.nodup_append.mpr ⟨h, by simp, fun a ha b hb e => ?_⟩
    simp only [List.mem_singleton] at hb
    exact z (by rw [← hb, ← e]; exact ha)
theorem insR_all {P : T4 → Prop} {l : List T4} {g : T4} (h : ∀ t ∈ l, P t) (hg : P g) : ∀ t ∈ insR l g, P t := by
  unfold insR
  split
  · exact h
  · intro t ht
    rcases List.mem_append.mp ht with z | z
    · exact h t z
    · simp only [List.mem_singleton] at z
      rw [z]; exact hg
theorem growR_pre (tu : Bool) (l : List T4) (u : T4) : ∃ m, growR tu l u = l ++ m := by
  unfold growR
  obtain ⟨m1, e1⟩ := insR_pre l (gol tu u 76)
  obtain ⟨m2, e2⟩ := insR_pre (insR l (gol tu u 76)) (gol tu u 82)
  exact ⟨m1 ++ m2, by rw [e2, e1, List.append_assoc]⟩
theorem Bf.pre {tu : Bool} {l l' : List T4} {k : Nat} (h : Bf tu l k l') : ∃ m, l' = l ++ m := by
  induction h with
  | stop => exact ⟨[], (List.append_nil _).symm⟩
  | step e _ ih =>
    obtain ⟨m, e1⟩ := ih
    obtain ⟨m0, e0⟩ := growR_pre tu _ _
    exact ⟨m0 ++ m, by rw [e1, e0, List.append_assoc]⟩
theorem idx_app {l m : List T4} {g : T4} (h : g ∈ l) : (l ++ m).idxOf g = l.idxOf g := by
  rw [List.idxOf_append, if_pos h]
theorem tD_inj {s t : T4} (h : tD s = tD t) : s = t := by
  obtain ⟨a, b, c, d⟩ := s
  obtain ⟨a', b', c', d'⟩ := t
  injection h with h
  injection h with e1 h
  injection h with e2 h
  injection h with e3 h
  injection h with e4 _
  injection e1 with e1
  injection e2 with e2
  injection e3 with e3
  injection e4 with e4
  show (a, b, c, d) = (a', b', c', d')
  rw [show a = a' from e1, show b = b' from e2, show c = c' from e3, show d = d' from e4]
def tP (t : T4) : D := .tpl (tL t)
theorem ck_tP (t : T4) : ckey (tP t) = tD t := rfl
theorem ks_tP (t : T4) : ∃ l' ks, tP t = .tpl l' ∧ keysD l' = some ks := ⟨_, _, rfl, rfl⟩
def plF : Nat → List T4 → List (D × D)
  | _, [] => []
  | k, u :: l => (tD u, .int k) :: plF (k + 1) l
theorem plF_len : ∀ (k : Nat) (l : List T4), (plF k l).length = l.length
  | _, [] => rfl
  | k, _ :: l => congrArg (· + 1) (plF_len (k + 1) l)
theorem plF_app : ∀ (k : Nat) (l : List T4) (g : T4), plF k (l ++ [g]) = plF k l ++ [(tD g, .int (k + l.length : Nat))]
  | k, [], g => rfl
  | k, u :: l, g => by
    show (tD u, D.int k) :: plF (k + 1) (l ++ [g]) = _
    rw [plF_app (k + 1) l g]
    show (tD u, D.int k) :: (plF (k + 1) l ++ _) = (tD u, D.int k) :: (plF (k + 1) l ++ _)
    rw [show k + 1 + l.length = k + (u :: l).length by simp only [List.length_cons]; omega]
theorem look_in : ∀ (k : Nat) (l : List T4) (g : T4), g ∈ l → dlook (plF k l) (tD g) = some (.int (k + l.idxOf g : Nat))
  | k, u :: l, g, h => by
    by_cases z : u = g
    · subst z
      rw [List.idxOf_cons_self]
      exact dlook_pos rfl
    · rw [show plF k (u :: l) = (tD u, .int k) :: plF (k + 1) l from rfl, dlook_neg (fun e => z (tD_inj e)), look_in (k + 1) l g (by
        rcases List.mem_cons.mp h with e | e
        · exact absurd e.symm z
        · exact e), List.idxOf_cons, show (u == g) = false from beq_eq_false_iff_ne.mpr z]
      simp only [cond_false, Bool.false_eq_true, if_false]
      rw [show k + 1 + l.idxOf g = k + (l.idxOf g + 1) by omega]
theorem look_out : ∀ (k : Nat) (l : List T4) (g : T4), g ∉ l → dlook (plF k l) (tD g) = none
  | _, [], _, _ => rfl
  | k, u :: l, g, h => by
    rw [show plF k (u :: l) = (tD u, .int k) :: plF (k + 1) l from rfl, dlook_neg (fun e => h (by rw [tD_inj e]; exact List.mem_cons_self ..)), look_out (k + 1) l g (fun z => h (List.mem_cons_of_mem _ z))]
theorem put_out {l : List T4} {g : T4} (h : g ∉ l) : dput (plF 0 l) (tD g) (.int (l.length : Nat)) = plF 0 (l ++ [g]) := by
  unfold dput
  rw [look_out 0 l g h, if_neg (by simp), plF_app, Nat.zero_add]
noncomputable def stD (tu : Bool) (u : T4) (l : List T4) (c : Nat) : D := .tup [.str ⟨(tld tu u c).toArray⟩, .int (l.idxOf (gol tu u c) : Nat)]
noncomputable def rwD (tu : Bool) (l : List T4) (u : T4) : D := .dic [(.str ⟨#[76]⟩, stD tu u l 76), (.str ⟨#[82]⟩, stD tu u l 82)]
noncomputable def mcD (tu : Bool) (w : List Nat) (l : List T4) : D := .tup [.bl tu, .str ⟨w.toArray⟩, .lst (l.map tP), .lst (l.map (rwD tu l))]
theorem tk_ex : ∀ (n : Nat) {t : T4}, sum4 t ≤ n → Nn t → 0 < det4 t → ∃ w u, Tk t w u
  | 0, t, hs, hn, hd => by
    exfalso
    obtain ⟨a, b, c, d⟩ := t
    unfold sum4 at hs
    unfold det4 at hd
    dsimp only at hs hd
    have e1 : a = 0 := by omega
    have e2 : b = 0 := by omega
    subst e1 e2
    simp at hd
  | n + 1, t, hs, hn, hd => by
    cases hb : bR t with
    | true =>
      obtain ⟨k, _, k1, hn2, hs2⟩ := stepR_ok hn hd hb
      have e := mul_subR k t
      have hd2 : det4 (subR k t) = det4 t := det_w e
      obtain ⟨w, u, h⟩ := tk_ex n (t := subR k t) (by omega) hn2 (by rw [hd2]; exact hd)
      refine ⟨List.replicate k 82 ++ w, u, ⟨fun d hd => ?_, ?_, h.nn, h.bal⟩⟩
      · rcases List.mem_append.mp hd with z | z
        · exact .inr (List.eq_of_mem_replicate z)
        · exact h.lr d z
      · rw [wL_app, mul_assoc4, h.eq, e]
    | false =>
      cases hb2 : bL t with
      | true =>
        obtain ⟨k, _, k1, hn2, hs2⟩ := stepL_ok hn hd hb2
        have e := mul_subL k t
        have hd2 : det4 (subL k t) = det4 t := det_w e
        obtain ⟨w, u, h⟩ := tk_ex n (t := subL k t) (by omega) hn2 (by rw [hd2]; exact hd)
        refine ⟨List.replicate k 76 ++ w, u, ⟨fun d hd => ?_, ?_, h.nn, h.bal⟩⟩
        · rcases List.mem_append.mp hd with z | z
          · exact .inl (List.eq_of_mem_replicate z)
          · exact h.lr d z
        · rw [wL_app, mul_assoc4, h.eq, e]
      | false => exact ⟨[], t, Tk.bal_self hn ⟨hb, hb2⟩⟩
theorem tk_lf {t : T4} (hn : Nn t) (hd : 0 < det4 t) : Tk t (wd t) (lf t) := by
  obtain ⟨w, u, h⟩ := tk_ex _ (Nat.le_refl _) hn hd
  obtain ⟨e1, e2⟩ := wd_lf hd h
  rw [e1, e2]; exact h
theorem Rm.stp {n : Int} {u : T4} (h : Rm n u) (c : Nat) : Nn (mul4 u (turnT c)) ∧ det4 (mul4 u (turnT c)) = n :=
  ⟨h.nn.mul (nn_turn c), by rw [det_mul, det_turn, Int.mul_one, h.det]⟩
theorem Rm.gol {n : Int} {u : T4} (h : Rm n u) (h0 : 0 < n) (tu : Bool) (c : Nat) : Tk (mul4 u (turnT (trn tu c))) (tld tu u c) (gol tu u c) ∧ Rm n (gol tu u c) := by
  obtain ⟨a, b⟩ := h.stp (trn tu c)
  have k := tk_lf a (by rw [b]; exact h0)
  exact ⟨k, k.nn, k.bal, by rw [← b]; exact det_w k.eq⟩
theorem growR_ok {n : Int} {l : List T4} {u : T4} {tu : Bool} (h0 : 0 < n) (hu : Rm n u) (hn : l.Nodup) (h : ∀ t ∈ l, Rm n t) : (growR tu l u).Nodup ∧ ∀ t ∈ growR tu l u, Rm n t :=
  ⟨insR_nodup (insR_nodup hn), insR_all (insR_all h (hu.gol h0 tu 76).2) (hu.gol h0 tu 82).2⟩
theorem Bf.rooms {n : Int} {tu : Bool} {l l' : List T4} {k : Nat} (h0 : 0 < n) (b : Bf tu l k l') : l.Nodup → (∀ t ∈ l, Rm n t) → (∀ i < k, ∀ u, l[i]? = some u → gol tu u 76 ∈ l ∧ gol tu u 82 ∈ l) →
    l'.Nodup ∧ (∀ t ∈ l', Rm n t) ∧ ∀ u ∈ l', gol tu u 76 ∈ l' ∧ gol tu u 82 ∈ l' := by
  induction b with
  | @stop l k a =>
    intro hn h hs
    refine ⟨hn, h, fun u hu => ?_⟩
    obtain ⟨i, hi, e⟩ := List.getElem_of_mem hu
    exact hs i (by omega) u (by rw [List.getElem?_eq_getElem hi, e])
  | @step l l' k u e _ ih =>
    intro hn h hs
    obtain ⟨a, b⟩ := growR_ok (tu := tu) h0 (h u (List.mem_of_getElem? e)) hn h
    refine ih a b fun i hi v hv => ?_
    obtain ⟨m, em⟩ := growR_pre tu l u
    have hk : k < l.length := by
      obtain ⟨z, _⟩ := List.getElem?_eq_some_iff.mp e
      exact z
    rw [em, List.getElem?_append_left (by omega)] at hv
    rcases Nat.lt_or_ge i k with z | z
    · obtain ⟨p, q⟩ := hs i z v hv
      rw [em]
      exact ⟨List.mem_append_left _ p, List.mem_append_left _ q⟩
    · have : i = k := by omega
      subst this
      rw [e] at hv
      cases hv
      unfold growR
      refine ⟨?_, mem_insR _ _⟩
      obtain ⟨m2, e2⟩ := insR_pre (insR l (Z.gol tu u 76)) (Z.gol tu u 82)
      rw [e2]
      exact List.mem_append_left _ (mem_insR _ _)
def pr4 (t : T4) : T4 := (t.1.fdiv (gN (iL t)), t.2.1.fdiv (gN (iL t)), t.2.2.1.fdiv (gN (iL t)), t.2.2.2.fdiv (gN (iL t)))
theorem dv_pr4 (t : T4) : D.tup ((dvL (gN (iL t)) (iL t)).map .int) = tD (pr4 t) := rfl
theorem gN_sm {t : T4} {n : Nat} (hs : Sm n t) (hd : det4 t ≠ 0) : 0 < gN (iL t) ∧ gN (iL t) < 2 ^ n := by
  obtain ⟨x, hx, h0⟩ := det_ne hd
  have h1 := gN_dvd hx
  have h2 : gN (iL t) ≠ 0 := fun z => h0 (gN_zero z x hx)
  have h3 := Nat.le_of_dvd (by omega) h1
  have h4 : x.natAbs < 2 ^ n := by
    unfold iL at hx
    simp only [List.mem_cons, List.not_mem_nil, or_false] at hx
    rcases hx with rfl | rfl | rfl | rfl
    · exact hs.1
    · exact hs.2.1
    · exact hs.2.2.1
    · exact hs.2.2.2
  exact ⟨Nat.pos_of_ne_zero h2, Nat.lt_of_le_of_lt h3 h4⟩
theorem gN_pos {t : T4} (hd : det4 t ≠ 0) : 0 < gN (iL t) := by
  obtain ⟨x, hx, h0⟩ := det_ne hd
  exact Nat.pos_of_ne_zero fun z => h0 (gN_zero z x hx)
theorem pr4_sc {t : T4} (hd : det4 t ≠ 0) : sc (gN (iL t)) (pr4 t) = t := by
  have hg := gN_pos hd
  have e : ∀ x ∈ iL t, (gN (iL t) : Int) * x.fdiv (gN (iL t)) = x := fun x hx => fdiv_ex hg (gN_dvd hx)
  show (_, _, _, _) = t
  obtain ⟨a, b, c, d⟩ := t
  dsimp only [pr4]
  rw [e a (by simp [iL]), e b (by simp [iL]), e c (by simp [iL]), e d (by simp [iL])]
theorem det_sc (m : Int) (t : T4) : det4 (sc m t) = m * m * det4 t := by unfold det4 sc; simp only; grind
theorem pr4_det {t : T4} (hd : det4 t ≠ 0) : det4 (pr4 t) ≠ 0 ∧ (0 < det4 (pr4 t) ↔ 0 < det4 t) := by
  have e : det4 t = (gN (iL t) : Int) * gN (iL t) * det4 (pr4 t) := by
    conv => lhs; rw [← pr4_sc hd]
    exact det_sc _ _
  have hg : (0 : Int) < (gN (iL t) : Int) * gN (iL t) := Int.mul_pos (by have := gN_pos hd; omega) (by have := gN_pos hd; omega)
  refine ⟨fun z => hd (by rw [e, z, Int.mul_zero]), ⟨fun h => by rw [e]; exact Int.mul_pos hg h, fun h => ?_⟩⟩
  rcases Int.lt_or_le 0 (det4 (pr4 t)) with z | z
  · exact z
  · have := Int.mul_nonpos_of_nonneg_of_nonpos (show (0 : Int) ≤ (gN (iL t) : Int) * gN (iL t) by omega) z
    omega
theorem fdiv_le_abs {x : Int} {g : Nat} (hg : 0 < g) (h : g ∣ x.natAbs) : (x.fdiv g).natAbs ≤ x.natAbs := by
  have e := fdiv_ex hg h
  conv => rhs; rw [← e]
  rw [Int.natAbs_mul, Int.natAbs_natCast]
  exact Nat.le_mul_of_pos_left _ hg
theorem pr4_le {t : T4} (hd : det4 t ≠ 0) : (pr4 t).1.natAbs ≤ t.1.natAbs ∧ (pr4 t).2.1.natAbs ≤ t.2.1.natAbs ∧ (pr4 t).2.2.1.natAbs ≤ t.2.2.1.natAbs ∧ (pr4 t).2.2.2.natAbs ≤ t.2.2.2.natAbs := by
  have hg := gN_pos hd
  refine ⟨fdiv_le_abs hg (gN_dvd ?_), fdiv_le_abs hg (gN_dvd ?_), fdiv_le_abs hg (gN_dvd ?_), fdiv_le_abs hg (gN_dvd ?_)⟩ <;> simp [iL]
theorem pr4_sm {t : T4} {n : Nat} (hd : det4 t ≠ 0) (hs : Sm n t) : Sm n (pr4 t) := by
  obtain ⟨a, b, c, d⟩ := pr4_le hd
  exact ⟨Nat.lt_of_le_of_lt a hs.1, Nat.lt_of_le_of_lt b hs.2.1, Nat.lt_of_le_of_lt c hs.2.2.1, Nat.lt_of_le_of_lt d hs.2.2.2⟩
theorem pr4_sum {t : T4} (hd : det4 t ≠ 0) : sum4 (pr4 t) ≤ sum4 t := by
  obtain ⟨a, b, c, d⟩ := pr4_le hd
  unfold sum4
  omega
theorem fdiv_nn {x : Int} (g : Nat) (h : 0 ≤ x) : 0 ≤ x.fdiv g := Int.fdiv_nonneg h (by omega)
theorem pr4_nn {t : T4} (h : Nn t) : Nn (pr4 t) := ⟨fdiv_nn _ h.1, fdiv_nn _ h.2.1, fdiv_nn _ h.2.2.1, fdiv_nn _ h.2.2.2⟩
theorem iL_scm (m : Int) (t : T4) : iL (sc m t) = (iL t).map (m * ·) := rfl
theorem pr4_scale {t : T4} (k : Nat) (hk : 0 < k) (hd : det4 t ≠ 0) : pr4 (sc k t) = pr4 t := by
  have hg := gN_pos hd
  have e : gN (iL (sc k t)) = k * gN (iL t) := by rw [iL_scm, gN_mul, Int.natAbs_natCast]
  have q : ∀ x ∈ iL t, ((k : Int) * x).fdiv ((k * gN (iL t) : Nat)) = x.fdiv (gN (iL t)) := fun x hx => by
    have h1 := fdiv_ex hg (gN_dvd hx)
    have h2 : 0 < k * gN (iL t) := Nat.mul_pos hk hg
    have h3 := fdiv_ex (g := k * gN (iL t)) (x := (k : Int) * x) h2 (by rw [Int.natAbs_mul, Int.natAbs_natCast]; exact Nat.mul_dvd_mul_left k (gN_dvd hx))
    refine Int.eq_of_mul_eq_mul_left (a := ((k * gN (iL t) : Nat) : Int)) (by omega) ?_
    rw [h3]
    rw [Int.natCast_mul, Int.mul_assoc, h1]
  show (_, _, _, _) = (_, _, _, _)
  rw [e]
  obtain ⟨a, b, c, d⟩ := t
  dsimp only [sc]
  rw [q a (by simp [iL]), q b (by simp [iL]), q c (by simp [iL]), q d (by simp [iL])]
def swC (t : T4) : T4 := (t.2.1, t.1, t.2.2.2, t.2.2.1)
theorem det_swC (t : T4) : det4 (swC t) = - det4 t := by unfold det4 swC; simp only; grind
def mtu (t : T4) : Bool := decide (det4 (pr4 t) < 0)
def mpl (t : T4) : T4 := if mtu t = true then swC (pr4 t) else pr4 t
theorem mpl_ok {t : T4} (hn : Nn t) (hd : det4 t ≠ 0) : Nn (mpl t) ∧ det4 (mpl t) = ((det4 (pr4 t)).natAbs : Nat) ∧ 0 < det4 (mpl t) ∧ sum4 (mpl t) ≤ sum4 t := by
  have h1 := pr4_nn hn
  have h2 := (pr4_det hd).1
  have h3 := pr4_sum hd
  unfold mpl
  cases e : mtu t with
  | true =>
    have := of_decide_eq_true e
    rw [if_pos rfl, det_swC]
    refine ⟨⟨h1.2.1, h1.1, h1.2.2.2, h1.2.2.1⟩, by omega, by omega, ?_⟩
    unfold sum4 at h3 ⊢
    unfold swC
    dsimp only
    omega
  | false =>
    have := of_decide_eq_false e
    rw [if_neg (by simp)]
    exact ⟨h1, by omega, by omega, h3⟩
end Z
namespace Z
open PySem PySem.Spec PyProof.Rows L2

noncomputable def rwL (tu : Bool) (l : List T4) (u : T4) : List (D × D) := [(.str ⟨#[76]⟩, stD tu u l 76), (.str ⟨#[82]⟩, stD tu u l 82)]
theorem stD_app {tu : Bool} {u : T4} {l : List T4} {c : Nat} (m : List T4) (h : gol tu u c ∈ l) : stD tu u (l ++ m) c = stD tu u l c := by
  unfold stD
  rw [idx_app h]
theorem rwL_app {tu : Bool} {u : T4} {l : List T4} (m : List T4) (h1 : gol tu u 76 ∈ l) (h2 : gol tu u 82 ∈ l) : rwL tu (l ++ m) u = rwL tu l u := by
  unfold rwL
  rw [stD_app m h1, stD_app m h2]
structure Ms (M0 M : Sto) (tu : Bool) (p1 p2 p3 : Addr) (l : List T4) (ps : List Addr) : Prop where
  c1 : M p1 = some (.lst (l.map tP))
  c2 : M p2 = some (.dit (plF 0 l))
  c3 : M p3 = some (.lst (ps.map .ref))
  n1 : M0 p1 = none
  n2 : M0 p2 = none
  n3 : M0 p3 = none
  n13 : p1 ≠ p3
  old : ∀ a c, M0 a = some c → M a = some c
  rows : ∀ (i : Nat) q, ps[i]? = some q → M0 q = none ∧ ∃ u, l[i]? = some u ∧ M q = some (.dic (rwL tu l u)) ∧ gol tu u 76 ∈ l ∧ gol tu u 82 ∈ l
variable {M0 M : Sto} {tu : Bool} {p1 p2 p3 p4 : Addr} {l : List T4} {ps : List Addr} {u g : T4}
theorem Ms.start (e1 : M0 p1 = none) (e2 : updM M0 p1 (.lst [tP u]) p2 = none) (e3 : updM (updM M0 p1 (.lst [tP u])) p2 (.dit (plF 0 [u])) p3 = none) :
    Ms M0 (updM (updM (updM M0 p1 (.lst [tP u])) p2 (.dit (plF 0 [u]))) p3 (.lst [])) tu p1 p2 p3 [u] [] := by
  have n21 : p2 ≠ p1 := fun z => by rw [z, updM_same] at e2; cases e2
  have n32 : p3 ≠ p2 := fun z => by rw [z, updM_same] at e3; cases e3
  rw [updM_ne n32] at e3
  have n31 : p3 ≠ p1 := fun z => by rw [z, updM_same] at e3; cases e3
  rw [updM_ne n31] at e3
  rw [updM_ne n21] at e2
  refine ⟨?_, ?_, updM_same, e1, e2, e3, Ne.symm n31, fun a c h => ?_, fun i q h => by simp at h⟩
  · rw [updM_ne (Ne.symm n31), updM_ne (Ne.symm n21), updM_same]; rfl
  · rw [updM_ne (Ne.symm n32), updM_same]
  · rw [updM_ne (fun z => by rw [z, e3] at h; cases h), updM_ne (fun z => by rw [z, e2] at h; cases h), updM_ne (fun z => by rw [z, e1] at h; cases h)]
    exact h
theorem Ms.fresh (s : Ms M0 M tu p1 p2 p3 l ps) (h : M p4 = none) : M0 p4 = none ∧ p4 ∉ ps := by
  refine ⟨?_, fun z => ?_⟩
  · cases e : M0 p4 with
    | none => rfl
    | some c => rw [s.old _ _ e] at h; cases h
  · obtain ⟨i, hi⟩ := List.getElem?_of_mem z
    obtain ⟨_, u, _, h2, _⟩ := s.rows i _ hi
    rw [h] at h2
    cases h2
theorem Ms.put4 (s : Ms M0 M tu p1 p2 p3 l ps) (h0 : M0 p4 = none) (h4 : M p4 = none ∨ ∃ d, M p4 = some (.dic d)) (hp : p4 ∉ ps) (c : Cell) : Ms M0 (updM M p4 c) tu p1 p2 p3 l ps := by
  refine ⟨?_, ?_, ?_, s.n1, s.n2, s.n3, s.n13, fun a c' h => ?_, fun i q h => ?_⟩
  · rw [updM_ne (fun z => by rw [← z, s.c1] at h4; rcases h4 with h4 | ⟨d, h4⟩ <;> cases h4)]; exact s.c1
  · rw [updM_ne (fun z => by rw [← z, s.c2] at h4; rcases h4 with h4 | ⟨d, h4⟩ <;> cases h4)]; exact s.c2
  · rw [updM_ne (fun z => by rw [← z, s.c3] at h4; rcases h4 with h4 | ⟨d, h4⟩ <;> cases h4)]; exact s.c3
  · rw [updM_ne (fun z => by rw [z, h0] at h; cases h)]; exact s.old a c' h
  · obtain ⟨a, u, b, d, e⟩ := s.rows i q h
    exact ⟨a, u, b, by rw [updM_ne (fun z => hp (by rw [← z]; exact List.mem_of_getElem? h))]; exact d, e⟩
theorem Ms.add (s : Ms M0 M tu p1 p2 p3 l ps) : Ms M0 (updM (updM M p2 (.dit (plF 0 (l ++ [g])))) p1 (.lst (l.map tP ++ [tP g]))) tu p1 p2 p3 (l ++ [g]) ps := by
  have n12 : p2 ≠ p1 := fun z => by have := s.c2; rw [z, s.c1] at this; cases this
  have n32 : p3 ≠ p2 := fun z => by have := s.c2; rw [← z, s.c3] at this; cases this
  refine ⟨?_, ?_, ?_, s.n1, s.n2, s.n3, s.n13, fun a c' h => ?_, fun i q h => ?_⟩
  · rw [updM_same, List.map_append]; rfl
  · rw [updM_ne n12, updM_same]
  · rw [updM_ne (Ne.symm s.n13), updM_ne n32]; exact s.c3
  · rw [updM_ne (fun z => by rw [z, s.n1] at h; cases h), updM_ne (fun z => by rw [z, s.n2] at h; cases h)]; exact s.old a c' h
  · obtain ⟨a, u, b, d, e1, e2⟩ := s.rows i q h
    refine ⟨a, u, ?_, ?_, List.mem_append_left _ e1, List.mem_append_left _ e2⟩
    · have hi : i < l.length := by
        obtain ⟨z, _⟩ := List.getElem?_eq_some_iff.mp b
        exact z
      rw [List.getElem?_append_left hi]; exact b
    · rw [updM_ne (fun z => by rw [z, s.c1] at d; cases d), updM_ne (fun z => by rw [z, s.c2] at d; cases d), rwL_app _ e1 e2]
      exact d
theorem Ms.row (s : Ms M0 M tu p1 p2 p3 l ps) (h0 : M0 p4 = none) (h4 : M p4 = some (.dic (rwL tu l u))) (hu : l[ps.length]? = some u) (e1 : gol tu u 76 ∈ l) (e2 : gol tu u 82 ∈ l) :
    Ms M0 (updM M p3 (.lst (ps.map .ref ++ [.ref p4]))) tu p1 p2 p3 l (ps ++ [p4]) := by
  have n23 : p2 ≠ p3 := fun z => by have := s.c2; rw [z, s.c3] at this; cases this
  refine ⟨?_, ?_, ?_, s.n1, s.n2, s.n3, s.n13, fun a c' h => ?_, fun i q h => ?_⟩
  · rw [updM_ne s.n13]; exact s.c1
  · rw [updM_ne n23]; exact s.c2
  · rw [updM_same, List.map_append]; rfl
  · rw [updM_ne (fun z => by rw [z, s.n3] at h; cases h)]; exact s.old a c' h
  · rcases Nat.lt_or_ge i ps.length with hi | hi
    · rw [List.getElem?_append_left hi] at h
      obtain ⟨a, u', b, d, e⟩ := s.rows i q h
      exact ⟨a, u', b, by rw [updM_ne (fun z => by rw [z, s.c3] at d; cases d)]; exact d, e⟩
    · rw [List.getElem?_append_right hi] at h
      obtain ⟨z, e⟩ := List.getElem?_eq_some_iff.mp h
      have hi2 : i = ps.length := by simp at z; omega
      subst hi2
      simp at e
      subst e
      exact ⟨h0, u, hu, by rw [updM_ne (fun z => by rw [z, s.c3] at h4; cases h4)]; exact h4, e1, e2⟩
theorem Ms.rs (s : Ms M0 M tu p1 p2 p3 l ps) : rs M0 M = M0 := by
  funext a
  unfold Z.rs
  cases e : M0 a with
  | none => rfl
  | some c => exact s.old a c e
theorem sb_tP (f : Addr → D) : ∀ l : List T4, sbL f (l.map tP) = l.map tP
  | [] => rfl
  | t :: l => by
    show sb f (tP t) :: sbL f (l.map tP) = _
    rw [sb_tP f l]
    rfl
theorem sb_refs (f : Addr → D) : ∀ l : List Addr, sbL f (l.map .ref) = l.map f
  | [] => rfl
  | t :: l => by
    show sb f (.ref t) :: sbL f (l.map .ref) = _
    rw [sb_refs f l]
    rfl
theorem Ms.fin (s : Ms M0 M tu p1 p2 p3 l ps) (hl : ps.length = l.length) (w : List Nat) (a b : D) : fz M0 M 2 (.tup [.bl tu, .str ⟨w.toArray⟩, .ref p1, .ref p3]) = mcD tu w l := by
  have k1 : fzA M0 M 2 p1 = .lst (l.map tP) := by
    unfold fzA
    rw [s.n1, s.c1]
    show D.lst (sbL _ _) = _
    rw [sb_tP]
  have k2 : fzA M0 M 2 p3 = .lst (l.map (rwD tu l)) := by
    unfold fzA
    rw [s.n3, s.c3]
    show D.lst (sbL _ _) = _
    rw [sb_refs]
    congr 1
    refine List.ext_getElem? fun i => ?_
    rw [List.getElem?_map, List.getElem?_map]
    cases e : ps[i]? with
    | none =>
      have : ps.length ≤ i := List.getElem?_eq_none_iff.mp e
      rw [List.getElem?_eq_none_iff.mpr (show l.length ≤ i by omega)]
      rfl
    | some q =>
      obtain ⟨h0, u, hu, hq, _⟩ := s.rows i q e
      rw [hu]
      show some (fzA M0 M 1 q) = some (rwD tu l u)
      unfold fzA
      rw [h0, hq]
      rfl
  show D.tup [_, _, fzA M0 M 2 p1, fzA M0 M 2 p3] = _
  rw [k1, k2]
  rfl
def cI (i : Nat) : Nat := if i = 0 then 76 else 82
noncomputable def lI (tu : Bool) (l : List T4) (v : T4) : Nat → List T4
  | 0 => l
  | i + 1 => insR (lI tu l v i) (gol tu v (cI i))
noncomputable def rI (tu : Bool) (l : List T4) (v : T4) : Nat → List (D × D)
  | 0 => []
  | i + 1 => dput (rI tu l v i) (.str ⟨#[cI i]⟩) (stD tu v (lI tu l v (i + 1)) (cI i))
theorem lI_ok {n : Int} {v : T4} (h0 : 0 < n) (hv : Rm n v) (hn : l.Nodup) (h : ∀ t ∈ l, Rm n t) : ∀ i, (lI tu l v i).Nodup ∧ (∀ t ∈ lI tu l v i, Rm n t) ∧ ∃ m, lI tu l v i = l ++ m
  | 0 => ⟨hn, h, [], (List.append_nil _).symm⟩
  | i + 1 => by
    obtain ⟨a, b, m, e⟩ := lI_ok h0 hv hn h i
    obtain ⟨m2, e2⟩ := insR_pre (lI tu l v i) (gol tu v (cI i))
    exact ⟨insR_nodup a, insR_all b (hv.gol h0 tu _).2, m ++ m2, by show insR _ _ = _; rw [e2, e, List.append_assoc]⟩
theorem dput_nil (c d : D) : dput [] c d = [(c, d)] := by
  unfold dput
  rw [dlook_nil, if_neg (by simp)]
  rfl
theorem dput_two {a b c d : D} (h : ¬ a = c) : dput [(a, b)] c d = [(a, b), (c, d)] := by
  unfold dput
  rw [dlook_neg h, dlook_nil, if_neg (by simp)]
  rfl
theorem rI_two (tu : Bool) (l : List T4) (v : T4) : rI tu l v 2 = rwL tu (lI tu l v 2) v := by
  have e1 : rI tu l v 1 = [(.str ⟨#[76]⟩, stD tu v (lI tu l v 1) 76)] := by
    show dput [] _ _ = _
    rw [dput_nil]
    rfl
  show dput (rI tu l v 1) (.str ⟨#[82]⟩) (stD tu v (lI tu l v 2) 82) = _
  rw [e1, dput_two (by intro h; injection h with h; injection h with h; revert h; decide)]
  unfold rwL
  obtain ⟨m, em⟩ := insR_pre (lI tu l v 1) (gol tu v 82)
  rw [show lI tu l v 2 = lI tu l v 1 ++ m from em, stD_app m (show gol tu v 76 ∈ lI tu l v 1 from mem_insR _ _)]
theorem lI_mem (tu : Bool) (l : List T4) (v : T4) : gol tu v 76 ∈ lI tu l v 2 ∧ gol tu v 82 ∈ lI tu l v 2 := by
  refine ⟨?_, mem_insR _ _⟩
  obtain ⟨m, em⟩ := insR_pre (lI tu l v 1) (gol tu v 82)
  rw [show lI tu l v 2 = lI tu l v 1 ++ m from em]
  exact List.mem_append_left _ (mem_insR _ _)
end Z
namespace Z
open PySem PySem.Spec PyProof.Rows L2

theorem gN_sw (t : T4) : gN (iL (sw4' t)) = gN (iL t) := by
  obtain ⟨a, b, c, d⟩ := t
  show Nat.gcd (Nat.gcd (Nat.gcd (Nat.gcd 0 b.natAbs) a.natAbs) d.natAbs) c.natAbs = Nat.gcd (Nat.gcd (Nat.gcd (Nat.gcd 0 a.natAbs) b.natAbs) c.natAbs) d.natAbs
  rw [Nat.gcd_zero_left, Nat.gcd_zero_left, Nat.gcd_comm b.natAbs, Nat.gcd_assoc _ d.natAbs, Nat.gcd_comm d.natAbs, ← Nat.gcd_assoc]
theorem pr4_sw (t : T4) : pr4 (sw4' t) = sw4' (pr4 t) := by
  unfold pr4
  rw [gN_sw]
  rfl
theorem sw_swC (t : T4) : swC (sw4' t) = t := rfl
theorem Tk.sc {t u : T4} {w : List Nat} {m : Int} (hm : 0 < m) (h : Tk t w u) : Tk (Z.sc m t) w (Z.sc m u) := by
  refine ⟨h.lr, by rw [mul_sc4, h.eq], nn_sc' (by omega) h.nn, ?_⟩
  obtain ⟨a, b, c, d⟩ := u
  have e : ∀ x y : Int, (decide (m * x ≤ m * y)) = decide (x ≤ y) := fun x y => by
    by_cases z : x ≤ y
    · rw [decide_eq_true z, decide_eq_true (Int.mul_le_mul_of_nonneg_left z (by omega))]
    · rw [decide_eq_false z, decide_eq_false fun q => z (Int.le_of_mul_le_mul_left q hm)]
  obtain ⟨r, l⟩ := h.bal
  refine ⟨?_, ?_⟩
  · unfold bR Z.sc at *
    dsimp only at *
    rw [e, e]; exact r
  · unfold bL Z.sc at *
    dsimp only at *
    rw [e, e]; exact l
theorem pr4_size {t : T4} (hd : det4 t ≠ 0) : (det4 (pr4 t)).natAbs ≤ (det4 t).natAbs := by
  have e : det4 t = (gN (iL t) : Int) * gN (iL t) * det4 (pr4 t) := by
    conv => lhs; rw [← pr4_sc hd]
    exact Z.det_sc _ _
  have hg := gN_pos hd
  rw [e, Int.natAbs_mul]
  refine Nat.le_mul_of_pos_left _ ?_
  rw [Int.natAbs_mul, Int.natAbs_natCast]
  exact Nat.mul_pos hg hg
structure Mil1 (cap : Nat) (t : T4) : Prop where
  nn : Nn t
  det : det4 t ≠ 0
  sm : Sm 20 t
  size : (det4 (pr4 t)).natAbs ≤ cap
  sum : sum4 (pr4 t) ≤ 144 * cap
  lead : ∀ w u, Tk (mpl t) w u → w.length ≤ 3 + 24 * cap
theorem Mil1.ex {cap : Nat} {t : T4} (h : Mil1 cap t) : Tk (mpl t) (wd (mpl t)) (lf (mpl t)) := by
  obtain ⟨a, b, c, d⟩ := mpl_ok h.nn h.det
  exact tk_lf a c
theorem mil1_mk {cap : Nat} {w1 : List Nat} {c : T4} {m : Int} {t : T4} (hw : LR w1) (hl : w1.length ≤ 3) (hn : Nn c) (hd : 0 < det4 c) (hdc : det4 c ≤ cap) (hs : sum4 c ≤ 24 * cap) (le : Le4 (36 * cap) (mul4 (wL w1) c)) (hc : cap ≤ 60) (m1 : 1 ≤ m) (m3 : m ≤ 3)
    (ht : t = sc m (mul4 (wL w1) c) ∨ t = sw4' (sc m (mul4 (wL w1) c))) : Mil1 cap t := by
  have nn0 : Nn (mul4 (wL w1) c) := (nn_wL w1).mul hn
  have d0 : det4 (mul4 (wL w1) c) = det4 c := by rw [det_mul, det_wL, Int.one_mul]
  have tk0 : ∀ w u, Tk (pr4 (mul4 (wL w1) c)) w u → w.length ≤ 3 + 24 * cap := fun w u h => by
    have hne : det4 (mul4 (wL w1) c) ≠ 0 := by omega
    have hg := gN_pos hne
    have h1 := h.sc (m := (gN (iL (mul4 (wL w1) c)) : Int)) (by omega)
    rw [pr4_sc hne] at h1
    obtain ⟨w', u', h2⟩ := tk_ex _ (Nat.le_refl _) hn hd
    have h3 := h2.app hw
    obtain ⟨e, _⟩ := Tk.uniq (by omega) h1 h3
    have := len_sum h2.lr h2.nn hd h2.eq
    rw [e, List.length_append]
    omega
  have s0 := le.sum (n := 36 * cap) nn0
  generalize mul4 (wL w1) c = t0 at *
  have hne : det4 t0 ≠ 0 := by omega
  obtain ⟨k, rfl⟩ : ∃ k : Nat, m = (k : Int) := ⟨m.toNat, by omega⟩
  have ep : pr4 (sc k t0) = pr4 t0 := pr4_scale k (by omega) hne
  have nns : Nn (sc k t0) := nn_sc' (by omega) nn0
  have dts : det4 (sc k t0) ≠ 0 := by have := det_sc_pos m1 (show 0 < det4 t0 by omega); omega
  have hsum : sum4 (pr4 t0) ≤ 144 * cap := by have := pr4_sum hne; omega
  have hsize : (det4 (pr4 t0)).natAbs ≤ cap := by have := pr4_size hne; omega
  have hp : 0 < det4 (pr4 t0) := (pr4_det hne).2.mpr (by omega)
  have hsm : Sm 20 (sc k t0) := by
    refine sm_of_sum ?_
    rw [sum_sc, Int.natAbs_natCast]
    have : k * sum4 t0 ≤ 3 * (4 * (36 * cap)) := Nat.mul_le_mul (by omega) s0
    show _ < 1048576
    omega
  rcases ht with rfl | rfl
  · refine ⟨nns, dts, hsm, by rw [ep]; exact hsize, by rw [ep]; exact hsum, ?_⟩
    have : mtu (sc k t0) = false := decide_eq_false (by rw [ep]; omega)
    unfold mpl
    rw [this, if_neg (by simp), ep]
    exact tk0
  · have eq : pr4 (sw4' (sc k t0)) = sw4' (pr4 t0) := by rw [pr4_sw, ep]
    refine ⟨⟨nns.2.1, nns.1, nns.2.2.2, nns.2.2.1⟩, by rw [det_sw']; omega, ⟨hsm.2.1, hsm.1, hsm.2.2.2, hsm.2.2.1⟩, ?_, ?_, ?_⟩
    · rw [eq, det_sw', Int.natAbs_neg]; exact hsize
    · rw [eq, sum_sw]; exact hsum
    have : mtu (sw4' (sc k t0)) = true := decide_eq_true (by rw [eq, det_sw']; omega)
    unfold mpl
    rw [this, if_pos rfl, eq, sw_swC]
    exact tk0
theorem bf_ok {t u : T4} {w : List Nat} {l : List T4} (hn : Nn t) (hd : det4 t ≠ 0) (h60 : (det4 (pr4 t)).natAbs ≤ 60) (tk : Tk (mpl t) w u) (b : Bf (mtu t) [u] 0 l) :
    l.Nodup ∧ (∀ v ∈ l, Rm ((det4 (pr4 t)).natAbs : Nat) v) ∧ (∀ v ∈ l, gol (mtu t) v 76 ∈ l ∧ gol (mtu t) v 82 ∈ l) ∧ 0 < l.length ∧ l.length ≤ 230000 ∧ l[0]? = some u := by
  obtain ⟨a, e, p, s⟩ := mpl_ok hn hd
  have hu : Rm ((det4 (pr4 t)).natAbs : Nat) u := ⟨tk.nn, tk.bal, by rw [det_w tk.eq, e]⟩
  obtain ⟨h1, h2, h3⟩ := Bf.rooms (n := ((det4 (pr4 t)).natAbs : Nat)) (by omega) b (by simp) (fun v hv => by rw [List.mem_singleton.mp hv]; exact hu) (fun i hi => absurd hi (Nat.not_lt_zero _))
  obtain ⟨m, em⟩ := b.pre
  refine ⟨h1, h2, h3, by rw [em]; simp, rooms_le (n := ((det4 (pr4 t)).natAbs : Nat)) (by omega) (by omega) h1 h2, by rw [em]; rfl⟩
end Z
namespace Z
open PySem PySem.Spec PyProof.Rows L2

theorem nodup_sum {α : Type} [DecidableEq α] (f : α → Nat) : ∀ {l L : List α}, l.Nodup → (∀ x ∈ l, x ∈ L) → (l.map f).sum ≤ (L.map f).sum
  | [], _, _, _ => Nat.zero_le _
  | x :: l, L, hn, h => by
    obtain ⟨a, b⟩ := List.nodup_cons.mp hn
    have hx := h x (List.mem_cons_self ..)
    have h1 := nodup_sum f (l := l) (L := L.erase x) b fun y hy => (List.mem_erase_of_ne (fun e => a (by rw [← e]; exact hy))).mpr (h y (List.mem_cons_of_mem _ hy))
    have h2 : f x + ((L.erase x).map f).sum = (L.map f).sum := by
      have := (List.perm_cons_erase hx).map f
      have := this.sum_nat
      rw [List.map_cons, List.sum_cons] at this
      exact this.symm
    rw [List.map_cons, List.sum_cons]
    omega
theorem nodup_len {α : Type} [DecidableEq α] {l L : List α} (hn : l.Nodup) (h : ∀ x ∈ l, x ∈ L) : l.length ≤ L.length := by
  have := nodup_sum (fun _ => 1) hn h
  have e : ∀ m : List α, (m.map fun _ => 1).sum = m.length := fun m => by
    induction m with
    | nil => rfl
    | cons x m ih => rw [List.map_cons, List.sum_cons, ih, List.length_cons, Nat.add_comm]
  rwa [e, e] at this
def candA (n a x : Nat) : List (Nat × Nat × Nat × Nat) :=
  if n - a * x = 0 then (List.range a).map fun c => (a, 0, c, x) else
    ((List.range (n - a * x + 1)).filter fun b => b != 0 && (n - a * x) % b == 0 && decide ((n - a * x) / b ≤ a)).map fun b => (a, b, a - (n - a * x) / b, b + x)
def cand (n : Nat) : List (Nat × Nat × Nat × Nat) := (List.range n).flatMap fun a => (List.range (n / (a + 1))).flatMap fun x => candA n (a + 1) (x + 1)
def dvT : Nat := 37485562550860801354687163075825346001665536278441408020185359110537005694952035139974393805141521898897840357502821027836518371041816271764193536
def dv (m : Nat) : Nat := (dvT >>> (8 * m)) % 256
def dvC (m : Nat) : Nat := ((List.range (m + 1)).filter fun b => !(Nat.beq b 0) && Nat.beq (m % b) 0).length
theorem dv_all : (List.range 61).all (fun m => Nat.ble (dvC m) (dv m)) = true := by decide +kernel
def cntA (n a x : Nat) : Nat := bif Nat.beq (n - a * x) 0 then a else dv (n - a * x)
def cnt (n : Nat) : Nat := ((List.range n).map fun a => ((List.range (n / (a + 1))).map fun x => cntA n (a + 1) (x + 1)).sum).sum
theorem cnt_all : (List.range 61).all (fun n => Nat.ble (cnt n) 2000) = true := by decide +kernel
theorem sum_le_sum {α : Type} {f g : α → Nat} : ∀ {l : List α}, (∀ x ∈ l, f x ≤ g x) → (l.map f).sum ≤ (l.map g).sum
  | [], _ => Nat.le_refl _
  | x :: l, h => by
    have h1 := sum_le_sum (l := l) fun y hy => h y (List.mem_cons_of_mem _ hy)
    have h2 := h x (List.mem_cons_self ..)
    rw [List.map_cons, List.sum_cons, List.map_cons, List.sum_cons]
    omega
theorem filter_le {α : Type} {p q : α → Bool} : ∀ {l : List α}, (∀ x ∈ l, p x = true → q x = true) → (l.filter p).length ≤ (l.filter q).length
  | [], _ => Nat.le_refl _
  | x :: l, h => by
    have h1 := filter_le (l := l) fun y hy => h y (List.mem_cons_of_mem _ hy)
    have h2 := h x (List.mem_cons_self ..)
    cases e : p x with
    | true =>
      rw [List.filter_cons_of_pos e, List.filter_cons_of_pos (h2 e)]
      simp only [List.length_cons]; omega
    | false =>
      rw [List.filter_cons_of_neg (by rw [e]; simp)]
      cases e2 : q x with
      | true => rw [List.filter_cons_of_pos e2]; simp only [List.length_cons]; omega
      | false => rw [List.filter_cons_of_neg (by rw [e2]; simp)]; exact h1
theorem cand_len (n : Nat) (h : n < 61) : (cand n).length ≤ 2000 := by
  have h1 : (cand n).length ≤ cnt n := by
    unfold cand cnt
    rw [List.length_flatMap]
    refine sum_le_sum fun a _ => ?_
    rw [List.length_flatMap]
    refine sum_le_sum fun x _ => ?_
    unfold candA cntA
    by_cases e : n - (a + 1) * (x + 1) = 0
    · rw [if_pos e, e]
      simp
    · rw [if_neg e, List.length_map, show Nat.beq (n - (a + 1) * (x + 1)) 0 = false from by rw [← Bool.not_eq_true, Nat.beq_eq]; exact e]
      have h2 := List.all_eq_true.mp dv_all (n - (a + 1) * (x + 1)) (List.mem_range.mpr (by omega))
      refine Nat.le_trans (filter_le fun b _ hb => ?_) (Nat.le_of_ble_eq_true h2)
      simp only [bne_iff_ne, ne_eq, Bool.and_eq_true, beq_iff_eq, decide_eq_true_eq, Bool.not_eq_true', Nat.beq_eq] at hb ⊢
      obtain ⟨⟨b1, b2⟩, _⟩ := hb
      exact ⟨by rw [← Bool.not_eq_true, Nat.beq_eq]; exact b1, b2⟩
  exact Nat.le_trans h1 (Nat.le_of_ble_eq_true (List.all_eq_true.mp cnt_all n (List.mem_range.mpr h)))
def u4 (t : T4) : Nat × Nat × Nat × Nat := (t.1.toNat, t.2.1.toNat, t.2.2.1.toNat, t.2.2.2.toNat)
def of4 (u : Nat × Nat × Nat × Nat) : T4 := (u.1, u.2.1, u.2.2.1, u.2.2.2)
theorem of_u4 {t : T4} (h : Nn t) : of4 (u4 t) = t := by
  obtain ⟨a, b, c, d⟩ := t
  obtain ⟨h1, h2, h3, h4⟩ := h
  dsimp only at h1 h2 h3 h4
  show ((a.toNat : Int), (b.toNat : Int), (c.toNat : Int), (d.toNat : Int)) = (a, b, c, d)
  rw [Int.toNat_of_nonneg h1, Int.toNat_of_nonneg h2, Int.toNat_of_nonneg h3, Int.toNat_of_nonneg h4]
theorem cand_mem {n : Nat} {t : T4} (h0 : 0 < n) (h : Rm n t) : u4 t ∈ cand n := by
  obtain ⟨k1, k2, k3, k4⟩ := bal_small h.nn h.bal (by rw [h.det]; omega)
  obtain ⟨n1, n2, n3, n4⟩ := h.nn
  have hd := h.det
  obtain ⟨a, b, c, d⟩ := t
  unfold det4 at hd
  dsimp only at *
  obtain ⟨a, rfl⟩ := Int.eq_ofNat_of_zero_le n1
  obtain ⟨b, rfl⟩ := Int.eq_ofNat_of_zero_le n2
  obtain ⟨c, rfl⟩ := Int.eq_ofNat_of_zero_le n3
  obtain ⟨d, rfl⟩ := Int.eq_ofNat_of_zero_le n4
  show (a, b, c, d) ∈ _
  obtain ⟨a', rfl⟩ : ∃ a', a = a' + 1 := ⟨a - 1, by omega⟩
  obtain ⟨x, rfl⟩ : ∃ x, d = b + (x + 1) := ⟨d - b - 1, by omega⟩
  obtain ⟨y, hy⟩ : ∃ y, a' + 1 = c + (y + 1) := ⟨a' - c, by omega⟩
  have e : n = (a' + 1) * (x + 1) + b * (y + 1) := by
    have e1 : ((a' + 1 : Nat) : Int) * ((b + (x + 1) : Nat) : Int) = (((a' + 1) * (b + (x + 1)) : Nat) : Int) := by omega
    have e2 : (b : Int) * (c : Int) = ((b * c : Nat) : Int) := by omega
    rw [e1, e2] at hd
    have e3 : (a' + 1) * (b + (x + 1)) = b * (c + (y + 1)) + (a' + 1) * (x + 1) := by rw [Nat.mul_add, Nat.mul_comm _ b, hy]
    rw [Nat.mul_add b c] at e3
    omega
  have hm : n - (a' + 1) * (x + 1) = b * (y + 1) := by omega
  have h1 : (a' + 1) * (x + 1) ≤ n := by omega
  refine List.mem_flatMap.mpr ⟨a', List.mem_range.mpr ?_, List.mem_flatMap.mpr ⟨x, List.mem_range.mpr ?_, ?_⟩⟩
  · have : (a' + 1) * 1 ≤ (a' + 1) * (x + 1) := Nat.mul_le_mul_left _ (by omega)
    omega
  · have : x + 1 ≤ n / (a' + 1) := (Nat.le_div_iff_mul_le (by omega)).mpr (by rw [Nat.mul_comm]; exact h1)
    omega
  unfold candA
  rw [hm]
  by_cases hb : b = 0
  · subst hb
    rw [if_pos (Nat.zero_mul _)]
    exact List.mem_map.mpr ⟨c, List.mem_range.mpr (by omega), by rw [Nat.zero_add]⟩
  · have hp : 0 < b * (y + 1) := Nat.mul_pos (by omega) (by omega)
    rw [if_neg (by omega)]
    have ed : b * (y + 1) / b = y + 1 := Nat.mul_div_cancel_left _ (by omega)
    refine List.mem_map.mpr ⟨b, List.mem_filter.mpr ⟨List.mem_range.mpr ?_, ?_⟩, ?_⟩
    · have : b * 1 ≤ b * (y + 1) := Nat.mul_le_mul_left _ (by omega)
      omega
    · rw [Nat.mul_mod_right, ed]
      simp only [bne_iff_ne, ne_eq, Bool.and_eq_true, beq_self_eq_true, and_true, decide_eq_true_eq]
      exact ⟨hb, by omega⟩
    · rw [ed]
      have : a' + 1 - (y + 1) = c := by omega
      rw [this]
theorem rooms_2000 {n : Nat} {l : List T4} (h0 : 0 < n) (h1 : n ≤ 60) (hn : l.Nodup) (h : ∀ t ∈ l, Rm n t) : l.length ≤ 2000 := by
  have h2 := nodup_len (l := l.map u4) (L := cand n) (nodup_map (fun x hx y hy e => by rw [← of_u4 (h x hx).nn, ← of_u4 (h y hy).nn, e]) hn) fun x hx => by
    obtain ⟨t, ht, rfl⟩ := List.mem_map.mp hx
    exact cand_mem h0 (h t ht)
  rw [List.length_map] at h2
  exact Nat.le_trans h2 (cand_len n (by omega))
end Z
namespace Z
open PySem PySem.Spec PyProof.Rows L2

mutual
def nb : D → D
  | .bl b => .int (if b = true then 1 else 0)
  | .tup l => .tup (nbL l)
  | .tpl l => .tup (nbL l)
  | .lst l => .lst (nbL l)
  | d => d
def nbL : List D → List D
  | [] => []
  | d :: r => nb d :: nbL r
end
mutual
inductive Pb : Nat → D → Prop
  | non {n : Nat} : Pb n .non
  | bl {n : Nat} (b : Bool) : Pb n (.bl b)
  | int {n : Nat} (i : Int) : Pb n (.int i)
  | str {n : Nat} {x : Str} (h : PyData.strOk x = true) : Pb n (.str x)
  | tup {n : Nat} {l : List D} (h : PbL n l) : Pb (n + 1) (.tup l)
  | tpl {n : Nat} {l : List D} (h : PbL n l) : Pb (n + 1) (.tpl l)
  | lst {n : Nat} {l : List D} (h : PbL n l) : Pb (n + 1) (.lst l)
inductive PbL : Nat → List D → Prop
  | nil {n : Nat} : PbL n []
  | cons {n : Nat} {d : D} {l : List D} (h : Pb n d) (r : PbL n l) : PbL n (d :: l)
end
theorem PbL.of {n : Nat} : ∀ {l : List D}, (∀ d ∈ l, Pb n d) → PbL n l
  | [], _ => .nil
  | d :: l, h => .cons (h d List.mem_cons_self) (PbL.of fun e he => h e (List.mem_cons_of_mem _ he))
mutual
theorem Pb.data : ∀ {n : Nat} {d : D}, Pb n d → ∃ p, pd d = some p ∧ PyData.canLay0 p = true ∧ PyData.depth p ≤ n ∧ ∀ (e : D) (m : Nat) (q : PyData), Pb m e → pd e = some q → (PyData.eqv p q = true ↔ nb d = nb e)
  | _, _, .non => ⟨.none, rfl, rfl, Nat.zero_le _, fun e m q h eq => by
      cases h with
      | non => cases eq; exact ⟨fun _ => rfl, fun _ => rfl⟩
      | bl => cases eq; exact ⟨(fun h => by cases h), (fun h => by cases h)⟩
      | int => cases eq; exact ⟨(fun h => by cases h), (fun h => by cases h)⟩
      | str => cases eq; exact ⟨(fun h => by cases h), (fun h => by cases h)⟩
      | tup => obtain ⟨_, _, rfl⟩ := Option.map_eq_some_iff.mp (show (pdL _).map PyData.tuple = some _ from eq); exact ⟨(fun h => by cases h), (fun h => by cases h)⟩
      | tpl => obtain ⟨_, _, rfl⟩ := Option.map_eq_some_iff.mp (show (pdL _).map PyData.tuple = some _ from eq); exact ⟨(fun h => by cases h), (fun h => by cases h)⟩
      | lst => obtain ⟨_, _, rfl⟩ := Option.map_eq_some_iff.mp (show (pdL _).map PyData.list = some _ from eq); exact ⟨(fun h => by cases h), (fun h => by cases h)⟩⟩
  | _, _, .bl b => ⟨.bool b, rfl, rfl, Nat.zero_le _, fun e m q h eq => by
      cases h with
      | non => cases eq; exact ⟨(fun h => by cases h), (fun h => by cases h)⟩
      | bl b' => cases eq; cases b <;> cases b' <;> simp [PyData.eqv, nb]
      | int i => cases eq; cases b <;> simp [PyData.eqv, nb]
      | str => cases eq; exact ⟨(fun h => by cases h), (fun h => by cases h)⟩
      | tup => obtain ⟨_, _, rfl⟩ := Option.map_eq_some_iff.mp (show (pdL _).map PyData.tuple = some _ from eq); exact ⟨(fun h => by cases h), (fun h => by cases h)⟩
      | tpl => obtain ⟨_, _, rfl⟩ := Option.map_eq_some_iff.mp (show (pdL _).map PyData.tuple = some _ from eq); exact ⟨(fun h => by cases h), (fun h => by cases h)⟩
      | lst => obtain ⟨_, _, rfl⟩ := Option.map_eq_some_iff.mp (show (pdL _).map PyData.list = some _ from eq); exact ⟨(fun h => by cases h), (fun h => by cases h)⟩⟩
  | _, _, .int i => ⟨.int i, rfl, rfl, Nat.zero_le _, fun e m q h eq => by
      cases h with
      | non => cases eq; exact ⟨(fun h => by cases h), (fun h => by cases h)⟩
      | bl b' => cases eq; cases b' <;> simp [PyData.eqv, nb]
      | int j => cases eq; simp [PyData.eqv, nb]
      | str => cases eq; exact ⟨(fun h => by cases h), (fun h => by cases h)⟩
      | tup => obtain ⟨_, _, rfl⟩ := Option.map_eq_some_iff.mp (show (pdL _).map PyData.tuple = some _ from eq); exact ⟨(fun h => by cases h), (fun h => by cases h)⟩
      | tpl => obtain ⟨_, _, rfl⟩ := Option.map_eq_some_iff.mp (show (pdL _).map PyData.tuple = some _ from eq); exact ⟨(fun h => by cases h), (fun h => by cases h)⟩
      | lst => obtain ⟨_, _, rfl⟩ := Option.map_eq_some_iff.mp (show (pdL _).map PyData.list = some _ from eq); exact ⟨(fun h => by cases h), (fun h => by cases h)⟩⟩
  | _, _, .str (x := x) hx => ⟨.str x, rfl, hx, Nat.zero_le _, fun e m q h eq => by
      cases h with
      | non => cases eq; exact ⟨(fun h => by cases h), (fun h => by cases h)⟩
      | bl => cases eq; exact ⟨(fun h => by cases h), (fun h => by cases h)⟩
      | int => cases eq; exact ⟨(fun h => by cases h), (fun h => by cases h)⟩
      | str => cases eq; simp [PyData.eqv, nb]
      | tup => obtain ⟨_, _, rfl⟩ := Option.map_eq_some_iff.mp (show (pdL _).map PyData.tuple = some _ from eq); exact ⟨(fun h => by cases h), (fun h => by cases h)⟩
      | tpl => obtain ⟨_, _, rfl⟩ := Option.map_eq_some_iff.mp (show (pdL _).map PyData.tuple = some _ from eq); exact ⟨(fun h => by cases h), (fun h => by cases h)⟩
      | lst => obtain ⟨_, _, rfl⟩ := Option.map_eq_some_iff.mp (show (pdL _).map PyData.list = some _ from eq); exact ⟨(fun h => by cases h), (fun h => by cases h)⟩⟩
  | _, _, .tup (l := l) hl => by
    obtain ⟨ps, e1, c1, d1, k⟩ := hl.pds
    refine ⟨.tuple ps, by show (pdL l).map PyData.tuple = _; rw [e1]; rfl, c1, Nat.succ_le_succ d1, fun e m q h eq => ?_⟩
    cases h with
    | non => cases eq; exact ⟨(fun h => by cases h), (fun h => by cases h)⟩
    | bl => cases eq; exact ⟨(fun h => by cases h), (fun h => by cases h)⟩
    | int => cases eq; exact ⟨(fun h => by cases h), (fun h => by cases h)⟩
    | str => cases eq; exact ⟨(fun h => by cases h), (fun h => by cases h)⟩
    | tup h' =>
      obtain ⟨qs, e2, rfl⟩ := Option.map_eq_some_iff.mp (show (pdL _).map PyData.tuple = some _ from eq)
      exact (k _ _ _ h' e2).trans ⟨fun h => congrArg D.tup h, fun h => by injection h⟩
    | tpl h' =>
      obtain ⟨qs, e2, rfl⟩ := Option.map_eq_some_iff.mp (show (pdL _).map PyData.tuple = some _ from eq)
      exact (k _ _ _ h' e2).trans ⟨fun h => congrArg D.tup h, fun h => by injection h⟩
    | lst => obtain ⟨_, _, rfl⟩ := Option.map_eq_some_iff.mp (show (pdL _).map PyData.list = some _ from eq); exact ⟨(fun h => by cases h), (fun h => by cases h)⟩
  | _, _, .tpl (l := l) hl => by
    obtain ⟨ps, e1, c1, d1, k⟩ := hl.pds
    refine ⟨.tuple ps, by show (pdL l).map PyData.tuple = _; rw [e1]; rfl, c1, Nat.succ_le_succ d1, fun e m q h eq => ?_⟩
    cases h with
    | non => cases eq; exact ⟨(fun h => by cases h), (fun h => by cases h)⟩
    | bl => cases eq; exact ⟨(fun h => by cases h), (fun h => by cases h)⟩
    | int => cases eq; exact ⟨(fun h => by cases h), (fun h => by cases h)⟩
    | str => cases eq; exact ⟨(fun h => by cases h), (fun h => by cases h)⟩
    | tup h' =>
      obtain ⟨qs, e2, rfl⟩ := Option.map_eq_some_iff.mp (show (pdL _).map PyData.tuple = some _ from eq)
      exact (k _ _ _ h' e2).trans ⟨fun h => congrArg D.tup h, fun h => by injection h⟩
    | tpl h' =>
      obtain ⟨qs, e2, rfl⟩ := Option.map_eq_some_iff.mp (show (pdL _).map PyData.tuple = some _ from eq)
      exact (k _ _ _ h' e2).trans ⟨fun h => congrArg D.tup h, fun h => by injection h⟩
    | lst => obtain ⟨_, _, rfl⟩ := Option.map_eq_some_iff.mp (show (pdL _).map PyData.list = some _ from eq); exact ⟨(fun h => by cases h), (fun h => by cases h)⟩
  | _, _, .lst (l := l) hl => by
    obtain ⟨ps, e1, c1, d1, k⟩ := hl.pds
    refine ⟨.list ps, by show (pdL l).map PyData.list = _; rw [e1]; rfl, c1, Nat.succ_le_succ d1, fun e m q h eq => ?_⟩
    cases h with
    | non => cases eq; exact ⟨(fun h => by cases h), (fun h => by cases h)⟩
    | bl => cases eq; exact ⟨(fun h => by cases h), (fun h => by cases h)⟩
    | int => cases eq; exact ⟨(fun h => by cases h), (fun h => by cases h)⟩
    | str => cases eq; exact ⟨(fun h => by cases h), (fun h => by cases h)⟩
    | tup => obtain ⟨_, _, rfl⟩ := Option.map_eq_some_iff.mp (show (pdL _).map PyData.tuple = some _ from eq); exact ⟨(fun h => by cases h), (fun h => by cases h)⟩
    | tpl => obtain ⟨_, _, rfl⟩ := Option.map_eq_some_iff.mp (show (pdL _).map PyData.tuple = some _ from eq); exact ⟨(fun h => by cases h), (fun h => by cases h)⟩
    | lst h' =>
      obtain ⟨qs, e2, rfl⟩ := Option.map_eq_some_iff.mp (show (pdL _).map PyData.list = some _ from eq)
      exact (k _ _ _ h' e2).trans ⟨fun h => congrArg D.lst h, fun h => by injection h⟩
theorem PbL.pds : ∀ {n : Nat} {l : List D}, PbL n l → ∃ ps, pdL l = some ps ∧ PyData.canLayAll0 ps = true ∧ PyData.depthAll ps ≤ n ∧ ∀ (l' : List D) (m : Nat) (qs : List PyData), PbL m l' → pdL l' = some qs → (PyData.eqvAll ps qs = true ↔ nbL l = nbL l')
  | _, _, .nil => ⟨[], rfl, rfl, Nat.zero_le _, fun l' m qs h eq => by
      cases h with
      | nil => cases eq; exact ⟨fun _ => rfl, fun _ => rfl⟩
      | cons h r =>
        unfold pdL at eq
        split at eq
        · cases eq
          exact ⟨(fun h => by cases h), (fun h => by cases h)⟩
        · cases eq⟩
  | _, _, .cons h r => by
    obtain ⟨p, e1, c1, d1, k1⟩ := h.data
    obtain ⟨ps, e2, c2, d2, k2⟩ := r.pds
    refine ⟨p :: ps, by unfold pdL; rw [e1, e2], by show (_ && _) = true; rw [c1, c2]; rfl, Nat.max_le.mpr ⟨d1, d2⟩, fun l' m qs h' eq => ?_⟩
    cases h' with
    | nil => cases eq; exact ⟨(fun h => by cases h), (fun h => by cases h)⟩
    | cons h' r' =>
      unfold pdL at eq
      split at eq
      case h_2 => cases eq
      rename_i p' ps' e1' e2'
      cases eq
      show (PyData.eqv p p' && PyData.eqvAll ps ps') = true ↔ nb _ :: nbL _ = nb _ :: nbL _
      rw [Bool.and_eq_true, k1 _ _ _ h' e1', k2 _ _ _ r' e2', List.cons.injEq]
end
theorem Pb.shaped {n : Nat} {d : D} {p : PyData} (h : Pb n d) (e : pd d = some p) (hn : n ≤ 64) : SeqAt.shaped p = true := by
  obtain ⟨q, e1, c1, d1, _⟩ := h.data
  rw [e] at e1
  cases e1
  unfold SeqAt.shaped
  rw [c1, decide_eq_true (Nat.le_trans d1 hn)]
  rfl
theorem toPd_pb {M : Sto} {n : Nat} {d : D} (h : Pb n d) : toPd M d = pd d := by
  unfold toPd
  cases h with
  | lst h => rfl
  | _ => rfl
section
variable {X : Cx} {B : Bs} {pos p : Pos} {a b : Expr} {ga : DTA} {C C2 : Addr}
end

section
variable {X : Cx} {B : Bs} {k j n : Nat} {c : Ct} {pos : Pos} {a b : Expr} {fa fb : DTE} {C C2 : Addr} {bs : List (Nat × List Str × (List D → List D → List D))}
end
end Z
namespace Z
open PySem PySem.Spec PyProof.Rows L2

theorem PbL.anys : ∀ {n : Nat} {l : List D}, PbL n l → ∃ ps, pdL l = some ps ∧ PyData.canLayAll0 ps = true ∧ PyData.depthAll ps ≤ n ∧ ps.length = l.length ∧ ∀ (e : D) (m : Nat) (q : PyData), Pb m e → pd e = some q → (∀ (i : Nat) (z : PyData), ps[i]? = some z → ∃ d, l[i]? = some d ∧ (PyData.eqv z q = true ↔ nb d = nb e))
  | _, _, .nil => ⟨[], rfl, rfl, Nat.zero_le _, rfl, fun _ _ _ _ _ i z h => by simp at h⟩
  | _, _, .cons h r => by
    obtain ⟨p, e1, c1, d1, k1⟩ := h.data
    obtain ⟨ps, e2, c2, d2, l2, k2⟩ := r.anys
    refine ⟨p :: ps, by unfold pdL; rw [e1, e2], by show (_ && _) = true; rw [c1, c2]; rfl, Nat.max_le.mpr ⟨d1, d2⟩, by rw [List.length_cons, List.length_cons, l2], fun e m q he eq i z hz => ?_⟩
    match i, hz with
    | 0, hz =>
      cases Option.some.inj hz
      exact ⟨_, rfl, k1 _ _ _ he eq⟩
    | i + 1, hz => exact k2 _ _ _ he eq i z hz
theorem shaped_l {n : Nat} {ps : List PyData} (c : PyData.canLayAll0 ps = true) (d : PyData.depthAll ps ≤ n) (hn : n ≤ 63) : SeqAt.shaped (.list ps) = true := by
  unfold SeqAt.shaped
  show (PyData.canLayAll0 ps && decide (_ ≤ 64)) = true
  rw [c, decide_eq_true (show PyData.depth (.list ps) ≤ 64 from Nat.le_trans (Nat.succ_le_succ d) (Nat.succ_le_succ hn))]
  rfl
theorem inPb {M : Sto} {n m : Nat} {x y : D} {l : List D} {φ : Bool → Prop} (hl : lstOf M y = some l) (hx : Pb m x) (h : PbL n l) (q : ∀ b : Bool, (b = true ↔ nb x ∈ l.map nb) → φ b) (hn : n ≤ 63 := by decide) (hm : m ≤ 64 := by decide) : inQ M x y φ := by
  obtain ⟨ps, e1, c1, d1, len, k⟩ := h.anys
  obtain ⟨p, e2, _⟩ := hx.data
  have gen : ∃ l p ps, lstOf M y = some l ∧ toPd M x = some p ∧ pdL l = some ps ∧ SeqAt.shaped p = true ∧ SeqAt.shaped (.list ps) = true ∧ φ (ps.any fun z => PyData.eqv z p) := by
    refine ⟨l, p, ps, hl, (toPd_pb hx).trans e2, e1, hx.shaped e2 hm, shaped_l c1 d1 hn, q _ ?_⟩
    have k := k x m p hx e2
    rw [List.any_eq_true]
    refine ⟨fun ⟨z, hz, ez⟩ => ?_, fun hmem => ?_⟩
    · obtain ⟨i, hi⟩ := List.getElem?_of_mem hz
      obtain ⟨d, hd, e⟩ := k i z hi
      exact List.mem_map.mpr ⟨d, List.mem_of_getElem? hd, e.mp ez⟩
    · obtain ⟨d, hd, e⟩ := List.mem_map.mp hmem
      obtain ⟨i, hi⟩ := List.getElem?_of_mem hd
      obtain ⟨hi2, _⟩ := List.getElem?_eq_some_iff.mp hi
      have hz : ps[i]? = some (ps[i]'(by omega)) := List.getElem?_eq_getElem (by omega)
      obtain ⟨d', hd', e'⟩ := k i _ hz
      rw [hi] at hd'
      cases hd'
      exact ⟨_, List.mem_of_getElem? hz, e'.mpr e⟩
  unfold inQ
  split
  · cases hl
  · cases hl
  · exact gen
section
variable {X : Cx} {B : Bs} {k : Nat} {o e : Expr} {es : List Expr} {fo : DTE} {ga : DTA} {apos pos p : Pos}
end
theorem idx_at : ∀ {l : List T4} {g : T4}, g ∈ l → l[l.idxOf g]? = some g ∧ ∀ i, i < l.idxOf g → l[i]? ≠ some g
  | u :: l, g, h => by
    by_cases z : u = g
    · subst z
      rw [List.idxOf_cons_self]
      exact ⟨rfl, fun i hi => absurd hi (Nat.not_lt_zero _)⟩
    · have hg : g ∈ l := (List.mem_cons.mp h).resolve_left (fun e => z e.symm)
      obtain ⟨a, b⟩ := idx_at hg
      have e : (u :: l).idxOf g = l.idxOf g + 1 := by
        rw [List.idxOf_cons]
        have : (u == g) = false := by simpa using z
        rw [this]
        rfl
      rw [e]
      refine ⟨a, fun i hi => ?_⟩
      match i, hi with
      | 0, _ => exact fun q => z (Option.some.inj q)
      | i + 1, hi => exact b i (by omega)
end Z
namespace Z
open PySem PySem.Spec PyProof.Rows L2

variable {M0 M : Sto} {tu : Bool} {p1 p3 p4 : Addr} {l : List T4} {ps : List Addr} {u g : T4}
end Z
namespace Z
open PySem PySem.Spec PyProof.Rows L2

def tab (C : Addr) (t : T4) : D := .obj C [("whole", tD t)]
theorem sm_bits {t : T4} {n : Nat} (h : sum4 t < 2 ^ n) : Sm n t := by
  obtain ⟨h1, h2, h3, h4⟩ := abs_sum (t := t)
  exact ⟨by omega, by omega, by omega, by omega⟩
theorem dok_gm {t : T4} {n : Nat} (hs : Sm n t) (hd : det4 t ≠ 0) (hn : n ≤ 8000) : Dok (gN (iL t)) := by
  obtain ⟨h1, h2⟩ := gN_sm hs hd
  exact dok_of (n := n) (by omega) (by rw [Int.natAbs_natCast]; exact h2) (by omega)
theorem sum_sm {t : T4} {n : Nat} (hs : Sm n t) : sum4 t < 2 ^ (n + 2) := by
  obtain ⟨a, b, c, d⟩ := hs
  unfold sum4
  rw [Nat.pow_add]
  omega
theorem ix_at {M : Sto} {p : Addr} {l : List D} {k : Nat} {x : D} {φ : D → Prop} (h : M p = some (.lst l)) (e : l[k]? = some x) (q : φ x) : ixD M (.ref p) (.int (k : Int)) φ := by
  show optK (lstOf M (.ref p)) fun l => optK (L2.atI l (k : Int)) φ
  refine optK_of (lstOf_at h) (optK_of ?_ q)
  have hk : k < l.length := by
    obtain ⟨z, _⟩ := List.getElem?_eq_some_iff.mp e
    exact z
  unfold L2.atI L2.ixN
  rw [if_pos (by omega), if_pos (by omega)]
  exact e
theorem sm_sumT {v : T4} (h : Sm 6 v) (c : Nat) : sum4 (mul4 v (turnT c)) < 1000 := by
  obtain ⟨a, b, e, d⟩ := v
  obtain ⟨h1, h2, h3, h4⟩ := h
  unfold turnT
  dsimp only at h1 h2 h3 h4
  split
  · unfold sum4 mul4 R4
    dsimp only
    omega
  · unfold sum4 mul4 L4
    dsimp only
    omega
theorem dic_at {M : Sto} {p : Addr} {l : List (D × D)} (h : M p = some (.dit l)) : dicOf M (.ref p) = some l := by
  show (match M p with | some (.dic l) => some l | some (.dit l) => some l | _ => none) = _
  rw [h]
theorem rI_len (tu : Bool) (l : List T4) (v : T4) (i : Nat) (h : i < 2) : (rI tu l v i).length < sizeLine := by
  match i, h with
  | 0, _ => exact (show 0 < sizeLine by decide)
  | 1, _ =>
    rw [show rI tu l v 1 = dput [] _ _ from rfl, dput_nil]
    exact (show 1 < sizeLine by decide)
theorem wt_join {m : D} {t : T4} {s : Nat} {K : List Nat → T4 → Prop} {E : Int → Prop} (hm : m = .non ∧ s ≤ 8000 ∨ m = .int 4000) (h : ∀ w u, Tk t w u → (m = .int 4000 → w.length ≤ 4000) → K w u) (he : ∀ w u, Tk t w u → m = .int 4000 → 4000 < w.length → E 4000) :
    (m = .non ∧ s ≤ 8000 ∧ ∀ w u, Tk t w u → K w u) ∨ ∃ m', m = .int m' ∧ 0 ≤ m' ∧ m' ≤ 8000 ∧ ∀ w u, Tk t w u → ((w.length : Int) ≤ m' → K w u) ∧ (m' < w.length → E m') := by
  rcases hm with ⟨rfl, h2⟩ | rfl
  · exact .inl ⟨rfl, h2, fun w u tk => h w u tk fun z => nomatch z⟩
  · exact .inr ⟨4000, rfl, by decide, by decide, fun w u tk => ⟨fun z => h w u tk fun _ => by omega, fun z => he w u tk rfl (by omega)⟩⟩
theorem isO_in {C : Addr} {M : Sto} {p : Addr} {fs : List (Str × D)} {φ : List (Str × D) → Prop} (h : M p = some (.ins C fs)) (q : φ fs) : isO C M (.ref p) φ := by
  unfold isO
  rw [show objOf M (.ref p) = some (C, fs) from by show (match M p with | some (.ins C fs) => some (C, fs) | _ => none) = _; rw [h]]
  exact ⟨rfl, q⟩
def mcS (tu : Bool) (w : List Nat) (l : List T4) : D := .tup [.bl tu, .str ⟨w.toArray⟩, .lst (l.map tP)]
theorem mc_2 {M : Sto} {tu : Bool} {w : List Nat} {l : List T4} {φ : D → Prop} (q : φ (.lst (l.map tP))) : ixD M (mcD tu w l) (.int 2) φ := by
  unfold ixD mcD
  exact optK_of (d := D.lst (l.map tP)) (by rfl) q
theorem mc_3 {M : Sto} {tu : Bool} {w : List Nat} {l : List T4} {φ : D → Prop} (q : φ (.lst (l.map (rwD tu l)))) : ixD M (mcD tu w l) (.int 3) φ := by
  unfold ixD mcD
  exact optK_of (d := D.lst (l.map (rwD tu l))) (by rfl) q
theorem sl3 {M : Sto} (tu : Bool) (w : List Nat) (l : List T4) {φ : D → Prop} (q : φ (mcS tu w l)) : inK (.int 3) fun i => slD M (mcD tu w l) none (some i) φ := by
  unfold inK
  unfold slD mcD
  exact q
noncomputable def millF (CT : Addr) (t : T4) (w : List Nat) (l : List T4) : List (Str × D) := [("given", tab CT t), ("own_size", .int ((det4 (pr4 t)).natAbs : Nat)), ("machine", mcD (mtu t) w l), ("same", mcS (mtu t) w l)]
noncomputable def mill (C CT : Addr) (t : T4) (w : List Nat) (l : List T4) : D := .obj C (millF CT t w l)
theorem no_mill {f : Str} {CT : Addr} {t : T4} {w : List Nat} {l : List T4} (h : (f == ("given" : Str)) = false ∧ (f == ("own_size" : Str)) = false ∧ (f == ("machine" : Str)) = false ∧ (f == ("same" : Str)) = false := by decide +kernel) : List.lookup f (millF CT t w l) = none := by
  unfold millF
  obtain ⟨h1, h2, h3, h4⟩ := h
  simp only [List.lookup_cons, h1, h2, h3, h4, List.lookup_nil]
theorem ix_ln {M : Sto} {l : List D} {k : Nat} {x : D} {φ : D → Prop} (e : l[k]? = some x) (q : φ x) : ixD M (.lst l) (.int (k : Int)) φ := by
  show optK (lstOf M (.lst l)) fun l => optK (L2.atI l (k : Int)) φ
  refine optK_of (d := l) (by rfl) (optK_of ?_ q)
  have hk : k < l.length := by
    obtain ⟨z, _⟩ := List.getElem?_eq_some_iff.mp e
    exact z
  unfold L2.atI L2.ixN
  rw [if_pos (by omega), if_pos (by omega)]
  exact e
theorem rw_look {tu : Bool} {l : List T4} {u : T4} {c : Nat} (h : c = 76 ∨ c = 82) : dlook (rwL tu l u) (ckey (.str ⟨#[c]⟩)) = some (stD tu u l c) := by
  unfold rwL
  rcases h with rfl | rfl
  · exact dlook_pos rfl
  · refine (dlook_neg ?_).trans (dlook_pos rfl)
    intro h
    injection h with h
    injection h with h
    revert h
    decide
end Z
namespace Z
open PySem PySem.Spec PyProof.Rows L2

noncomputable def goS (tu : Bool) (u : T4) (w : List Nat) : T4 := w.foldl (gol tu) u
noncomputable def pwS (tu : Bool) : T4 → List Nat → List (List Nat)
  | _, [] => []
  | u, c :: w => tld tu u c :: pwS tu (gol tu u c) w
noncomputable def tlS (tu : Bool) (u : T4) (w : List Nat) : List Nat := (pwS tu u w).flatten
theorem goS_app (tu : Bool) (u : T4) (v w : List Nat) : goS tu u (v ++ w) = goS tu (goS tu u v) w := List.foldl_append
theorem pwS_app (tu : Bool) : ∀ (u : T4) (v w : List Nat), pwS tu u (v ++ w) = pwS tu u v ++ pwS tu (goS tu u v) w
  | _, [], _ => rfl
  | u, c :: v, w => by
    show tld tu u c :: pwS tu (gol tu u c) (v ++ w) = tld tu u c :: (pwS tu (gol tu u c) v ++ pwS tu (goS tu (gol tu u c) v) w)
    rw [pwS_app tu _ v w]
theorem tlS_app (tu : Bool) (u : T4) (v w : List Nat) : tlS tu u (v ++ w) = tlS tu u v ++ tlS tu (goS tu u v) w := by
  unfold tlS
  rw [pwS_app, List.flatten_append]
theorem tlS_cons (tu : Bool) (u : T4) (c : Nat) (w : List Nat) : tlS tu u (c :: w) = tld tu u c ++ tlS tu (gol tu u c) w := rfl
theorem goS_cons (tu : Bool) (u : T4) (c : Nat) (w : List Nat) : goS tu u (c :: w) = goS tu (gol tu u c) w := rfl
def trnW (tu : Bool) (w : List Nat) : List Nat := w.map (trn tu)
section
variable {n : Int} {tu : Bool}
theorem goS_rm (h0 : 0 < n) : ∀ {u : T4} (w : List Nat), Rm n u → Rm n (goS tu u w)
  | _, [], h => h
  | u, c :: w, h => goS_rm h0 w (h.gol h0 tu c).2
theorem walk_eq (h0 : 0 < n) : ∀ {u : T4} (w : List Nat), Rm n u → mul4 u (wL (trnW tu w)) = mul4 (wL (tlS tu u w)) (goS tu u w)
  | u, [], _ => by show mul4 u O4 = mul4 O4 u; rw [mul_one4, one_mul4]
  | u, c :: w, h => by
    obtain ⟨k, r⟩ := h.gol h0 tu c
    have e := k.eq
    have ih := walk_eq h0 w r
    show mul4 u (wL (trn tu c :: trnW tu w)) = mul4 (wL (tld tu u c ++ tlS tu (gol tu u c) w)) (goS tu (gol tu u c) w)
    rw [wL_cons, ← mul_assoc4, ← e, wL_app, mul_assoc4, ih, ← mul_assoc4]
theorem pwS_lr (h0 : 0 < n) : ∀ {u : T4} (w : List Nat), Rm n u → ∀ x ∈ pwS tu u w, LR x
  | _, [], _, _, hx => (nomatch hx)
  | u, c :: w, h, x, hx => by
    obtain ⟨k, r⟩ := h.gol h0 tu c
    rcases List.mem_cons.mp hx with rfl | hx
    · exact k.lr
    · exact pwS_lr h0 w r x hx
theorem tlS_lr (h0 : 0 < n) {u : T4} (w : List Nat) (h : Rm n u) : LR (tlS tu u w) := fun c hc => by
  obtain ⟨x, hx, hc⟩ := List.mem_flatten.mp hc
  exact pwS_lr h0 w h x hx c hc
end
noncomputable def vr (tu : Bool) (u : T4) (a r : List Nat) : Nat → T4
  | 0 => goS tu u a
  | i + 1 => goS tu (vr tu u a r i) r
noncomputable def trS (tu : Bool) (u : T4) (a r : List Nat) (i : Nat) : List Nat := tlS tu (vr tu u a r i) r
structure Pcy (tu : Bool) (u : T4) (a r : List Nat) (k p : Nat) : Prop where
  lt : k < p
  eq : vr tu u a r k = vr tu u a r p
  ne : ∀ i j, i < j → j < p → vr tu u a r i ≠ vr tu u a r j
theorem Pcy.uniq {tu : Bool} {u : T4} {a r : List Nat} {k p k' p' : Nat} (h : Pcy tu u a r k p) (h' : Pcy tu u a r k' p') : k = k' ∧ p = p' := by
  have ep : p = p' := by
    rcases Nat.lt_trichotomy p p' with z | z | z
    · exact absurd h.eq (h'.ne _ _ h.lt z)
    · exact z
    · exact absurd h'.eq (h.ne _ _ h'.lt z)
  subst ep
  refine ⟨?_, rfl⟩
  have e := h.eq.trans h'.eq.symm
  rcases Nat.lt_trichotomy k k' with z | z | z
  · exact absurd e (h.ne _ _ z h'.lt)
  · exact z
  · exact absurd e.symm (h.ne _ _ z h.lt)
theorem goS_mem {tu : Bool} {l : List T4} (hc : ∀ v ∈ l, gol tu v 76 ∈ l ∧ gol tu v 82 ∈ l) : ∀ {u : T4} {w : List Nat}, LR w → u ∈ l → goS tu u w ∈ l
  | _, [], _, h => h
  | u, c :: w, hw, h => by
    refine goS_mem hc (u := gol tu u c) (fun d hd => hw d (List.mem_cons_of_mem _ hd)) ?_
    rcases hw c List.mem_cons_self with rfl | rfl
    · exact (hc u h).1
    · exact (hc u h).2
end Z
namespace Z
open PySem PySem.Spec PyProof.Rows L2

structure Fd (n : Int) (tu : Bool) (w : List Nat) (l : List T4) (u : T4) : Prop where
  pos : 0 < n
  rm : ∀ v ∈ l, Rm n v
  cl : ∀ v ∈ l, gol tu v 76 ∈ l ∧ gol tu v 82 ∈ l
  st : l[0]? = some u
  lw : LR w
  few : l.length ≤ 2000
theorem Fd.mem {n : Int} {tu : Bool} {w : List Nat} {l : List T4} {u : T4} (h : Fd n tu w l u) : u ∈ l := List.mem_of_getElem? h.st
theorem Fd.zero {n : Int} {tu : Bool} {w : List Nat} {l : List T4} {u : T4} (h : Fd n tu w l u) : l.idxOf u = 0 := by
  match l, h.st with
  | v :: l, e =>
    cases Option.some.inj e
    exact List.idxOf_cons_self
theorem fd_of {t u : T4} {w : List Nat} {l : List T4} (hn : Nn t) (hd : det4 t ≠ 0) (h60 : (det4 (pr4 t)).natAbs ≤ 60) (tk : Tk (mpl t) w u) (b : Bf (mtu t) [u] 0 l) : Fd ((det4 (pr4 t)).natAbs : Nat) (mtu t) w l u := by
  obtain ⟨l1, l2, l3, l4, l5, l6⟩ := bf_ok hn hd h60 tk b
  obtain ⟨_, e, p, _⟩ := mpl_ok hn hd
  have h0 : 0 < (det4 (pr4 t)).natAbs := by omega
  exact ⟨by omega, l2, l3, l6, tk.lr, rooms_2000 h0 h60 l1 l2⟩
end Z
namespace Z
open PySem PySem.Spec PyProof.Rows L2

def tkc : Nat → Nat × Nat × Nat × Nat → Nat
  | 0, _ => 0
  | k + 1, t => bif Nat.ble t.2.2.1 t.1 && Nat.ble t.2.2.2 t.2.1 then 1 + tkc k (t.1 - t.2.2.1, t.2.1 - t.2.2.2, t.2.2.1, t.2.2.2) else
    bif Nat.ble t.1 t.2.2.1 && Nat.ble t.2.1 t.2.2.2 then 1 + tkc k (t.1, t.2.1, t.2.2.1 - t.1, t.2.2.2 - t.2.1) else 0
theorem tkc_eq : ∀ {w : List Nat} {k : Nat} {t u : T4}, 0 < det4 t → Nn t → Tk t w u → w.length ≤ k → tkc k (u4 t) = w.length
  | [], 0, _, _, _, _, _, _ => rfl
  | [], k + 1, t, u, hd, hn, h, _ => by
    have e := h.eq
    rw [wL_nil, one_mul4] at e
    obtain ⟨b1, b2⟩ := h.bal
    rw [e] at b1 b2
    obtain ⟨a, b, c, d⟩ := t
    obtain ⟨n1, n2, n3, n4⟩ := hn
    unfold bR at b1
    unfold bL at b2
    dsimp only at *
    show (bif Nat.ble c.toNat a.toNat && Nat.ble d.toNat b.toNat then _ else bif Nat.ble a.toNat c.toNat && Nat.ble b.toNat d.toNat then _ else 0) = 0
    have e1 : (Nat.ble c.toNat a.toNat && Nat.ble d.toNat b.toNat) = false := by
      rw [← b1]
      congr 1
      · by_cases z : c ≤ a
        · rw [decide_eq_true z]; exact Nat.ble_eq_true_of_le (by omega)
        · rw [decide_eq_false z, ← Bool.not_eq_true, Nat.ble_eq]; omega
      · by_cases z : d ≤ b
        · rw [decide_eq_true z]; exact Nat.ble_eq_true_of_le (by omega)
        · rw [decide_eq_false z, ← Bool.not_eq_true, Nat.ble_eq]; omega
    have e2 : (Nat.ble a.toNat c.toNat && Nat.ble b.toNat d.toNat) = false := by
      rw [← b2]
      congr 1
      · by_cases z : a ≤ c
        · rw [decide_eq_true z]; exact Nat.ble_eq_true_of_le (by omega)
        · rw [decide_eq_false z, ← Bool.not_eq_true, Nat.ble_eq]; omega
      · by_cases z : b ≤ d
        · rw [decide_eq_true z]; exact Nat.ble_eq_true_of_le (by omega)
        · rw [decide_eq_false z, ← Bool.not_eq_true, Nat.ble_eq]; omega
    rw [e1, e2]
    rfl
  | c :: w, 0, _, _, _, _, _, hl => absurd hl (by simp)
  | c0 :: w, k + 1, t, u, hd, hn, h, hl => by
    have hf := h.first hd
    obtain ⟨t1, h1, n1, d1, et⟩ := h.tail
    have ih := tkc_eq (k := k) (by rw [d1]; exact hd) n1 h1 (by simp only [List.length_cons] at hl; omega)
    obtain ⟨a, b, c, d⟩ := t
    obtain ⟨p1, p2, p3, p4⟩ := hn
    have un : ∀ x y : Int, 0 ≤ x → 0 ≤ y → Nat.ble x.toNat y.toNat = decide (x ≤ y) := fun x y hx hy => by
      by_cases z : x ≤ y
      · rw [decide_eq_true z]; exact Nat.ble_eq_true_of_le (by omega)
      · rw [decide_eq_false z, ← Bool.not_eq_true, Nat.ble_eq]; omega
    have go : tkc (k + 1) (u4 (a, b, c, d)) = bif bR (a, b, c, d) then 1 + tkc k (a.toNat - c.toNat, b.toNat - d.toNat, c.toNat, d.toNat) else bif bL (a, b, c, d) then 1 + tkc k (a.toNat, b.toNat, c.toNat - a.toNat, d.toNat - b.toNat) else 0 := by
      show (bif Nat.ble c.toNat a.toNat && Nat.ble d.toNat b.toNat then _ else bif Nat.ble a.toNat c.toNat && Nat.ble b.toNat d.toNat then _ else 0) = _
      rw [un c a p3 p1, un d b p4 p2, un a c p1 p3, un b d p2 p4]
      rfl
    rw [go]
    obtain ⟨a1, b1, c1, d1'⟩ := t1
    obtain ⟨q1, q2, q3, q4⟩ := n1
    dsimp only at q1 q2 q3 q4
    rcases hf with ⟨rfl, z1, z2⟩ | ⟨rfl, z1, z2⟩
    · rw [turn_R, mul_R] at et
      injection et with e1 et
      injection et with e2 et
      injection et with e3 e4
      rw [z1, List.length_cons, ← ih]
      dsimp only at e1 e2 e3 e4
      subst e1 e2 e3 e4
      show 1 + tkc k ((a1 + c).toNat - c.toNat, (b1 + d).toNat - d.toNat, c.toNat, d.toNat) = tkc k (a1.toNat, b1.toNat, c.toNat, d.toNat) + 1
      rw [show (a1 + c).toNat - c.toNat = a1.toNat by omega, show (b1 + d).toNat - d.toNat = b1.toNat by omega]
      omega
    · rw [turn_L, mul_L] at et
      injection et with e1 et
      injection et with e2 et
      injection et with e3 e4
      rw [z1, z2, List.length_cons, ← ih]
      dsimp only at e1 e2 e3 e4
      subst e1 e2 e3 e4
      show 1 + tkc k (a.toNat, b.toNat, (a + c1).toNat - a.toNat, (b + d1').toNat - b.toNat) = tkc k (a.toNat, b.toNat, c1.toNat, d1'.toNat) + 1
      rw [show (a + c1).toNat - a.toNat = c1.toNat by omega, show (b + d1').toNat - b.toNat = d1'.toNat by omega]
      omega
def mxc (v : Nat × Nat × Nat × Nat) : Nat := Nat.max (tkc 300 (v.1, v.1 + v.2.1, v.2.2.1, v.2.2.1 + v.2.2.2)) (tkc 300 (v.1 + v.2.1, v.2.1, v.2.2.1 + v.2.2.2, v.2.2.2))
theorem tld_le {n : Nat} {tu : Bool} {v : T4} {c : Nat} (h0 : 0 < n) (h : Rm n v) : (tld tu v c).length ≤ 4 * n := by
  obtain ⟨k, r⟩ := h.gol (by omega) tu c
  have h1 := len_sum k.lr k.nn (by rw [(h.stp (trn tu c)).2]; omega) k.eq
  obtain ⟨b1, b2, b3, b4⟩ := bal_small h.nn h.bal (by rw [h.det]; omega)
  rw [h.det] at b3 b4
  obtain ⟨n1, n2, n3, n4⟩ := h.nn
  have : sum4 (mul4 v (turnT (trn tu c))) ≤ 4 * n := by
    obtain ⟨a, b, c', d⟩ := v
    dsimp only at *
    unfold turnT
    split
    · unfold sum4 mul4 R4
      dsimp only
      omega
    · unfold sum4 mul4 L4
      dsimp only
      omega
  omega
theorem tld_mxc {n : Nat} {tu : Bool} {v : T4} {c : Nat} (h0 : 0 < n) (h1 : n ≤ 60) (h : Rm n v) : (tld tu v c).length ≤ mxc (u4 v) := by
  obtain ⟨k, r⟩ := h.gol (by omega) tu c
  obtain ⟨s1, s2⟩ := h.stp (trn tu c)
  have hl := tld_le (tu := tu) (c := c) h0 h
  have e := tkc_eq (k := 300) (by rw [s2]; omega) s1 k (by omega)
  rw [← e]
  obtain ⟨n1, n2, n3, n4⟩ := h.nn
  obtain ⟨a, b, c', d⟩ := v
  dsimp only at *
  unfold mxc
  have h2 : u4 (mul4 (a, b, c', d) (turnT (trn tu c))) = (a.toNat, a.toNat + b.toNat, c'.toNat, c'.toNat + d.toNat) ∨ u4 (mul4 (a, b, c', d) (turnT (trn tu c))) = (a.toNat + b.toNat, b.toNat, c'.toNat + d.toNat, d.toNat) := by
    unfold turnT
    split
    · left
      unfold u4 mul4 R4
      dsimp only
      simp only [Prod.mk.injEq]
      exact ⟨by omega, by omega, by omega, by omega⟩
    · right
      unfold u4 mul4 L4
      dsimp only
      simp only [Prod.mk.injEq]
      exact ⟨by omega, by omega, by omega, by omega⟩
  rcases h2 with h2 | h2
  · rw [h2]; exact Nat.le_max_left _ _
  · rw [h2]; exact Nat.le_max_right _ _
theorem go_snoc (tu : Bool) (u : T4) (w : List Nat) (c : Nat) : goS tu u (w ++ [c]) = gol tu (goS tu u w) c := by
  rw [goS_app]; rfl
theorem take_sn {w : List Nat} {i c : Nat} (h : w[i]? = some c) : w.take (i + 1) = w.take i ++ [c] := by
  rw [List.take_add_one, h]; rfl
def row (C : Addr) (x y : List Nat) : D := .obj C [("whole", .tup [.str ⟨x.toArray⟩, .str ⟨y.toArray⟩])]
end Z
namespace Z
open PySem PySem.Spec PyProof.Rows L2

theorem step_O {c : Nat} (hc : c = 76 ∨ c = 82) : gol false O4 c = O4 ∧ tld false O4 c = [c] := by
  have hO : Nn O4 := ⟨by decide, by decide, by decide, by decide⟩
  have tk2 : Tk (mul4 O4 (turnT (trn false c))) [c] O4 := by
    refine ⟨fun d hd => by rw [List.mem_singleton.mp hd]; exact hc, ?_, hO, ⟨by decide, by decide⟩⟩
    rw [mul_one4, one_mul4, wL_one]
    rfl
  obtain ⟨a, b⟩ := wd_lf (by rw [det_mul, det_turn]; decide) tk2
  exact ⟨b, a⟩
theorem bf_O {l : List T4} (b : Bf false [O4] 0 l) : l = [O4] := by
  have gr : growR false [O4] O4 = [O4] := by
    unfold growR insR
    rw [(step_O (.inl rfl)).1, (step_O (.inr rfl)).1]
    simp
  exact b.uniq (.step (u := O4) rfl (by rw [gr]; exact .stop (Nat.le_refl _)))
end Z
namespace Z
open PySem PySem.Spec PyProof.Rows L2

theorem silent {n : Nat} {tu : Bool} (h0 : 0 < n) : ∀ {v : T4} (w : List Nat), LR w → Rm n v → tlS tu v w = [] → sum4 v + w.length ≤ sum4 (goS tu v w)
  | v, [], _, _, _ => Nat.le_refl _
  | v, c :: w, hw, h, e => by
    rw [tlS_cons] at e
    obtain ⟨e1, e2⟩ := List.append_eq_nil_iff.mp e
    obtain ⟨k, r⟩ := h.gol (by omega) tu c
    have ih := silent h0 w (fun d hd => hw d (List.mem_cons_of_mem _ hd)) r e2
    have eg := k.eq
    rw [e1, wL_nil, one_mul4] at eg
    obtain ⟨b1, b2, b3, b4⟩ := bal_small h.nn h.bal (by rw [h.det]; omega)
    obtain ⟨n1, n2, n3, n4⟩ := h.nn
    have hs : sum4 v + 1 ≤ sum4 (gol tu v c) := by
      rw [eg]
      obtain ⟨a, b, c', d⟩ := v
      dsimp only at *
      unfold turnT
      split
      · unfold sum4 mul4 R4
        dsimp only
        omega
      · unfold sum4 mul4 L4
        dsimp only
        omega
    rw [goS_cons, List.length_cons]
    omega
theorem rm_sum {n : Nat} {v : T4} (h0 : 0 < n) (h : Rm n v) : 2 ≤ sum4 v ∧ sum4 v ≤ 2 * n := by
  obtain ⟨b1, b2, b3, b4⟩ := bal_small h.nn h.bal (by rw [h.det]; omega)
  rw [h.det] at b3 b4
  obtain ⟨n1, n2, n3, n4⟩ := h.nn
  unfold sum4
  omega
theorem speak {n : Nat} {tu : Bool} {v : T4} {w : List Nat} (h0 : 0 < n) (hw : LR w) (h : Rm n v) (hl : 2 * n ≤ w.length) : 1 ≤ (tlS tu v w).length := by
  rcases Nat.eq_zero_or_pos (tlS tu v w).length with z | z
  · have := silent h0 w hw h (List.length_eq_zero_iff.mp z)
    have h2 := rm_sum h0 (goS_rm (by omega) w h : Rm n (goS tu v w))
    have h1 := rm_sum h0 h
    omega
  · exact z
end Z
namespace Z
open PySem PySem.Spec PyProof.Rows L2

theorem mx_all : (List.range 21).all (fun n => (cand n).all fun v => Nat.ble (mxc v) n) = true := by decide +kernel
theorem tld_n {n : Nat} {tu : Bool} {v : T4} {c : Nat} (h0 : 0 < n) (h1 : n ≤ 20) (h : Rm n v) : (tld tu v c).length ≤ n := by
  have h2 := tld_mxc (tu := tu) (c := c) h0 (by omega) h
  have h3 := List.all_eq_true.mp (List.all_eq_true.mp mx_all n (List.mem_range.mpr (by omega))) _ (cand_mem h0 h)
  exact Nat.le_trans h2 (Nat.le_of_ble_eq_true h3)
theorem tlS_n {n : Nat} {tu : Bool} (h0 : 0 < n) (h1 : n ≤ 20) : ∀ {v : T4} (w : List Nat), Rm n v → (tlS tu v w).length ≤ w.length * n
  | _, [], _ => by show (0 : Nat) ≤ _; exact Nat.zero_le _
  | v, c :: w, h => by
    rw [tlS_cons, List.length_append, List.length_cons, Nat.add_mul, Nat.one_mul]
    have h1' := tld_n (tu := tu) (c := c) h0 h1 h
    have h2 := tlS_n (tu := tu) h0 h1 w (h.gol (by omega) tu c).2
    omega
end Z
namespace Z
open PySem PySem.Spec PyProof.Rows L2
def obsE (as : List Addr) (fa : List FF) (fn : List DefZ) (g : Addr → Option Obj) : He.AlD := obsZ fa fn (He.frG g as)
def hookE (as : List Addr) (fa : List FF) (fn : List DefZ) : PySem.W.Hook where
  α := He.AlD
  obs := fun s => obsE as fa fn s.heap.get?
  val := fun _ => valZ fn
  says := fun _ h => ∃ K : PySem.W.Frag, K.In h ∧ SaysZ fa fn K
  of := fun _ _ e => ⟨_, He.frG_in, e⟩
  keeps := fun _ _ _ ⟨K, hK, c⟩ k => ⟨K, PySem.W.Frag.In.keeps hK k, c⟩
theorem obsE_eq {as : List Addr} {fa : List FF} {fn : List DefZ} {g : Addr → Option Obj} {s : Shared} (h : ∀ a, g a = s.heap.get? a) : obsE as fa fn g = (hookE as fa fn).obs s := by
  have e : g = s.heap.get? := funext h
  rw [e] <;> rfl
end Z
namespace Z
open PySem PySem.Spec PyProof.Rows L2

section
variable {X : Cx} {B : Bs} {Ξ : XD → En → Sto → Prop}
end

section
variable {X : Cx} {B : Bs} {o : Expr} {fn : Str} {pos : Pos} {C : Addr} {fo : DTE} {to : TE}
end

section
variable {X : Cx} {B : Bs} {Ξ : XD → En → Sto → Prop} {k j : Nat} {c : Ct} {pos apos : Pos} {e o : Expr} {es : List Expr} {ga : DTA} {fo : DTE} {C : Addr} {m : Str}
end

section
variable {X : Cx} {tg : Expr}
end
end Z
namespace Z
open PySem PySem.Spec PyProof.Rows L2

abbrev Pc := List Nat × Nat
def fltP (L : List Pc) : List Pc := L.filter fun q => decide (q.1 ≠ []) && decide (0 < q.2)
noncomputable def cyc2 (tu : Bool) (v : T4) (x : List Nat) : Nat × Nat := by
  classical
  exact if h : ∃ q : Nat × Nat, Pcy tu v [] x q.1 q.2 then h.choose else (0, 1)
def lnP (T : Nat → List Nat) (i : Nat) : List Pc := (List.range i).map fun j => (T j, 1)
def oftP (T : Nat → List Nat) (N k p : Nat) : List Pc :=
  if N ≤ p then lnP T N else lnP T p ++ [(((List.range (p - k)).map fun i => T (k + i)).flatten, (N - p) / (p - k))] ++ lnP (fun i => T (k + i)) ((N - p) % (p - k))
noncomputable def fdP (tu : Bool) (v : T4) (x : List Nat) (N : Nat) : List Pc := fltP (oftP (trS tu v [] x) N (cyc2 tu v x).1 (cyc2 tu v x).2)
noncomputable def fdR (tu : Bool) (v : T4) (x : List Nat) (N : Nat) : T4 := if N ≤ (cyc2 tu v x).2 then vr tu v [] x N else vr tu v [] x ((cyc2 tu v x).1 + (N - (cyc2 tu v x).2) % ((cyc2 tu v x).2 - (cyc2 tu v x).1))
structure Fst where
  v : T4
  came : Nat
  L : List Pc
noncomputable def Fst.item (tu : Bool) (s : Fst) (x : List Nat) (N : Nat) : Fst := ⟨fdR tu s.v x N, s.came + x.length * N, s.L ++ fdP tu s.v x N⟩
noncomputable def Fst.items (tu : Bool) (s : Fst) (l : List Pc) : Fst := l.foldl (fun s q => s.item tu q.1 q.2) s
end Z
namespace Z
open PySem PySem.Spec PyProof.Rows L2

end Z
namespace Z
open PySem PySem.Spec PyProof.Rows L2

end Z
namespace Z
open PySem PySem.Spec PyProof.Rows L2

end Z
namespace Z
open PySem PySem.Spec PyProof.Rows L2

end Z
namespace Z
open PySem PySem.Spec PyProof.Rows L2

section
variable {prog : Program} {w : World} {A : Around} {E : Value → Shared → Prop} {s : Shared}
end
abbrev DPat := D → Sto → (Option (List D) → Prop) → Prop
abbrev DPats := List D → Sto → (Option (List D) → Prop) → Prop
section
variable {f : DPat} {g' : DPats} {is : List Nat} {g : DTS} {h : D → DTS} {E : Ek} {r : En} {M : Sto} {l : List D} {n k : Nat} {i j : Str}
end
section
variable {X : Cx} {B : Bs} {pos : Pos}
end
section
variable {prog : Program} {w : World} {A : Around} {E : Value → Shared → Prop} {s : Shared}
end
section
variable {X : Cx} {B : Bs} {pos : Pos}
end
end Z
namespace Z
open PySem PySem.Spec PyProof.Rows L2

section
variable {X : Cx} {B : Bs} {pos p p1 p2 p3 : Pos} {e o : Expr} {es : List Expr} {fa fo : DTE} {ga : DTA} {k : Nat}
theorem RepL.reverse {K : PySem.W.Frag} {G : Hp} : ∀ {ds : List D} {vs : List V}, RepL K G ds vs → RepL K G ds.reverse vs.reverse
  | _, _, .nil => .nil
  | d :: ds, v :: vs, .cons h r => by
    rw [List.reverse_cons, List.reverse_cons]
    exact r.reverse.app (.cons h .nil)
end
end Z
namespace Z
open PySem PySem.Spec PyProof.Rows L2

section
variable {X : Cx} {B : Bs} {pos p : Pos} {e : Expr} {ga : DTA}
end
section
variable {X : Cx} {B : Bs} {pos : Pos} {a b : Expr} {fa fb : DTE}
end
section
variable {X : Cx} {B : Bs} {pos p : Pos} {e : Expr} {ga : DTA} {fa : DTE}
end
section
variable {vs : List Nat} {wi : DTI} {as : D → En → (En → Prop) → Prop} {fe : DTE} {r : En} {M : Sto} {Φ : List D → Sto → Prop}
end
end Z
namespace Z
open PySem PySem.Spec PyProof.Rows L2

inductive Pg where
  | tab (t : T4) | trn (w : Str) | swp | thn (l : List Pg) | tms (n : Int) (p : Pg) | use (x : Str)
mutual
/-- how deep it is nested -/
def pgK : Pg → Nat
  | .thn l => pgKs l + 1
  | .tms _ p => pgK p + 1
  | _ => 1
def pgKs : List Pg → Nat
  | [] => 0
  | p :: l => max (pgK p) (pgKs l)
end
mutual
/-- how many parts there are -/
def pgN : Pg → Nat
  | .thn l => pgNs l + 1
  | .tms _ p => pgN p + 1
  | _ => 1
def pgNs : List Pg → Nat
  | [] => 0
  | p :: l => pgN p + pgNs l
end
def PgS : Pg → Prop
  | .thn l => l.length + 1 ≤ 16384
  | _ => True
mutual
/-- the names in the order of writing -/
def pgU : Pg → List Str
  | .use x => [x]
  | .thn l => pgUs l
  | .tms _ p => pgU p
  | _ => []
def pgUs : List Pg → List Str
  | [] => []
  | p :: l => pgU p ++ pgUs l
end
def NameOk (x : Str) : Prop := 1 ≤ x.cps.size ∧ x.cps.size ≤ 8 ∧ x ≠ "swap" ∧ x ≠ "then" ∧ ∀ c ∈ x.cps.toList, 97 ≤ c ∧ c ≤ 122
def TabOk (t : T4) : Prop := Nn t ∧ t.1 ≤ 60 ∧ t.2.1 ≤ 60 ∧ t.2.2.1 ≤ 60 ∧ t.2.2.2 ≤ 60 ∧ det4 t ≠ 0
def PtOk : Pg → Prop
  | .tab t => TabOk t
  | .trn w => LR w.cps.toList ∧ 1 ≤ w.cps.size ∧ w.cps.size ≤ 60
  | .swp => True
  | .thn l => 2 ≤ l.length ∧ l.length ≤ 6
  | .tms n _ => 0 ≤ n ∧ n ≤ 12
  | .use x => NameOk x
mutual
def PgOk : Pg → Prop
  | .thn l => PtOk (.thn l) ∧ PgOks l
  | .tms n p => PtOk (.tms n p) ∧ PgOk p
  | p => PtOk p
def PgOks : List Pg → Prop
  | [] => True
  | p :: l => PgOk p ∧ PgOks l
end
theorem strOk_of {x : Str} (h : ∀ c ∈ x.cps.toList, c < 0x110000) : PyData.strOk x = true := by
  unfold PyData.strOk
  rw [Array.all_eq_true]
  intro i hi
  exact decide_eq_true (h _ (by rw [← Array.getElem_toList (h := hi)]; exact List.getElem_mem _))
theorem LR.lt {l : List Nat} (h : LR l) : ∀ c ∈ l, c < 0x110000 := fun c hc => by have := h c hc; omega
theorem PgOk.s {p : Pg} (h : PgOk p) : PgS p := by
  cases p with
  | thn l => have := h.1.2; show l.length + 1 ≤ 16384; omega
  | _ => trivial
theorem least {p : Nat → Prop} (h : ∃ n, p n) : ∃ n, p n ∧ ∀ m, p m → n ≤ m := by
  obtain ⟨n, hn⟩ := h
  induction n using Nat.strongRecOn with
  | ind n ih =>
    by_cases e : ∃ m, m < n ∧ p m
    · obtain ⟨m, hm, pm⟩ := e
      exact ih m hm pm
    · exact ⟨n, hn, fun m pm => Nat.le_of_not_lt fun hm => e ⟨m, hm, pm⟩⟩
def capT (t : T4) : Option T4 := if (pr4 t).1 ≤ 1000000 ∧ (pr4 t).2.1 ≤ 1000000 ∧ (pr4 t).2.2.1 ≤ 1000000 ∧ (pr4 t).2.2.2 ≤ 1000000 then some (pr4 t) else none
def stepT (f : Option T4) (d : Option T4) : Option T4 := match d, f with
  | some d, some f => capT (mul4 d f)
  | _, _ => none
def powT (d : Option T4) (n : Nat) : Option T4 := (List.range n).foldl (fun f _ => stepT f d) (some O4)
mutual
def tbl (g : Str → Option T4) : Pg → Option T4
  | .tab t => capT t
  | .trn w => capT (wL w.cps.toList)
  | .swp => some (0, 1, 1, 0)
  | .thn l => match tbls g l with
    | [] => none
    | d :: r => r.foldl stepT d
  | .tms n p => match tbl g p with
    | none => none
    | some t => powT (some t) n.toNat
  | .use x => g x
def tbls (g : Str → Option T4) : List Pg → List (Option T4)
  | [] => []
  | p :: l => tbl g p :: tbls g l
end
theorem Dr.rs {p : Addr} {M M' M8 : Sto} (d : Dr p M M') (h0 : HandAt M p) (h : ∀ a, M' a ≠ none → M8 a = M' a) : Dr p M (rs M M8) := by
  obtain ⟨hh, e0, _⟩ := h0
  obtain ⟨h1, e1, h2⟩ := d.1
  have e8 : Z.rs M M8 p = some (hd h1) := by
    unfold Z.rs
    rw [e0]
    show M8 p = _
    rw [h p (by rw [e1]; simp), e1]
  refine ⟨⟨h1, e8, h2⟩, fun q hq => ?_⟩
  unfold Z.rs
  cases e : M q with
  | none => rfl
  | some c =>
    show M8 q = some c
    have := d.2 q hq
    rw [h q (by rw [this, e]; simp), this, e]
def rl5 : Str := Txt.mul "RL" 5
def addS (acc : List Str) (x : Str) : List Str := if x ∈ acc then acc else acc ++ [x]
def dd (xs : List Str) : List Str := xs.foldl addS []
end Z
namespace Z
open PySem PySem.Spec PyProof.Rows L2 PySem.NumText

def strC (x : Str) : List Nat := x.cps.toList
def decC (i : Int) : List Nat := strC (Str.ofString (toString i))
end Z
namespace Z
open PySem PySem.Spec PyProof.Rows L2

section
variable {P : Program} {w : World} {K : PySem.W.Frag} {mg : Str → Option Value} {base : Heap}
end
section
variable {X : Cx} {B : Bs} {Ξ : XD → En → Sto → Prop} {pos p : Pos} {e : Expr} {es : List Expr} {ga : DTA} {k n : Nat} {x : Str} {C : Addr} {g : List V → List (Str × V)}
end
section
variable {X : Cx} {B : Bs} {Ξ : XD → En → Sto → Prop} {pos p cpos : Pos} {e : Expr} {es : List Expr} {ga : DTA} {k : Nat} {x : Str} {C : Addr}
end
section
variable {P : Program} {w : World} {K : PySem.W.Frag} {mg : Str → Option Value} {base : Heap} {x qual : Str} {st : Stmt} {f : Addr} {fd : FuncData} {N ps : List Str} {k : Nat} {dvs : List V} {kws : List (Str × V)}
end
section
variable {X : Cx} {B : Bs} {Ξ : XD → En → Sto → Prop} {pos p np pos' : Pos} {e : Expr} {es : List Expr} {ga : DTA} {j k n : Nat} {x : Str} {c : Ct} {bs : List (Nat × List Str × (List D → List D → List D))} {g : List D → List D → List D}
end
end Z
namespace Z
open PySem PySem.Spec PyProof.Rows L2

section
variable {ts : List DTE} {t : DTE} {a w : List Nat} {r : En} {M : Sto} {φ : Str → Sto → Prop}
end
def wB (d : D) : Bool := match d with
  | .str x => x.cps.toList.all fun c => decide (c ∈ ("LR" : Str).cps.toList)
  | _ => false
def inB (d : D) (a b : Int) : Bool := match d with
  | .int i => decide (a ≤ i) && decide (i ≤ b)
  | _ => false
end Z
namespace Z
open PySem PySem.Calls PySem.Spec PyProof.Rows PySem.Builtin PySem.Builtin.ObjectAttr PySem.Builtin.Getset_descriptor

section
variable {prog : Program} {w : World} {A : Around} {s : Shared} {K : PySem.W.Frag} {p x C fs : Addr} {R : Result → Shared → Prop} {v : Value}
end
section
open L2
variable {X : Cx} {B : Bs} {Ξ : XD → En → Sto → Prop} {k j n : Nat} {c : Ct} {pos p' : Pos} {o value : Expr} {fa fo : DTE} {C : Addr} {fn : Str}
end
section
open L2
variable {P : Program} {w : World} {K : PySem.W.Frag} {mg : Str → Option Value} {base : Heap} {x m : Str} {fd : FuncData} {ps : List Str} {k : Nat} {c : Ct}
end
end Z
namespace Z
open PySem PySem.Spec PyProof.Rows

section
variable {prog : Program} {w : World} {K : Type} [DecidableEq K] {knd : KeyKind prog w K} {A : Around} {E : Value → Shared → Prop} {s : Shared}
end
section
open L2
end
end Z
namespace Z
open PySem PySem.Spec PyProof.Rows L2

section
variable {K : PySem.W.Frag} {B : Bs} {r : En} {M : Sto} {σ : L2.St} {H G : Hp} {p : Addr} {l : List (D × D)} {kvs : List (Key × V)} {o : Obj}
end
section
variable {X : Cx} {B : Bs} {pos : Pos} {e de ke ve : Expr} {fa fd fk fv : DTE} {k : Nat}
end
section
variable {X : Cx} {B : Bs} {pos : Pos} {fk fe : DTE} {tt : DTT} {k : Nat}
end
end Z
namespace Z
open PySem PySem.Spec PyProof.Rows L2

section
variable {X : Cx} {B : Bs} {apos cpos p1 : Pos} {e f : Expr} {fe ff : DTE} {x : Str} {kvs : List (Str × Int)} {ty tx : TE}
end
section
variable {X : Cx} {B : Bs} {apos cpos p1 : Pos} {e f : Expr} {fe ff : DTE} {x : Str} {kvs : List (Str × Int)}
end
end Z
namespace Z
open PySem PySem.Spec PyProof.Rows L2

section
variable {X : Cx} {e : Expr} {te : TE} {p apos cpos pos : Pos}
end
section
variable {X : Cx} {B : Bs} {p apos cpos pos : Pos} {e : Expr} {fa : DTE}
end
section
variable {X : Cx} {B : Bs} {pos p : Pos} {e : Expr} {ga : DTA}
end
end Z
namespace Z
open PySem PySem.Spec PyProof.Rows L2

abbrev Ps := List (Str × Pg)
abbrev Ts := List (Str × T4)
def nms {α : Type} (ps : List (Str × α)) : List Str := ps.map (·.1)
def tbsA : Ts → Ps → Option Ts
  | acc, [] => some acc
  | acc, q :: r => match tbl (fun y => acc.lookup y) q.2 with
    | some t => tbsA (acc ++ [(q.1, t)]) r
    | none => none
def tbs (ps : Ps) : Option Ts := tbsA [] ps
structure PsOk (ps : Ps) : Prop where
  few : ps.length ≤ 30
  nd : (nms ps).Nodup
  ok : ∀ q ∈ ps, NameOk q.1 ∧ PgOk q.2 ∧ pgK q.2 ≤ 8 ∧ pgN q.2 ≤ 5000
  use : ∀ i q, ps[i]? = some q → ∀ x ∈ pgU q.2, x ∈ nms (ps.take i)
def put {α : Type} : List (Str × α) → Str → α → List (Str × α)
  | [], x, a => [(x, a)]
  | q :: r, x, a => if q.1 = x then (x, a) :: r else q :: put r x a
def ahead (ps : Ps) (x : Str) : List Str := (nms ps).take ((nms ps).idxOf x)
section
variable {X : Cx} {B : Bs} {pos p : Pos} {e : Expr} {ga : DTA}
end
end Z
namespace Z
open PySem PySem.Spec PyProof.Rows L2

section
variable {X : Cx} {B : Bs} {a b : Expr} {fa fb : DTE} {k : Nat} {pos : Pos}
end
section
variable {X : Cx} {B : Bs} {a b : Expr} {fa fb : DTE} {k : Nat} {pos : Pos}
end
section
variable {X : Cx} {B : Bs} {e l tg : Expr} {fa : DTE}
end
end Z
namespace Z
open PySem PySem.Spec PyProof.Rows L2

section
variable {α β : Type}
theorem mem_nms {ps : List (Str × α)} {q : Str × α} (h : q ∈ ps) : q.1 ∈ nms ps := List.mem_map.mpr ⟨q, h, rfl⟩
theorem nms_app (a b : List (Str × α)) : nms (a ++ b) = nms a ++ nms b := List.map_append
theorem put_not {ps : List (Str × α)} {x : Str} {a : α} (hx : x ∉ nms ps) : put ps x a = ps ++ [(x, a)] := by
  induction ps with
  | nil => rfl
  | cons q r ih =>
    have e : q.1 ≠ x := fun z => hx (by rw [← z]; exact List.mem_cons_self)
    rw [put, if_neg e, ih fun z => hx (List.mem_cons_of_mem _ z)]
    rfl
theorem put_nms {ps : List (Str × α)} {x : Str} {a : α} (hx : x ∈ nms ps) : nms (put ps x a) = nms ps := by
  induction ps with
  | nil => cases hx
  | cons q r ih =>
    by_cases e : q.1 = x
    · rw [put, if_pos e]
      show x :: nms r = q.1 :: nms r
      rw [e]
    · rw [put, if_neg e]
      show q.1 :: nms (put r x a) = q.1 :: nms r
      rw [ih ((List.mem_cons.mp hx).resolve_left fun z => e z.symm)]
theorem put_get {ps : List (Str × α)} {x : Str} {a : α} {i : Nat} {q : Str × α} (h : (put ps x a)[i]? = some q) : q = (x, a) ∧ (i = (nms ps).idxOf x) ∨ ps[i]? = some q := by
  induction ps generalizing i with
  | nil =>
    cases i with
    | zero => cases h; exact .inl ⟨rfl, rfl⟩
    | succ i => simp [put] at h
  | cons p r ih =>
    by_cases e : p.1 = x
    · rw [put, if_pos e] at h
      cases i with
      | zero => cases h; exact .inl ⟨rfl, by show 0 = List.idxOf x (p.1 :: nms r); rw [e, List.idxOf_cons_self]⟩
      | succ i => exact .inr h
    · rw [put, if_neg e] at h
      cases i with
      | zero => exact .inr h
      | succ i =>
        rcases ih (i := i) h with ⟨h1, h2⟩ | h1
        · refine .inl ⟨h1, ?_⟩
          show i + 1 = List.idxOf x (p.1 :: nms r)
          rw [List.idxOf_cons, show (p.1 == x) = false from by simpa using e, h2]; rfl
        · exact .inr h1
end
def dl {α : Type} (x : Str) (a : List (Str × α)) : List (Str × α) := a.filter fun q => decide (q.1 ≠ x)
theorem nms_take {α : Type} (ps : List (Str × α)) (i : Nat) : nms (ps.take i) = (nms ps).take i := List.map_take
theorem PsOk.nil : PsOk [] := ⟨by simp, List.nodup_nil, (fun q h => nomatch h), (fun i q h => by simp at h)⟩
theorem PsOk.put {ps : Ps} (h : PsOk ps) {x : Str} {p : Pg} (hx : NameOk x) (hp : PgOk p ∧ pgK p ≤ 8 ∧ pgN p ≤ 5000) (hu : ∀ y ∈ pgU p, y ∈ ahead ps x) (hl : x ∉ nms ps → ps.length < 30) : PsOk (put ps x p) := by
  by_cases e : x ∈ nms ps
  · have en := put_nms (a := p) e
    refine ⟨?_, by rw [en]; exact h.nd, fun q hq => ?_, fun i q hq y hy => ?_⟩
    · have := congrArg List.length en
      rw [show (nms (Z.put ps x p)).length = (Z.put ps x p).length from List.length_map .., show (nms ps).length = ps.length from List.length_map ..] at this
      rw [this]; exact h.few
    · obtain ⟨i, hi⟩ := List.mem_iff_getElem?.mp hq
      rcases put_get hi with ⟨rfl, _⟩ | hi
      · exact ⟨hx, hp⟩
      · exact h.ok q (List.mem_of_getElem? hi)
    · rw [nms_take, en]
      rcases put_get hq with ⟨rfl, rfl⟩ | hi
      · exact hu y hy
      · rw [← nms_take]; exact h.use i q hi y hy
  · rw [put_not e]
    refine ⟨by rw [List.length_append]; have := hl e; simp; omega, by
      rw [nms_app]
      exact List.nodup_append.mpr ⟨h.nd, by simp [nms], fun a ha b hb => by
        obtain rfl := List.mem_singleton.mp hb
        exact fun z => e (by rw [← z]; exact ha)⟩, fun q hq => ?_, fun i q hq y hy => ?_⟩
    · rcases List.mem_append.mp hq with hq | hq
      · exact h.ok q hq
      · obtain rfl := List.mem_singleton.mp hq; exact ⟨hx, hp⟩
    · rw [List.getElem?_append] at hq
      split at hq
      · rename_i hi
        rw [List.take_append_of_le_length (Nat.le_of_lt hi)]
        exact h.use i q hq y hy
      · rename_i hi
        have hi2 : i = ps.length := by
          have := List.getElem?_eq_some_iff.mp hq
          obtain ⟨h1, _⟩ := this
          simp at h1
          omega
        subst hi2
        simp at hq
        subst hq
        rw [List.take_left]
        have := hu y hy
        unfold ahead at this
        exact List.mem_of_mem_take this
theorem PsOk.drop {ps : Ps} (h : PsOk ps) {x : Str} (hu : ∀ q ∈ ps, x ∉ pgU q.2) : PsOk (dl x ps) := by
  have key : ∀ (ps : Ps) (pre : List Str), (∀ q ∈ ps, x ∉ pgU q.2) → (∀ i q, ps[i]? = some q → ∀ y ∈ pgU q.2, y ∈ pre ++ nms (ps.take i)) → ∀ i q, (dl x ps)[i]? = some q → ∀ y ∈ pgU q.2, y ∈ pre ∨ y ∈ nms ((dl x ps).take i) := by
    intro ps
    induction ps with
    | nil => intro pre _ _ i q hq; simp [dl] at hq
    | cons p r ih =>
      intro pre hu hh i q hq y hy
      have r1 := fun q hq => hu q (List.mem_cons_of_mem _ hq)
      have r2 : ∀ i q, r[i]? = some q → ∀ y ∈ pgU q.2, y ∈ (pre ++ [p.1]) ++ nms (r.take i) := fun i q hi y hy => by
        have := hh (i + 1) q hi y hy
        rw [List.take_succ_cons] at this
        rw [List.append_assoc]
        exact this
      by_cases e : p.1 = x
      · have e1 : dl x (p :: r) = dl x r := List.filter_cons_of_neg (by simp [e])
        rw [e1] at hq ⊢
        rcases ih (pre ++ [p.1]) r1 r2 i q hq y hy with h | h
        · rcases List.mem_append.mp h with h | h
          · exact .inl h
          · obtain rfl := List.mem_singleton.mp h
            exfalso
            have hm : q ∈ dl x r := List.mem_of_getElem? hq
            exact r1 q (List.mem_filter.mp hm).1 (by rw [← e]; exact hy)
        · exact .inr h
      · have e1 : dl x (p :: r) = p :: dl x r := List.filter_cons_of_pos (by simp [e])
        rw [e1] at hq ⊢
        cases i with
        | zero =>
          cases hq
          have := hh 0 p rfl y hy
          simp [nms] at this
          exact .inl this
        | succ i =>
          rcases ih (pre ++ [p.1]) r1 r2 i q hq y hy with h | h
          · rcases List.mem_append.mp h with h | h
            · exact .inl h
            · obtain rfl := List.mem_singleton.mp h
              exact .inr (by rw [List.take_succ_cons]; exact List.mem_cons_self)
          · exact .inr (by rw [List.take_succ_cons]; exact List.mem_cons_of_mem _ h)
  refine ⟨Nat.le_trans (List.length_filter_le ..) h.few, ?_, fun q hq => h.ok q (List.mem_filter.mp hq).1, fun i q hq y hy => ?_⟩
  · exact List.Nodup.sublist (List.Sublist.map _ (List.filter_sublist)) h.nd
  · rcases key ps [] hu (fun i q hi y hy => by rw [List.nil_append]; exact h.use i q hi y hy) i q hq y hy with h | h
    · cases h
    · exact h
end Z
namespace Z
open PySem PySem.Spec PyProof.Rows L2

theorem two_map {α β γ : Type} {R : β → γ → Prop} {f : α → β} {g : α → γ} : ∀ {l : List α}, (∀ p ∈ l, R (f p) (g p)) → Two R (l.map f) (l.map g)
  | [], _ => .nil
  | a :: l, h => .cons (h a List.mem_cons_self) (two_map fun p hp => h p (List.mem_cons_of_mem _ hp))
theorem NameOk.st {x : Str} (h : NameOk x) : PyData.strOk x = true := strOk_of fun c hc => by have := h.2.2.2.2 c hc; omega
structure Bk where
  ps : Ps
  ts : Ts
  er : List Ps
  la : List Ps
  ml : List (Str × D)
  many : Nat
  gr : Int
structure Bd where
  b : Addr
  e : Addr
  l : Addr
  m : Addr
def Bd.has (A : Bd) (a : Addr) : Prop := a = A.b ∨ a = A.e ∨ a = A.l ∨ a = A.m
def keepM (ts' ts : Ts) (ml : List (Str × D)) : List (Str × D) := ml.filter fun q => (ts'.lookup q.1).isSome && decide (ts'.lookup q.1 = ts.lookup q.1)
def Bk.turn (S : Bk) (qs : Ps) (ts : Ts) : Bk := { S with ps := qs, ts := ts, ml := keepM ts S.ts S.ml }
end Z
namespace Z
open PySem PySem.Spec PyProof.Rows L2

def Bk.step (S : Bk) (qs : Ps) (ts : Ts) : Bk := { S.turn qs ts with er := S.er ++ [S.ps], la := [] }
end Z
namespace PySem.SeqAt
open AutoSeq1 (wpAny_loadPart')
open MeetsSeq MeetsSeq2 MeetsSeq3 SeqRoads2
variable {prog : Program} {w : World}
end PySem.SeqAt
namespace Z
open PySem PySem.Spec PyProof.Rows L2
section
variable {X : Cx} {B : Bs} {a b : Expr} {fa fb : DTE} {k : Nat} {pos : Pos}
end
end Z
namespace Z
open PySem PySem.Spec PyProof.Rows L2
end Z
namespace Z
open PySem PySem.Spec PyProof.Rows L2

section
variable {X : Cx} {B : Bs} {k j : Nat} {c : Ct} {pos : Pos} {a b : Expr} {fa fb : DTE} {C : Addr} {bs : List (Nat × List Str × (List D → List D → List D))}
end
section
variable {X : Cx} {B : Bs} {fa : DTE} {apos cpos : Pos}
end
end Z
namespace Z
open PySem PySem.Spec PyProof.Rows L2

def oD : Option T4 → D
  | none => .non
  | some t => tD t
section
variable {X : Cx}
end
section
variable {X : Cx} {B : Bs} {pos p : Pos} {e : Expr} {ga : DTA}
end
end Z
namespace Z
open PySem PySem.Spec PyProof.Rows L2

end Z
namespace Z
open PySem PySem.Spec PyProof.Rows L2
section
variable {X : Cx} {B : Bs} {a b : Expr} {fa fb : DTE} {k : Nat} {pos : Pos}
end
section
variable {X : Cx} {B : Bs} {a b : Expr} {fa fb : DTE} {k : Nat} {pos : Pos}
end
theorem HandAt.nn {M : Sto} {p : Addr} (h : HandAt M p) : M p ≠ none := by
  obtain ⟨x, e, _⟩ := h
  rw [e]
  exact fun z => by cases z
theorem HandAt.same {M M' : Sto} {p : Addr} (h : HandAt M p) (e : M' p = M p) : HandAt M' p := by
  obtain ⟨x, e1, b⟩ := h
  exact ⟨x, e.trans e1, b⟩
end Z
namespace Z
open PySem PySem.Spec PyProof.Rows L2

section
variable {X : Cx} {B : Bs} {pos p : Pos} {e : Expr} {ga : DTA}
end
end Z
namespace Z
open PySem PySem.Spec PyProof.Rows L2

section
variable {M M' : Sto} {p t : Addr} {q : Str} {A A' : Bd} {ap af : Addr} {la lf : List D} {sp : Addr} {sd : List (D × D)}
end
def g4 (ts : Ts) : D → D
  | .str x => .tup [.str x, oD (ts.lookup x)]
  | d => d
section
variable {M0 M : Sto} {C CT CM p t : Addr} {q : Str} {A : Bd} {S : Bk} {ap af sp : Addr} {tsO : Ts} {mlO : List (Str × D)}
end
end Z
namespace Z
open PySem PySem.Spec PyProof.Rows L2

def LP : Pg := .trn "L"
def RP : Pg := .trn "R"
def ms4 : Ps := [("e", LP), ("c", RP), ("d", .use "e")]
end Z
namespace Z
open PySem PySem.Spec PyProof.Rows L2

theorem nms_put {α : Type} (x : Str) (a : α) : ∀ ps : List (Str × α), nms (Z.put ps x a) = if x ∈ nms ps then nms ps else nms ps ++ [x]
  | [] => by simp [Z.put, nms]
  | q :: r => by
    rw [Z.put]
    by_cases e : q.1 = x
    · rw [if_pos e, if_pos (by simp [nms, e])]
      simp [nms, e]
    · rw [if_neg e]
      show q.1 :: nms (Z.put r x a) = _
      rw [nms_put x a r]
      by_cases h : x ∈ nms r
      · rw [if_pos h, if_pos (by simp only [nms, List.map_cons, List.mem_cons]; exact .inr h)]
        rfl
      · rw [if_neg h, if_neg (by
          simp only [nms, List.map_cons, List.mem_cons, not_or]
          exact ⟨fun z => e z.symm, h⟩)]
        rfl
section
variable {M0 M M' : Sto} {p C CT : Addr} {A A' : Bd} {S : Bk}
end
end Z
namespace Z
open PySem PySem.Spec PyProof.Rows L2
section
variable {X : Cx} {B : Bs} {pos p : Pos} {a : Expr} {ga : DTA}
end
end Z
namespace Z
open PySem PySem.Spec PyProof.Rows L2
section
variable {M0 M M' : Sto} {C CT : Addr} {A0 G0 A G A' G' : Bd} {S T S' T' : Bk}
end
section
variable {M M' : Sto} {C CT p P : Addr} {q : Str} {l : List (Bd × Bk)} {pb : Addr} {n : Nat}
end
section
variable {M M' : Sto} {C CT pb : Addr} {L : List D} {Az : Bd} {Sz : Bk} {b0 : Addr} {A A' : Bd} {S S' : Bk} {i j : Nat}
end
end Z
namespace Z
open PySem PySem.Spec PyProof.Rows L2
section
variable {X : Cx} {B : Bs} {pos p p1 p2 p3 : Pos} {e e2 o : Expr} {es : List Expr} {fa fo : DTE} {ga : DTA} {k : Nat}
end
end Z
namespace Z
open PySem PySem.Spec PyProof.Rows L2
def Fp (t : T4) (p : Pg) : Prop := pgU p = [] ∧ ∀ g, tbl g p = some t
structure G3 (L : List Str) (f : Str → T4) (ps : Ps) : Prop where
  nm : (nms ps).Perm L
  pg : ∀ q ∈ ps, Fp (f q.1) q.2
theorem fp_tbA {f : Str → T4} : ∀ {ps : Ps}, (∀ q ∈ ps, Fp (f q.1) q.2) → ∀ acc : Ts, tbsA acc ps = some (acc ++ ps.map fun q => (q.1, f q.1))
  | [], _, acc => by rw [tbsA]; simp
  | q :: r, h, acc => by
    rw [tbsA, (h q List.mem_cons_self).2]
    dsimp only
    rw [fp_tbA (fun z hz => h z (List.mem_cons_of_mem _ hz)), List.append_assoc]
    rfl
theorem lk_mapf {f : Str → T4} {x : Str} : ∀ {ps : Ps}, x ∈ nms ps → List.lookup x (ps.map fun q => (q.1, f q.1)) = some (f x)
  | [], h => by cases h
  | q :: r, h => by
    rw [List.map_cons, List.lookup_cons]
    by_cases e : x = q.1
    · rw [e]; simp
    · rw [show (x == q.1) = false from by simpa using e]
      exact lk_mapf ((List.mem_cons.mp h).resolve_left e)
theorem mem_putN {α : Type} {x : Str} {p : α} : ∀ {ps : List (Str × α)} {q : Str × α}, (nms ps).Nodup → q ∈ put ps x p → q = (x, p) ∨ (q ∈ ps ∧ q.1 ≠ x)
  | [], q, _, h => by rw [put, List.mem_singleton] at h; exact .inl h
  | a :: r, q, nd, h => by
    have nd : (a.1 :: nms r).Nodup := nd
    obtain ⟨n1, n2⟩ := List.nodup_cons.mp nd
    rw [put] at h
    by_cases e : a.1 = x
    · rw [if_pos e] at h
      rcases List.mem_cons.mp h with h | h
      · exact .inl h
      · exact .inr ⟨List.mem_cons_of_mem _ h, fun z => n1 (by rw [e, ← z]; exact mem_nms h)⟩
    · rw [if_neg e] at h
      rcases List.mem_cons.mp h with rfl | h
      · exact .inr ⟨List.mem_cons_self, e⟩
      · rcases mem_putN n2 h with h | ⟨h, h2⟩
        · exact .inl h
        · exact .inr ⟨List.mem_cons_of_mem _ h, h2⟩
section
variable {L : List Str} {f : Str → T4} {ps : Ps} {x y : Str} {p : Pg} {t : T4} {lim : Int}
theorem G3.tb (h : G3 L f ps) : tbs ps = some (ps.map fun q => (q.1, f q.1)) := fp_tbA h.pg []
theorem G3.nd (h : G3 L f ps) (n : L.Nodup) : (nms ps).Nodup := h.nm.nodup_iff.mpr n
theorem G3.mem (h : G3 L f ps) : x ∈ nms ps ↔ x ∈ L := h.nm.mem_iff
theorem G3.lk (h : G3 L f ps) (hx : x ∈ L) : List.lookup x (ps.map fun q => (q.1, f q.1)) = some (f x) := lk_mapf (h.mem.mpr hx)
def upN (f : Str → T4) (x : Str) (t : T4) : Str → T4 := fun n => if n = x then t else f n
theorem put_pg (n : (nms ps).Nodup) (h : ∀ q ∈ ps, Fp (f q.1) q.2) (hp : Fp t p) : ∀ q ∈ put ps x p, Fp (upN f x t q.1) q.2 := fun q hq => by
  unfold upN
  rcases mem_putN n hq with rfl | ⟨hq, e⟩
  · rw [if_pos rfl]; exact hp
  · rw [if_neg e]; exact h q hq
theorem G3.set (h : G3 L f ps) (n : L.Nodup) (hx : x ∈ L) (hp : Fp t p) : G3 L (upN f x t) (put ps x p) :=
  ⟨by rw [nms_put, if_pos (h.mem.mpr hx)]; exact h.nm, put_pg (h.nd n) h.pg hp⟩
theorem nms_dl : nms (dl x ps) = (nms ps).filter fun n => decide (n ≠ x) := by unfold nms dl; rw [List.filter_map]; rfl
theorem G3.drop (h : G3 L f ps) : G3 (L.filter fun n => decide (n ≠ x)) f (dl x ps) :=
  ⟨by rw [nms_dl]; exact h.nm.filter _, fun q hq => h.pg q (List.mem_filter.mp hq).1⟩
end
def TA (n : Int) : Pg := .tab (n, 0, 0, 1)
def tC (n : Int) : Str := ⟨([91, 49, 32, 48, 59, 32, 48, 32] ++ decC n ++ [93]).toArray⟩
section
variable {x y z : Str} {a b : Int} {ps : Ps}
theorem G3.len {L : List Str} {f : Str → T4} (h : G3 L f ps) : ps.length = L.length := by rw [← h.nm.length_eq]; exact (List.length_map ..).symm
end
end Z
namespace Z
open PySem PySem.Spec PyProof.Rows L2
section
variable {M M' : Sto} {p C CT : Addr} {A A' : Bd} {S S' : Bk} {i : Nat}
end
section
variable {M M' : Sto} {p P C CT : Addr} {q : Str} {A A' : Bd} {S S' : Bk}
end
section
variable {M M' : Sto} {p P C CT CM : Addr} {q x y z : Str} {a b : Int} {b0 : Addr} {A A' : Bd} {S S' : Bk} {L : List Str} {n : Nat}
end
end Z
namespace Z
open PySem PySem.Spec PyProof.Rows L2
section
variable {prog : Program} {w : World} {A : Around} {E : Value → Shared → Prop} {s : Shared}
end
section
variable {X : Cx} {B : Bs} {pos p : Pos} {e e2 : Expr} {es : List Expr}
end
section
variable {K : PySem.W.Frag}
end
theorem PsOk.take {ps : Ps} (ok : PsOk ps) (i : Nat) : PsOk (ps.take i) where
  few := by rw [List.length_take]; have := ok.few; omega
  nd := by rw [nms_take]; exact ok.nd.sublist (List.take_sublist _ _)
  ok := fun q h => ok.ok q (List.mem_of_mem_take h)
  use := fun j q h x hx => by
    have hj : j < i := by
      have := (List.getElem?_eq_some_iff.mp h).1
      rw [List.length_take] at this
      omega
    rw [List.getElem?_take_of_lt hj] at h
    rw [List.take_take, Nat.min_eq_left (by omega)]
    exact ok.use j q h x hx
theorem G3.ok {L : List Str} {f : Str → T4} {ps : Ps} (h : G3 L f ps) (n : L.Nodup) (few : ps.length ≤ 30) (ok : ∀ q ∈ ps, NameOk q.1 ∧ PgOk q.2 ∧ pgK q.2 ≤ 8 ∧ pgN q.2 ≤ 5000) : PsOk ps :=
  ⟨few, h.nd n, ok, fun i q hq x hx => by
    rw [(h.pg q (List.mem_of_getElem? hq)).1] at hx
    cases hx⟩
end Z
namespace Z
open PySem PySem.Spec PyProof.Rows L2
def fm : Nat → Str → Pg
  | 0, x => .tms 1 (.use x)
  | 1, x => .thn [.swp, .use x]
  | _, x => .thn [.use x, .trn "L"]
section
variable {M0 M M' : Sto} {p C CT CM b0 : Addr} {A A' : Bd} {S S' : Bk} {ps ps' : Ps}
end
end Z
namespace Z
open PySem PySem.Spec PyProof.Rows L2
structure FR where
  a : Addr
  q : Addr
  st : Fst
  past : List Fst
def FR.has (x : FR) (b : Addr) : Prop := b = x.a ∨ b = x.q
section
variable {M M' : Sto} {C : Addr} {mi : D} {l : List T4} {pf ph : Addr} {F : List FR} {i : Nat} {x y : FR}
end
section
variable {M M' : Sto} {p P P2 C : Addr} {mi : D} {l : List T4} {pf ph : Addr} {F : List FR} {i k : Nat} {x y : FR}
end
end Z
namespace Z
open PySem PySem.Spec PyProof.Rows L2
end Z
namespace Z
open PySem PySem.Spec PyProof.Rows L2
end Z
namespace Z
open PySem PySem.Spec PyProof.Rows L2
def rt (m : T4) : T3 := (m.1 - m.2.2.2, 2 * m.2.2.1, (m.1 - m.2.2.2) * (m.1 - m.2.2.2) + 4 * m.2.1 * m.2.2.1)
end Z
namespace Z
open PySem PySem.Spec PyProof.Rows L2
end Z
namespace Z
open PySem PySem.Spec PyProof.Rows L2
end Z
namespace Z
open PySem PySem.Spec PyProof.Rows L2
end Z
namespace Z
open PySem PySem.Spec PyProof.Rows L2
noncomputable def nv (v : Int × Int) : Option T3 := if v.2 = 0 then none else some (nf v.1 v.2 0)
def ec (c : Nat) : Int × Int := if c = 82 then (1, 0) else (0, 1)
end Z
namespace Z
open PySem PySem.Spec PyProof.Rows L2
section
variable {n : Nat} {t u : T4} {w a r x y a' r' x' y' : List Nat}
end
end Z
namespace Z
open PySem PySem.Spec PyProof.Rows L2
section
variable {X : Cx} {B : Bs} {Ξ : XD → En → Sto → Prop} {k : Nat} {f : Addr} {fd : FuncData} {ps : List Str} {c : Ct}
end
section
variable {X : Cx} {B : Bs} {Ξ : XD → En → Sto → Prop} {C : Addr} {j k n : Nat} {c : Ct} {bs : List (Nat × List Str × (List D → List D → List D))} {g : List D → List D → List D} {o e : Expr} {es : List Expr} {fo : DTE} {ga : DTA} {pos : Pos}
end
section
variable {X : Cx} {B : Bs} {pos : Pos}
end
section
variable {prog : Program} {w : World} {A : Around} {E : Value → Shared → Prop} {s : Shared}
end
section
variable {X : Cx} {B : Bs} {pos : Pos}
end
section
variable {f : DPat} {g' : DPats} {is : List Nat} {g : DTS} {h : D → DTS} {E : Ek} {r : En} {M : Sto} {l : List D} {d : D} {n k : Nat} {i j : Str}
end
end Z
namespace Z
open PySem PySem.Spec PyProof.Rows L2
end Z
namespace Z
open PySem PySem.Spec PyProof.Rows L2
section
variable {M M' : Sto} {p : Addr} {A A' : Bd} {cs cs' : List (Addr × Cell)}
end
section
variable {C CT : Addr} {A : Bd} {S : Bk}
end
section
variable {M M' : Sto} {p C CT CD : Addr} {A : Bd} {S : Bk} {er la : List Ps} {x0 x1 : List (Str × Str)} {af ap g1 g0 q1 o1 q0 o0 : Addr} {i : Nat}
end
end Z
namespace Z
open PySem PySem.Spec PyProof.Rows L2
end Z
namespace PySem
namespace ZX
open Builtin Builtin.ObjectAttr PySem.HandSPX
section
variable {M : Model} {A : Around} {E : Value → Shared → Prop} {h : Heap} {g : Array GenState} {d : Drawn} {t : Nat} {os : OsState}
variable {nm q : Str} {C N : Addr} {bs bm bmB : List Value} {hdct : Bool} {sn : List Str} {sub : List Value} {ab : Bool} {col : Option Bool} {dd : Option Addr} {k0 k1 k2 k3 k5 : Option Value} {B newId initId : String}
end
section
variable {prog : Program} {w : World} {A : Around} {E : Value → Shared → Prop} {R : Result → Shared → Prop} {h : Heap} {g : Array GenState} {d : Drawn} {t : Nat} {os : OsState}
variable {nm q : Str} {C N : Addr} {bs bm bmB : List Value} {hdct : Bool} {sn : List Str} {sub : List Value} {ab : Bool} {col : Option Bool} {dd : Option Addr} {k0 k1 k2 k3 k5 : Option Value} {B newId initId : String}
end
end ZX
end PySem

namespace Z
open PySem PySem.Spec PyProof.Rows L2

section
variable {X : Cx} {B : Bs} {Ξ : XD → En → Sto → Prop} {pos p : Pos} {e : Expr} {es : List Expr} {ga : DTA} {fa : DTE} {k n : Nat} {x : Str} {C : Addr} {g : List V → List (Str × V)}
end
section
variable {K : PySem.W.Frag} {d : D} {p : Str × Option Str} {φ : D → Prop}
end
end Z
namespace Z
open PySem PySem.Spec PyProof.Rows L2

section
variable {CX : CXT} {P : Program} {w : World} {K : PySem.W.Frag} {mg : Str → Option Value} {base : Heap} {N ps : List Str} {qual : Str} {scope : Scope} {f cda cc : Addr} {A : Around} {outer : List Env} {s : Shared} {H : Hp} {E : XK} {us : List Value} {vs : List V}
end
section
variable {X : Cx} {B : Bs} {Ξ : XD → En → Sto → Prop} {k j n : Nat} {c : Ct} {pos apos p0 p1 : Pos} {e : Expr} {es : List Expr} {ga : DTA} {f cda cc CD : Addr} {m self : Str} {g : List D → List D → List D} {bs : List (Nat × List Str × (List D → List D → List D))} {body : List Stmt}
end
section
variable {CX : CXT} {P : Program} {w : World} {K : PySem.W.Frag} {mg : Str → Option Value} {base : Heap} {N ps : List Str} {qual : Str} {scope : Scope} {f cda cc C : Addr} {A : Around} {outer : List Env} {s : Shared} {H : Hp} {E : XK}
  {B : Bs} {Ξ : XD → En → Sto → Prop} {k j n : Nat} {c : Ct} {pos apos p0 p1 ep : Pos} {e : Expr} {es : List Expr} {ga : DTA} {self : Str} {g : List D → List D → List D} {bs : List (Nat × List Str × (List D → List D → List D))} {body0 rest : List Stmt} {t : DTS}
end
section
variable {P : Program} {w : World} {K : PySem.W.Frag} {mg : Str → Option Value} {base : Heap} {qual : Str} {st : Stmt} {fd : FuncData} {N ps : List Str} {k : Nat} {x par file self nm : Str}
end
section
variable {K : PySem.W.Frag} {x qual : Str} {st : Stmt} {f : Addr} {fd : FuncData} {ps : List Str}
end
section
variable {X : Cx} {B : Bs} {e : Expr}
end
end Z
namespace Z
open PySem PySem.Spec PyProof.Rows L2

abbrev OK := List (Option Int)
abbrev KX (bs : List (Addr × OK)) : List (OK × V) → List (OK × Addr × Value) → Prop := Paired fun p q => p.1 = q.1 ∧ (q.2.1, q.1) ∈ bs ∧ RelV p.2 q.2.2
section
variable {bs bs' : List (Addr × OK)} {kvs : List (OK × V)} {xs : List (OK × Addr × Value)}
theorem KX.val (r : KX bs kvs xs) (k : OK) : RelO (valV kvs k) ((atKey xs k).map (·.2)) := by
  induction r with
  | nil => exact True.intro
  | @cons p q ps qs h t ih =>
    obtain ⟨h1, _, h2⟩ := h
    by_cases e : p.1 = k
    · have e' : q.1 = k := h1.symm.trans e
      have b : atKey (q :: qs) k = some q.2 := by simp [atKey, List.find?_cons, e']
      rw [valV_pos e, b]; exact h2
    · have e' : ¬ q.1 = k := fun z => e (h1.trans z)
      have b : atKey (q :: qs) k = atKey qs k := by simp [atKey, List.find?_cons, e']
      rw [valV_neg e, b]; exact ih
theorem KX.more (r : KX bs kvs xs) (h : ∀ p ∈ bs, p ∈ bs') : KX bs' kvs xs := Paired.mapP r fun _ _ z => ⟨z.1, h _ z.2.1, z.2.2⟩
theorem KX.repl (r : KX bs kvs xs) (k : OK) {y : V} {u : Value} (ry : RelV y u) : KX bs (kvs.map fun kv => if kv.1 = k then (kv.1, y) else kv) (xs.map (putAt k u)) := by
  induction r with
  | nil => exact .nil
  | @cons p q ps qs h t ih =>
    rw [List.map_cons, List.map_cons]
    refine .cons ?_ ih
    obtain ⟨h1, h2, h3⟩ := h
    unfold putAt
    by_cases e : p.1 = k
    · rw [if_pos e, if_pos (h1.symm.trans e)]; exact ⟨h1, h2, ry⟩
    · rw [if_neg e, if_neg (fun z => e (h1.trans z))]; exact ⟨h1, h2, h3⟩
theorem KX.put (r : KX bs kvs xs) (k : OK) {b : Addr} {y : V} {u : Value} (ry : RelV y u) : KX ((b, k) :: bs) (putK kvs k y) (storedH xs k b u) := by
  have e : (kvs.any fun kv => decide (kv.1 = k)) = (atKey xs k).isSome := by
    have z := (r.val k).isSome_eq
    rw [valV_any, z, Option.isSome_map]
  have r' := r.more (bs' := (b, k) :: bs) fun p hp => List.mem_cons_of_mem _ hp
  unfold putK storedH
  rw [e]
  by_cases q : (atKey xs k).isSome = true
  · rw [if_pos q, if_pos q]; exact r'.repl k ry
  · rw [if_neg q, if_neg q]; exact Paired.snoc r' ⟨rfl, List.mem_cons_self, ry⟩
end
section
variable {P : Program} {w : World} {H H' : Hp} {h : Heap} {a b : Addr} {kvs : List (OK × V)} {bs : List (Addr × OK)} {k : OK}
end
section
variable {X : Cx} {pins : List (Addr × Obj)} {σ : L2.St} {H : Hp} {s : Shared} {a : Addr} {y v : V} {u r : Value} {o : Option V} {A : Around} {E : Value → Shared → Prop}
end
section
variable {X : Cx} {o i e value : Expr} {pos pos' tpos : Pos} {td ty tv : TE}
end
section
variable {K : PySem.W.Frag} {M : Sto} {H G : Hp} {x y d : D} {v u t : V}
end
section
variable {X : Cx} {B : Bs} {pos p3 : Pos} {a b : Expr} {fa fb fc : DTE} {k : Nat}
end
end Z
namespace Z

section
variable {ν κ : Type}
def runO (nx : ν → Nat → Option ν) : Option ν → List Nat → Option ν
  | o, [] => o
  | o, t :: w => runO nx (o.bind fun x => nx x t) w
theorem runO_none (nx : ν → Nat → Option ν) : ∀ w, runO nx none w = none
  | [] => rfl
  | _ :: w => runO_none nx w
theorem runO_app (nx : ν → Nat → Option ν) : ∀ (u w : List Nat) (o : Option ν), runO nx o (u ++ w) = runO nx (runO nx o u) w
  | [], _, _ => rfl
  | _ :: u, w, _ => runO_app nx u w _
theorem runO_pre {nx : ν → Nat → Option ν} {o : Option ν} {u w : List Nat} (h : runO nx o (u ++ w) ≠ none) : runO nx o u ≠ none := fun e => h (by rw [runO_app, e, runO_none])
def Lives (nx : ν → Nat → Option ν) (o : Option ν) (n : Nat) : Prop := ∃ w, LR w ∧ w.length = n ∧ runO nx o w ≠ none
def Alive (nx : ν → Nat → Option ν) (o : Option ν) : Prop := ∀ n, Lives nx o n
theorem Lives.mono {nx : ν → Nat → Option ν} {o : Option ν} {n m : Nat} (h : Lives nx o n) (l : m ≤ n) : Lives nx o m := by
  obtain ⟨w, a, b, c⟩ := h
  refine ⟨w.take m, fun z hz => a z (List.mem_of_mem_take hz), by rw [List.length_take]; omega, ?_⟩
  have e : w = w.take m ++ w.drop m := (List.take_append_drop m w).symm
  rw [e] at c
  exact runO_pre c
theorem lives_none {nx : ν → Nat → Option ν} {n : Nat} : ¬ Lives nx none n := fun ⟨w, _, _, h⟩ => h (runO_none nx w)
end
abbrev Hst := List (Option Nat × Option Nat)
def hnx (S : Hst) (i : Nat) (t : Nat) : Option Nat := (S[i]?).bind fun p => if t = 76 then p.1 else p.2
def hgo (S : Hst) (o : Option Nat) (w : List Nat) : Option Nat := runO (hnx S) o w
def hsq (S : Hst) (q : Nat) : Option Nat := (S[q / 2]?).bind fun p => if q % 2 = 0 then p.1 else p.2
theorem hsq_l (S : Hst) (i : Nat) : hsq S (2 * i) = hnx S i 76 := by
  unfold hsq hnx
  rw [show 2 * i / 2 = i by omega, show 2 * i % 2 = 0 by omega]
  rfl
theorem hsq_r (S : Hst) (i : Nat) : hsq S (2 * i + 1) = hnx S i 82 := by
  unfold hsq hnx
  rw [show (2 * i + 1) / 2 = i by omega, show (2 * i + 1) % 2 = 1 by omega]
  rfl

section
variable {ν κ : Type} [DecidableEq κ]
def insB (ke : ν → κ) (line : List ν) (y : ν) : List ν := if ke y ∈ line.map ke then line else line ++ [y]
def posB (ke : ν → κ) (line : List ν) (y : ν) : Nat := (line.map ke).idxOf (ke y)
structure Born (n : Nat) (S : Hst) (b : Nat → Nat) : Prop where
  mono : ∀ u v, 0 < u → u < v → v < n → b u < b v
  at_ : ∀ v, 0 < v → v < n → hsq S (b v) = some v ∧ b v < 2 * v
  first : ∀ q v, hsq S q = some v → 0 < v → b v ≤ q
theorem insB_pre (ke : ν → κ) (line : List ν) (y : ν) {i : Nat} {x : ν} (h : line[i]? = some x) : (insB ke line y)[i]? = some x := by
  unfold insB
  split
  · exact h
  · rw [List.getElem?_append_left (List.getElem?_eq_some_iff.mp h).1]; exact h
theorem posB_at (ke : ν → κ) (line : List ν) (y : ν) : ∃ z, (insB ke line y)[posB ke line y]? = some z ∧ ke z = ke y := by
  unfold insB posB
  split
  · rename_i h
    have l := List.idxOf_lt_length_of_mem h
    have e := List.getElem_idxOf l
    rw [List.getElem_map] at e
    rw [List.length_map] at l
    exact ⟨line[(line.map ke).idxOf (ke y)], List.getElem?_eq_getElem l, e⟩
  · rename_i h
    have e : (line.map ke).idxOf (ke y) = line.length := by rw [List.idxOf_eq_length h, List.length_map]
    rw [e]
    exact ⟨y, by simp, rfl⟩
theorem insB_nd {ke : ν → κ} {line : List ν} (y : ν) (h : (line.map ke).Nodup) : ((insB ke line y).map ke).Nodup := by
  unfold insB
  split
  · exact h
  · rename_i hn
    rw [List.map_append, List.nodup_append]
    refine ⟨h, by simp, fun a ha b hb => ?_⟩
    simp only [List.map_cons, List.map_nil, List.mem_singleton] at hb
    rintro rfl
    exact hn (hb ▸ ha)
theorem hsq_out {S : Hst} {q : Nat} (h : 2 * S.length ≤ q) : hsq S q = none := by
  unfold hsq
  rw [List.getElem?_eq_none (by omega)]
  rfl
end
end Z
namespace Z
structure Hm (S : Hst) (P : List Nat → Prop) : Prop where
  lang : ∀ w, LR w → ((S ≠ [] ∧ hgo S (some 0) w ≠ none) ↔ P w)
  ok : ∀ i t j, hnx S i t = some j → j < S.length
  rc : ∀ i, i < S.length → ∃ w, LR w ∧ hgo S (some 0) w = some i
  mn : ∀ i j, i < S.length → j < S.length → (∀ w, LR w → (hgo S (some i) w ≠ none ↔ hgo S (some j) w ≠ none)) → i = j
  bn : ∃ b, Born S.length S b
theorem lr_snoc {w : List Nat} {t : Nat} (h : LR w) (ht : t = 76 ∨ t = 82) : LR (w ++ [t]) := fun c hc => by
  rcases List.mem_append.mp hc with hc | hc
  · exact h c hc
  · rw [List.mem_singleton.mp hc]; exact ht
theorem lr_app {u w : List Nat} (h : LR u) (h' : LR w) : LR (u ++ w) := fun c hc => (List.mem_append.mp hc).elim (h c) (h' c)
theorem hgo_app (S : Hst) (o : Option Nat) (u w : List Nat) : hgo S o (u ++ w) = hgo S (hgo S o u) w := runO_app _ u w o
theorem hgo_one (S : Hst) (i t : Nat) : hgo S (some i) [t] = hnx S i t := rfl
theorem hsq_of (S : Hst) (q : Nat) : ∃ i t, (t = 76 ∨ t = 82) ∧ hsq S q = hnx S i t ∧ i = q / 2 ∧ ∀ S' : Hst, hsq S' q = hnx S' i t := by
  by_cases e : q % 2 = 0
  · refine ⟨q / 2, 76, .inl rfl, ?_, rfl, fun S' => ?_⟩
    · have := hsq_l S (q / 2); rw [show 2 * (q / 2) = q by omega] at this; exact this
    · have := hsq_l S' (q / 2); rw [show 2 * (q / 2) = q by omega] at this; exact this
  · refine ⟨q / 2, 82, .inr rfl, ?_, rfl, fun S' => ?_⟩
    · have := hsq_r S (q / 2); rw [show 2 * (q / 2) + 1 = q by omega] at this; exact this
    · have := hsq_r S' (q / 2); rw [show 2 * (q / 2) + 1 = q by omega] at this; exact this
def HR (S S' : Hst) (i j : Nat) : Prop := ∃ w, LR w ∧ hgo S (some 0) w = some i ∧ hgo S' (some 0) w = some j
section
variable {S S' : Hst} {P : List Nat → Prop}
theorem HR.sw {i j : Nat} (h : HR S S' i j) : HR S' S j i := let ⟨w, a, b, c⟩ := h; ⟨w, a, c, b⟩
theorem HR.same (h : Hm S P) (h' : Hm S' P) (n : S ≠ []) (n' : S' ≠ []) {i j : Nat} (r : HR S S' i j) (u : List Nat) (hu : LR u) : hgo S (some i) u ≠ none ↔ hgo S' (some j) u ≠ none := by
  obtain ⟨w, a, b, c⟩ := r
  have e1 := h.lang (w ++ u) (lr_app a hu)
  have e2 := h'.lang (w ++ u) (lr_app a hu)
  rw [hgo_app, b] at e1
  rw [hgo_app, c] at e2
  constructor
  · intro z; exact (e2.mpr (e1.mp ⟨n, z⟩)).2
  · intro z; exact (e1.mpr (e2.mp ⟨n', z⟩)).2
theorem lt_hgo (h : Hm S P) (n : S ≠ []) {w : List Nat} {i : Nat} (e : hgo S (some 0) w = some i) : i < S.length := by
  have gen : ∀ (w : List Nat) (j : Nat), j < S.length → hgo S (some j) w = some i → i < S.length := by
    intro w
    induction w with
    | nil => intro j hj e; cases e; exact hj
    | cons t w ih =>
      intro j hj e
      have e : runO (hnx S) (hnx S j t) w = some i := e
      cases k : hnx S j t with
      | none => rw [k, runO_none] at e; cases e
      | some u => rw [k] at e; exact ih u (h.ok _ _ _ k) e
  exact gen w 0 (List.length_pos_iff.mpr n) e
theorem HR.inj (h : Hm S P) (h' : Hm S' P) (n : S ≠ []) (n' : S' ≠ []) {i j j' : Nat} (r : HR S S' i j) (r' : HR S S' i j') : j = j' := by
  refine h'.mn j j' ?_ ?_ fun u hu => ?_
  · obtain ⟨_, _, _, c⟩ := r; exact lt_hgo h' n' c
  · obtain ⟨_, _, _, c⟩ := r'; exact lt_hgo h' n' c
  · exact (r.same h h' n n' u hu).symm.trans (r'.same h h' n n' u hu)
theorem HR.next {i t v v' : Nat} (r : HR S S' i i) (ht : t = 76 ∨ t = 82) (e : hnx S i t = some v) (e' : hnx S' i t = some v') : HR S S' v v' := by
  obtain ⟨w, a, b, c⟩ := r
  exact ⟨w ++ [t], lr_snoc a ht, by rw [hgo_app, b]; exact e, by rw [hgo_app, c]; exact e'⟩
theorem hr_born {b : Nat → Nat} {n : Nat} (B : Born n S b) {q : Nat} (hq : ∀ q' < q, hsq S q' = hsq S' q') : ∀ v, v < n → (v = 0 ∨ b v < q) → HR S S' v v := by
  intro v
  induction v using Nat.strongRecOn with
  | ind v ih =>
    intro hv hb
    by_cases v0 : v = 0
    · subst v0; exact ⟨[], (fun _ h => nomatch h), rfl, rfl⟩
    · have bq : b v < q := hb.resolve_left v0
      obtain ⟨e, l⟩ := B.at_ v (by omega) hv
      obtain ⟨i, t, ht, e1, e2, e3⟩ := hsq_of S (b v)
      have ri : HR S S' i i := ih i (by omega) (by omega) (by
        by_cases i0 : i = 0
        · exact .inl i0
        · refine .inr ?_
          have := (B.at_ i (by omega) (by omega)).2
          omega)
      refine ri.next ht (e1.symm.trans e) ?_
      rw [← e3 S', ← hq _ bq]
      exact e
theorem Hm.seq (h : Hm S P) (h' : Hm S' P) (n : S ≠ []) (n' : S' ≠ []) : ∀ q, hsq S q = hsq S' q := by
  obtain ⟨b, B⟩ := h.bn
  obtain ⟨b', B'⟩ := h'.bn
  intro q
  induction q using Nat.strongRecOn with
  | ind q ih =>
    obtain ⟨i, t, ht, e1, ei, e3⟩ := hsq_of S q
    have e1' := e3 S'
    have ih' : ∀ q' < q, hsq S' q' = hsq S q' := fun q' hq => (ih q' hq).symm
    by_cases out : ¬ i < S.length ∧ ¬ i < S'.length
    · rw [hsq_out (by omega), hsq_out (by omega)]
    have ri : HR S S' i i := by
      by_cases c : i < S.length
      · refine hr_born B ih i c ?_
        by_cases i0 : i = 0
        · exact .inl i0
        · have := (B.at_ i (by omega) c).2
          exact .inr (by omega)
      · have c' : i < S'.length := by omega
        refine (hr_born B' ih' i c' ?_).sw
        by_cases i0 : i = 0
        · exact .inl i0
        · have := (B'.at_ i (by omega) c').2
          exact .inr (by omega)
    have sm := ri.same h h' n n' [t] (fun c hc => by rw [List.mem_singleton.mp hc]; exact ht)
    rw [hgo_one, hgo_one] at sm
    cases k : hnx S i t with
    | none =>
      cases k' : hnx S' i t with
      | none => rw [e1, e1', k, k']
      | some v' => rw [k, k'] at sm; exact absurd (sm.mpr (fun z => nomatch z)) (fun z => z rfl)
    | some v =>
      cases k' : hnx S' i t with
      | none => rw [k, k'] at sm; exact absurd (sm.mp (fun z => nomatch z)) (fun z => z rfl)
      | some v' =>
        have rv := ri.next ht k k'
        have lv := h.ok _ _ _ k
        have lv' := h'.ok _ _ _ k'
        have hq : hsq S q = some v := e1.trans k
        have hq' : hsq S' q = some v' := e1'.trans k'
        suffices z : v = v' by rw [hq, hq', z]
        have A : (v = 0 ∨ b v < q) → v = v' := fun z => (hr_born B ih v lv z).inj h h' n n' rv
        have A' : (v' = 0 ∨ b' v' < q) → v = v' := fun z => ((hr_born B' ih' v' lv' z).inj h' h n' n rv.sw).symm
        by_cases v0 : v = 0
        · exact A (.inl v0)
        by_cases v0' : v' = 0
        · exact A' (.inl v0')
        have f := B.first q v hq (by omega)
        have f' := B'.first q v' hq' (by omega)
        by_cases c : b v < q
        · exact A (.inr c)
        by_cases c' : b' v' < q
        · exact A' (.inr c')
        rcases Nat.lt_trichotomy v v' with z | z | z
        · exfalso
          have m := B'.mono v v' (by omega) z lv'
          have a := (B'.at_ v (by omega) (by omega)).1
          rw [← ih _ (by omega)] at a
          have := B.first _ v a (by omega)
          omega
        · exact z
        · exfalso
          have m := B.mono v' v (by omega) z lv
          have a := (B.at_ v' (by omega) (by omega)).1
          rw [ih _ (by omega)] at a
          have := B'.first _ v' a (by omega)
          omega
theorem Hm.nil (h : Hm S P) : S = [] ↔ ¬ P [] := by
  have := h.lang [] (fun _ h => nomatch h)
  rw [← this]
  constructor
  · intro e z; exact z.1 e
  · intro z
    apply Classical.byContradiction
    intro k
    exact z ⟨k, fun e => nomatch e⟩
theorem hsq_ext (h : ∀ q, hsq S q = hsq S' q) (l : S.length = S'.length) : S = S' := by
  refine List.ext_getElem? fun i => ?_
  by_cases c : i < S.length
  · have c' : i < S'.length := by omega
    have a := h (2 * i)
    have a' := h (2 * i + 1)
    rw [hsq_l, hsq_l] at a
    rw [hsq_r, hsq_r] at a'
    unfold hnx at a a'
    rw [List.getElem?_eq_getElem c, List.getElem?_eq_getElem c'] at *
    have a : (S[i]).1 = (S'[i]).1 := a
    have a' : (S[i]).2 = (S'[i]).2 := a'
    rw [Prod.ext a a']
  · rw [List.getElem?_eq_none (by omega), List.getElem?_eq_none (by omega)]
theorem Hm.len_le (h : Hm S P) (h' : Hm S' P) (n : S ≠ []) (hq : ∀ q, hsq S q = hsq S' q) : S'.length ≤ S.length := by
  apply Classical.byContradiction
  intro z
  obtain ⟨b', B'⟩ := h'.bn
  have hp := List.length_pos_iff.mpr n
  have a := (B'.at_ S.length hp (by omega)).1
  rw [← hq] at a
  obtain ⟨i, t, ht, e1, _⟩ := hsq_of S (b' S.length)
  have := h.ok i t _ (e1.symm.trans a)
  omega
theorem Hm.uniq (h : Hm S P) (h' : Hm S' P) : S = S' := by
  by_cases p : P []
  · have n : S ≠ [] := fun z => h.nil.mp z p
    have n' : S' ≠ [] := fun z => h'.nil.mp z p
    have q := h.seq h' n n'
    exact hsq_ext q (Nat.le_antisymm (h'.len_le h n' fun i => (q i).symm) (h.len_le h' n q))
  · rw [h.nil.mpr p, h'.nil.mpr p]
theorem Hm.congr {P' : List Nat → Prop} (h : Hm S P) (e : ∀ w, LR w → (P w ↔ P' w)) : Hm S P' :=
  ⟨fun w lw => (h.lang w lw).trans (e w lw), h.ok, h.rc, h.mn, h.bn⟩
end
end Z
namespace Z
section
variable {α β : Type} [DecidableEq α] [DecidableEq β]
theorem ndp_len : ∀ (l m : List α), l.Nodup → (∀ x ∈ l, x ∈ m) → l.length ≤ m.length
  | [], _, _, _ => Nat.zero_le _
  | x :: l, m, hn, hs => by
    obtain ⟨h1, h2⟩ := List.nodup_cons.mp hn
    have hx : x ∈ m := hs x List.mem_cons_self
    have ih := ndp_len l (m.erase x) h2 fun y hy => by
      have hne : y ≠ x := fun e => h1 (e ▸ hy)
      exact (List.mem_erase_of_ne hne).2 (hs y (List.mem_cons_of_mem _ hy))
    have e := List.length_erase_of_mem hx
    have hp : 0 < m.length := List.length_pos_of_mem hx
    rw [List.length_cons]
    omega
def dsc : List α → List α
  | [] => []
  | x :: l => if x ∈ dsc l then dsc l else x :: dsc l
theorem dsc_mem {x : α} : ∀ {l : List α}, x ∈ dsc l ↔ x ∈ l
  | [] => Iff.rfl
  | y :: l => by
    unfold dsc
    have ih := dsc_mem (x := x) (l := l)
    split
    · rename_i h
      rw [List.mem_cons, ih]
      constructor
      · exact .inr
      · rintro (rfl | z)
        · exact dsc_mem.mp h
        · exact z
    · rw [List.mem_cons, List.mem_cons, ih]
theorem dsc_nd : ∀ (l : List α), (dsc l).Nodup
  | [] => List.nodup_nil
  | y :: l => by
    unfold dsc
    split
    · exact dsc_nd l
    · rename_i h
      exact List.nodup_cons.mpr ⟨h, dsc_nd l⟩
theorem dsc_inj {g : α → β} {l : List α} (h : (dsc l).length ≤ (dsc (l.map g)).length) : ∀ a ∈ l, ∀ b ∈ l, g a = g b → a = b := by
  intro a ha b hb e
  apply Classical.byContradiction
  intro ne
  have ha' : a ∈ dsc l := dsc_mem.mpr ha
  have l1 := List.length_erase_of_mem ha'
  have hp : 0 < (dsc l).length := List.length_pos_of_mem ha'
  have s : ∀ y ∈ dsc (l.map g), y ∈ ((dsc l).erase a).map g := fun y hy => by
    obtain ⟨x, hx, rfl⟩ := List.mem_map.mp (dsc_mem.mp hy)
    by_cases c : x = a
    · subst c
      exact List.mem_map.mpr ⟨b, (List.mem_erase_of_ne fun z => ne z.symm).2 (dsc_mem.mpr hb), e.symm⟩
    · exact List.mem_map.mpr ⟨x, (List.mem_erase_of_ne c).2 (dsc_mem.mpr hx), rfl⟩
  have := ndp_len _ _ (dsc_nd _) s
  rw [List.length_map] at this
  omega
end
def Rng (T : Hst) : Prop := ∀ i t j, hnx T i t = some j → j < T.length
def gl (a : List Bool) : Option Nat → Bool
  | none => false
  | some g => a.getD g false
structure Lvg (T : Hst) (a : List Bool) : Prop where
  len : a.length = T.length
  at_ : ∀ i, i < T.length → (a.getD i false = true ↔ Alive (hnx T) (some i))
section
variable {ν : Type} {nx : ν → Nat → Option ν}
theorem alive_pre {o : Option ν} {w : List Nat} (lw : LR w) (h : Alive nx (runO nx o w)) : Alive nx o := fun n => by
  obtain ⟨u, a, b, c⟩ := h n
  have : Lives nx o (w ++ u).length := ⟨w ++ u, lr_app lw a, rfl, by rw [runO_app]; exact c⟩
  exact this.mono (by rw [List.length_append]; omega)
theorem alive_none : ¬ Alive nx none := fun h => lives_none (h 0)
end
end Z
namespace Z
def fkx (f : List (Option Nat)) : Option Nat → Option Nat
  | none => none
  | some g => f.getD g none
def clK (T : Hst) (f : List (Option Nat)) (i : Nat) : List (Option Nat) := [f.getD i none, fkx f (hnx T i 76), fkx f (hnx T i 82)]
def clF (T : Hst) (al : List Bool) (f : List (Option Nat)) : Nat → List (List (Option Nat)) × List (Option Nat)
  | 0 => ([], [])
  | i + 1 => if al.getD i false = true then (insB id (clF T al f i).1 (clK T f i), (clF T al f i).2 ++ [some (posB id (clF T al f i).1 (clK T f i))]) else ((clF T al f i).1, (clF T al f i).2 ++ [none])
def clN (T : Hst) (al : List Bool) (f : List (Option Nat)) : List (Option Nat) := (clF T al f T.length).2
theorem clF_len (T : Hst) (al : List Bool) (f : List (Option Nat)) : ∀ n, (clF T al f n).2.length = n
  | 0 => rfl
  | n + 1 => by
    unfold clF
    split <;> simp [clF_len T al f n]
theorem getD_app_old {α : Type} {l : List α} {x d : α} {i : Nat} (h : i < l.length) : (l ++ [x]).getD i d = l.getD i d := by
  rw [List.getD_eq_getElem?_getD, List.getD_eq_getElem?_getD, List.getElem?_append_left h]
theorem getD_app_new {α : Type} {l : List α} {x d : α} : (l ++ [x]).getD l.length d = x := by
  rw [List.getD_eq_getElem?_getD, List.getElem?_append_right (Nat.le_refl _), Nat.sub_self]
  rfl
structure ClOk (T : Hst) (al : List Bool) (f : List (Option Nat)) (n : Nat) (ks : List (List (Option Nat))) (lt : List (Option Nat)) : Prop where
  nd : ks.Nodup
  no : ∀ i, i < n → al.getD i false = false → lt.getD i none = none
  yes : ∀ i, i < n → al.getD i false = true → ∃ v, lt.getD i none = some v ∧ ks[v]? = some (clK T f i)
theorem clF_ok (T : Hst) (al : List Bool) (f : List (Option Nat)) : ∀ n, ClOk T al f n (clF T al f n).1 (clF T al f n).2
  | 0 => ⟨List.nodup_nil, fun i h => by omega, fun i h => by omega⟩
  | n + 1 => by
    have ih := clF_ok T al f n
    have hl := clF_len T al f n
    unfold clF
    split
    · rename_i ha
      refine ⟨?_, fun i h q => ?_, fun i h q => ?_⟩
      · have := insB_nd (ke := id) (line := (clF T al f n).1) (clK T f n) (by rw [List.map_id]; exact ih.nd)
        rwa [List.map_id] at this
      · by_cases c : i < n
        · dsimp only
          rw [getD_app_old (by omega)]; exact ih.no i c q
        · have : i = n := by omega
          subst this
          rw [ha] at q; cases q
      · by_cases c : i < n
        · dsimp only
          rw [getD_app_old (by omega)]
          obtain ⟨v, a, b⟩ := ih.yes i c q
          exact ⟨v, a, insB_pre id _ _ b⟩
        · have e : i = n := by omega
          obtain ⟨z, a, b⟩ := posB_at id (clF T al f n).1 (clK T f n)
          refine ⟨_, ?_, a.trans ?_⟩
          · dsimp only
            rw [e]
            have g := getD_app_new (l := (clF T al f n).2) (x := some (posB id (clF T al f n).1 (clK T f n))) (d := none)
            rw [hl] at g
            exact g
          · rw [e]; exact congrArg some b
    · rename_i ha
      have ha : al.getD n false = false := by simpa using ha
      refine ⟨ih.nd, fun i h q => ?_, fun i h q => ?_⟩
      · by_cases c : i < n
        · dsimp only
          rw [getD_app_old (by omega)]; exact ih.no i c q
        · have e : i = n := by omega
          dsimp only
          rw [e]
          have g := getD_app_new (l := (clF T al f n).2) (x := (none : Option Nat)) (d := none)
          rw [hl] at g
          exact g
      · by_cases c : i < n
        · dsimp only
          rw [getD_app_old (by omega)]; exact ih.yes i c q
        · have e : i = n := by omega
          subst e
          rw [ha] at q; cases q
theorem clN_len (T : Hst) (al : List Bool) (f : List (Option Nat)) : (clN T al f).length = T.length := clF_len T al f _
def EqK (T : Hst) (k : Nat) (o o' : Option Nat) : Prop := ∀ w, LR w → w.length ≤ k → (Alive (hnx T) (hgo T o w) ↔ Alive (hnx T) (hgo T o' w))
def EqA (T : Hst) (o o' : Option Nat) : Prop := ∀ w, LR w → (Alive (hnx T) (hgo T o w) ↔ Alive (hnx T) (hgo T o' w))
theorem EqK.here {T : Hst} {k : Nat} {o o' : Option Nat} (h : EqK T k o o') : Alive (hnx T) o ↔ Alive (hnx T) o' := h [] (fun _ z => nomatch z) (Nat.zero_le _)
theorem eqK_succ {T : Hst} {k i j : Nat} : EqK T (k + 1) (some i) (some j) ↔ (Alive (hnx T) (some i) ↔ Alive (hnx T) (some j)) ∧ EqK T k (hnx T i 76) (hnx T j 76) ∧ EqK T k (hnx T i 82) (hnx T j 82) := by
  constructor
  · intro h
    refine ⟨h.here, fun w lw lk => ?_, fun w lw lk => ?_⟩
    · exact h (76 :: w) (fun z hz => (List.mem_cons.mp hz).elim .inl (lw z)) (by simp; omega)
    · exact h (82 :: w) (fun z hz => (List.mem_cons.mp hz).elim .inr (lw z)) (by simp; omega)
  · rintro ⟨h0, h1, h2⟩ w lw lk
    match w with
    | [] => exact h0
    | t :: w =>
      have lw' : LR w := fun z hz => lw z (List.mem_cons_of_mem _ hz)
      have lk' : w.length ≤ k := by simpa using lk
      rcases lw t List.mem_cons_self with rfl | rfl
      · exact h1 w lw' lk'
      · exact h2 w lw' lk'
theorem eqK_dead {T : Hst} {k : Nat} {o o' : Option Nat} (h : ¬ Alive (hnx T) o) (h' : ¬ Alive (hnx T) o') : EqK T k o o' := fun w lw _ =>
  ⟨fun z => (h (alive_pre lw z)).elim, fun z => (h' (alive_pre lw z)).elim⟩
structure Sem (T : Hst) (k : Nat) (f : List (Option Nat)) : Prop where
  len : f.length = T.length
  no : ∀ i, i < T.length → (f.getD i none = none ↔ ¬ Alive (hnx T) (some i))
  eq : ∀ i j, i < T.length → j < T.length → Alive (hnx T) (some i) → Alive (hnx T) (some j) → (f.getD i none = f.getD j none ↔ EqK T k (some i) (some j))
theorem fkx_iff {T : Hst} {k : Nat} {f : List (Option Nat)} (S : Sem T k f) {o o' : Option Nat} (ho : ∀ j, o = some j → j < T.length) (ho' : ∀ j, o' = some j → j < T.length) : fkx f o = fkx f o' ↔ EqK T k o o' := by
  have dead : ∀ o, (∀ j, o = some j → j < T.length) → (fkx f o = none ↔ ¬ Alive (hnx T) o) := fun o h => by
    cases o with
    | none => exact ⟨fun _ => alive_none, fun _ => rfl⟩
    | some j => exact S.no j (h j rfl)
  by_cases a : Alive (hnx T) o
  · by_cases b : Alive (hnx T) o'
    · cases o with
      | none => exact (alive_none a).elim
      | some i =>
        cases o' with
        | none => exact (alive_none b).elim
        | some j => exact S.eq i j (ho i rfl) (ho' j rfl) a b
    · constructor
      · intro e
        rw [(dead o' ho').mpr b] at e
        exact absurd a ((dead o ho).mp e)
      · intro e; exact absurd (e.here.mp a) b
  · by_cases b : Alive (hnx T) o'
    · constructor
      · intro e
        rw [(dead o ho).mpr a] at e
        exact absurd b ((dead o' ho').mp e.symm)
      · intro e; exact absurd (e.here.mpr b) a
    · rw [(dead o ho).mpr a, (dead o' ho').mpr b]
      exact ⟨fun _ => eqK_dead a b, fun _ => rfl⟩
theorem Sem.start {T : Hst} {al : List Bool} (L : Lvg T al) : Sem T 0 (al.map fun b => if b = true then some 0 else none) := by
  have at_ : ∀ i, i < T.length → (al.map fun b => if b = true then some 0 else none).getD i none = if al.getD i false = true then some 0 else none := fun i h => by
    have hl := L.len
    rw [List.getD_eq_getElem?_getD, List.getElem?_map, List.getD_eq_getElem?_getD, List.getElem?_eq_getElem (by omega)]
    rfl
  refine ⟨by rw [List.length_map, L.len], fun i h => ?_, fun i j hi hj ai aj => ?_⟩
  · rw [at_ i h, ← L.at_ i h]
    split <;> simp_all
  · rw [at_ i hi, at_ j hj, if_pos ((L.at_ i hi).mpr ai), if_pos ((L.at_ j hj).mpr aj)]
    refine ⟨fun _ w lw lk => ?_, fun _ => rfl⟩
    have : w = [] := List.eq_nil_of_length_eq_zero (by omega)
    subst this
    exact ⟨fun _ => aj, fun _ => ai⟩
theorem Sem.next {T : Hst} (R : Rng T) {al : List Bool} (L : Lvg T al) {k : Nat} {f : List (Option Nat)} (S : Sem T k f) : Sem T (k + 1) (clN T al f) := by
  have C := clF_ok T al f T.length
  have key : ∀ i j, i < T.length → j < T.length → Alive (hnx T) (some i) → Alive (hnx T) (some j) → (clK T f i = clK T f j ↔ EqK T (k + 1) (some i) (some j)) := fun i j hi hj ai aj => by
    rw [eqK_succ, ← fkx_iff S (fun m => R i 76 m) (fun m => R j 76 m), ← fkx_iff S (fun m => R i 82 m) (fun m => R j 82 m)]
    unfold clK
    constructor
    · intro e
      injection e with e1 e
      injection e with e2 e
      injection e with e3 _
      exact ⟨⟨fun _ => aj, fun _ => ai⟩, e2, e3⟩
    · rintro ⟨_, e2, e3⟩
      have e1 : f.getD i none = f.getD j none := (S.eq i j hi hj ai aj).mpr fun w lw lk => by
        match w with
        | [] => exact ⟨fun _ => aj, fun _ => ai⟩
        | t :: w =>
          have lw' : LR w := fun z hz => lw z (List.mem_cons_of_mem _ hz)
          have lk' : w.length ≤ k := by have := lk; simp at this; omega
          rcases lw t List.mem_cons_self with rfl | rfl
          · exact (fkx_iff S (fun m => R i 76 m) (fun m => R j 76 m)).mp e2 w lw' lk'
          · exact (fkx_iff S (fun m => R i 82 m) (fun m => R j 82 m)).mp e3 w lw' lk'
      rw [e1, e2, e3]
  refine ⟨clN_len T al f, fun i h => ?_, fun i j hi hj ai aj => ?_⟩
  · constructor
    · intro e a
      obtain ⟨v, z, _⟩ := C.yes i h ((L.at_ i h).mpr a)
      rw [show (clN T al f).getD i none = _ from z] at e
      cases e
    · intro a
      refine C.no i h ?_
      cases c : al.getD i false with
      | false => rfl
      | true => exact absurd ((L.at_ i h).mp c) a
  · obtain ⟨v, z, y⟩ := C.yes i hi ((L.at_ i hi).mpr ai)
    obtain ⟨v', z', y'⟩ := C.yes j hj ((L.at_ j hj).mpr aj)
    rw [show (clN T al f).getD i none = _ from z, show (clN T al f).getD j none = _ from z', ← key i j hi hj ai aj]
    constructor
    · intro e
      have e : v = v' := Option.some.inj e
      subst e
      rw [y] at y'
      exact Option.some.inj y'
    · intro e
      rw [e] at y
      have a1 := (List.getElem?_eq_some_iff.mp y).1
      rw [← y'] at y
      rw [(List.getElem?_inj a1 C.nd).mp y]
structure Kds (T : Hst) (f : List (Option Nat)) : Prop where
  len : f.length = T.length
  no : ∀ i, i < T.length → (f.getD i none = none ↔ ¬ Alive (hnx T) (some i))
  eq : ∀ i j, i < T.length → j < T.length → Alive (hnx T) (some i) → Alive (hnx T) (some j) → (f.getD i none = f.getD j none ↔ EqA T (some i) (some j))
theorem getD_map_zip {f g : List (Option Nat)} (hl : f.length = g.length) (h : ∀ i j, i < f.length → j < f.length → g.getD i none = g.getD j none → f.getD i none = f.getD j none) : ∃ m : Option Nat → Option Nat, f = g.map m := by
  refine ⟨fun v => f.getD (g.idxOf v) none, ?_⟩
  refine List.ext_getElem? fun i => ?_
  by_cases c : i < f.length
  · rw [List.getElem?_map, List.getElem?_eq_getElem c, List.getElem?_eq_getElem (by omega)]
    have cg : i < g.length := by omega
    have mem : g[i] ∈ g := List.getElem_mem cg
    have l1 := List.idxOf_lt_length_of_mem mem
    have e1 := List.getElem_idxOf l1
    have := h i (g.idxOf g[i]) c (by omega) (by
      rw [List.getD_eq_getElem?_getD, List.getElem?_eq_getElem cg, List.getD_eq_getElem?_getD, List.getElem?_eq_getElem l1]
      exact congrArg some e1.symm |> Option.some.inj)
    show some f[i] = some (f.getD (g.idxOf g[i]) none)
    rw [← this, List.getD_eq_getElem?_getD, List.getElem?_eq_getElem c]
    rfl
  · rw [List.getElem?_eq_none (by omega), List.getElem?_eq_none (by rw [List.length_map]; omega)]
theorem Sem.fine {T : Hst} {al : List Bool} (L : Lvg T al) {k : Nat} {f g : List (Option Nat)} (S : Sem T k f) (S' : Sem T (k + 1) g) : ∀ i j, i < T.length → j < T.length → g.getD i none = g.getD j none → f.getD i none = f.getD j none := fun i j hi hj e => by
  by_cases a : Alive (hnx T) (some i)
  · have b : Alive (hnx T) (some j) := Classical.byContradiction fun z => by
      rw [(S'.no j hj).mpr z] at e
      exact (S'.no i hi).mp e a
    have q := (S'.eq i j hi hj a b).mp e
    exact (S.eq i j hi hj a b).mpr fun w lw lk => q w lw (by omega)
  · have b : ¬ Alive (hnx T) (some j) := fun z => by
      rw [(S'.no i hi).mpr a] at e
      exact (S'.no j hj).mp e.symm z
    rw [(S.no i hi).mpr a, (S.no j hj).mpr b]
theorem Sem.done {T : Hst} (R : Rng T) {al : List Bool} (L : Lvg T al) {k : Nat} {f g : List (Option Nat)} (S : Sem T k f) (S' : Sem T (k + 1) g) (h : (dsc g).length = (dsc f).length) : Kds T g := by
  obtain ⟨m, e⟩ := getD_map_zip (f := f) (g := g) (by rw [S.len, S'.len]) fun i j hi hj => S.fine L S' i j (by rw [← S.len]; exact hi) (by rw [← S.len]; exact hj)
  have inj := dsc_inj (g := m) (l := g) (by rw [← e, h]; exact Nat.le_refl _)
  have gm : ∀ i, i < T.length → g.getD i none ∈ g := fun i hi => by
    have hl := S'.len
    rw [List.getD_eq_getElem?_getD, List.getElem?_eq_getElem (by omega)]
    exact List.getElem_mem _
  have fm : ∀ i, i < T.length → f.getD i none = m (g.getD i none) := fun i hi => by
    have hl := S'.len
    rw [e, List.getD_eq_getElem?_getD, List.getElem?_map, List.getD_eq_getElem?_getD, List.getElem?_eq_getElem (by omega)]
    rfl
  have back : ∀ i j, i < T.length → j < T.length → f.getD i none = f.getD j none → g.getD i none = g.getD j none := fun i j hi hj q => by
    rw [fm i hi, fm j hj] at q
    exact inj _ (gm i hi) _ (gm j hj) q
  -- to k is to k + 1
  have up : ∀ o o', (∀ j, o = some j → j < T.length) → (∀ j, o' = some j → j < T.length) → EqK T k o o' → EqK T (k + 1) o o' := fun o o' ho ho' q => by
    by_cases a : Alive (hnx T) o
    · have b := q.here.mp a
      cases o with
      | none => exact (alive_none a).elim
      | some i =>
        cases o' with
        | none => exact (alive_none b).elim
        | some j =>
          have hi := ho i rfl
          have hj := ho' j rfl
          exact (S'.eq i j hi hj a b).mp (back i j hi hj ((S.eq i j hi hj a b).mpr q))
    · exact eqK_dead a fun z => a (q.here.mpr z)
  have all : ∀ n i j, i < T.length → j < T.length → EqK T k (some i) (some j) → EqK T (k + n) (some i) (some j) := by
    intro n
    induction n with
    | zero => exact fun i j _ _ q => q
    | succ n ih =>
      intro i j hi hj q
      have q1 := eqK_succ.mp (up _ _ (fun m e => by cases e; exact hi) (fun m e => by cases e; exact hj) q)
      have step : ∀ t, EqK T k (hnx T i t) (hnx T j t) → EqK T (k + n) (hnx T i t) (hnx T j t) := fun t z => by
        by_cases a : Alive (hnx T) (hnx T i t)
        · have b := z.here.mp a
          cases e1 : hnx T i t with
          | none => rw [e1] at a; exact (alive_none a).elim
          | some i' =>
            cases e2 : hnx T j t with
            | none => rw [e2] at b; exact (alive_none b).elim
            | some j' =>
              rw [e1, e2] at z
              exact ih i' j' (R _ _ _ e1) (R _ _ _ e2) z
        · exact eqK_dead a fun y => a (z.here.mpr y)
      exact eqK_succ.mpr ⟨q1.1, step 76 q1.2.1, step 82 q1.2.2⟩
  refine ⟨S'.len, S'.no, fun i j hi hj ai aj => ?_⟩
  rw [S'.eq i j hi hj ai aj]
  constructor
  · intro q w lw
    have q0 : EqK T k (some i) (some j) := fun w lw lk => q w lw (by omega)
    exact all w.length i j hi hj q0 w lw (by omega)
  · intro q w lw _
    exact q w lw
end Z
namespace Z
def ke (kd : List (Option Nat)) (x : Nat) : Option Nat := kd.getD x none
section
variable {T : Hst} {kd : List (Option Nat)}
end
def Ext (L : List Nat → Prop) (w : List Nat) : Prop := ∀ n, ∃ u, LR u ∧ u.length = n ∧ L (w ++ u)
end Z
namespace Z
def isSt (bars : List (List Nat)) (x : List Nat) : Bool := x == [] || bars.any fun b => decide (x.length < b.length) && b.take x.length == x
def cutS (bars : List (List Nat)) : List Nat → List Nat
  | [] => []
  | c :: w => if isSt bars (c :: w) = true then c :: w else cutS bars w
def NoBar (bars : List (List Nat)) (w : List Nat) : Prop := ∀ b ∈ bars, ¬ b <:+: w
section
variable {bars : List (List Nat)}
end
end Z
namespace Z
open PySem PySem.Spec PyProof.Rows L2

section
variable {P : Program} {w : World} {H : Hp} {h h' : Heap} {a : Addr} {l : OK} {S : Option Int → Bool} {n : Nat}
end
section
variable {X : Cx} {B : Bs} {pos apos p2 p : Pos} {e o : Expr} {es : List Expr} {fa fe : DTE} {tt : DTT} {ga : DTA} {k : Nat}
end
end Z
namespace Z
open PySem PySem.Spec PyProof.Rows L2
section
variable {X : Cx} {B : Bs} {pos px apos p3 : Pos} {a b e : Expr} {fa fb fc : DTE} {ga : DTA} {k : Nat}
end
end Z
namespace Z
open PySem PySem.Spec PyProof.Rows L2
def hoD (o : Option Nat) : D := match o with
  | none => .non
  | some n => .int (n : Nat)
def hoL (f : List (Option Nat)) : List D := f.map hoD
section
variable {κ : Type} [DecidableEq κ] {f : κ → D}
end
abbrev wdD (b : List Nat) : D := .str ⟨b.toArray⟩
end Z
namespace Z
open PySem PySem.Spec PyProof.Rows L2
def PC (L : List Nat → Prop) : Prop := ∀ w u, LR u → L (w ++ u) → L w
theorem PC.ext {L : List Nat → Prop} (h : PC L) : PC (Ext L) := fun w u lu e n => by
  obtain ⟨v, a, b, c⟩ := e n
  refine ⟨(u ++ v).take n, fun z hz => lr_app lu a z (List.mem_of_mem_take hz), by rw [List.length_take, List.length_append]; omega, h _ ((u ++ v).drop n) (fun z hz => lr_app lu a z (List.mem_of_mem_drop hz)) ?_⟩
  rw [List.append_assoc w, List.take_append_drop, ← List.append_assoc]
  exact c
theorem PC.and {L M : List Nat → Prop} (h : PC L) (k : PC M) : PC (fun w => L w ∧ M w) := fun w u lu z => ⟨h w u lu z.1, k w u lu z.2⟩
theorem PC.or {L M : List Nat → Prop} (h : PC L) (k : PC M) : PC (fun w => L w ∨ M w) := fun w u lu z => z.imp (h w u lu) (k w u lu)
theorem Ext.here {L : List Nat → Prop} {w : List Nat} (h : Ext L w) : L w := by
  obtain ⟨u, a, b, c⟩ := h 0
  rw [List.eq_nil_of_length_eq_zero b, List.append_nil] at c
  exact c
theorem Ext.step {L : List Nat → Prop} (h : PC L) {w : List Nat} (e : Ext L w) : ∃ t, (t = 76 ∨ t = 82) ∧ Ext L (w ++ [t]) := by
  apply Classical.byContradiction
  intro z
  have h1 : ¬ Ext L (w ++ [76]) := fun q => z ⟨76, .inl rfl, q⟩
  have h2 : ¬ Ext L (w ++ [82]) := fun q => z ⟨82, .inr rfl, q⟩
  obtain ⟨n1, k1⟩ := Classical.not_forall.mp h1
  obtain ⟨n2, k2⟩ := Classical.not_forall.mp h2
  obtain ⟨u, a, b, c⟩ := e (n1 + n2 + 1)
  match u, b with
  | t :: u, b =>
    have la : LR u := fun z hz => a z (List.mem_cons_of_mem _ hz)
    have bl : u.length = n1 + n2 := by simpa using b
    have cut : ∀ n, n ≤ n1 + n2 → L (w ++ [t] ++ u.take n) := fun n hn => by
      refine h _ (u.drop n) (fun z hz => la z (List.mem_of_mem_drop hz)) ?_
      rw [List.append_assoc (w ++ [t]), List.take_append_drop, List.append_assoc]
      exact c
    rcases a t List.mem_cons_self with rfl | rfl
    · exact k1 ⟨u.take n1, fun z hz => la z (List.mem_of_mem_take hz), by rw [List.length_take]; omega, cut n1 (by omega)⟩
    · exact k2 ⟨u.take n2, fun z hz => la z (List.mem_of_mem_take hz), by rw [List.length_take]; omega, cut n2 (by omega)⟩
theorem Ext.run {L : List Nat → Prop} (h : PC L) {w : List Nat} (e : Ext L w) : ∀ n, ∃ u, LR u ∧ u.length = n ∧ Ext L (w ++ u)
  | 0 => ⟨[], (fun _ z => nomatch z), rfl, by rw [List.append_nil]; exact e⟩
  | n + 1 => by
    obtain ⟨u, a, b, c⟩ := e.run h n
    obtain ⟨t, ht, d⟩ := c.step h
    exact ⟨u ++ [t], lr_snoc a ht, by simp [b], by rw [← List.append_assoc]; exact d⟩
theorem Ext.mono {L M : List Nat → Prop} (h : ∀ w, L w → M w) {w : List Nat} (e : Ext L w) : Ext M w := fun n => let ⟨u, a, b, c⟩ := e n; ⟨u, a, b, h _ c⟩
end Z
namespace Z
open PySem PySem.Spec PyProof.Rows L2
end Z
namespace Z
section
open PySem PySem.SeqAt GQ
open AutoSeq1 (wpAny_loadPart')
open MeetsSeq MeetsSeq2 MeetsSeq3 SeqRoads2
variable {prog : Program} {w : World} {A : Around} {R : Result → Shared → Prop}
end
section
open PySem PySem.SeqAt GQ
variable {prog : Program} {w : World} {A : Around} {E : Value → Shared → Prop} {s : Shared}
end
open PySem PySem.Spec PyProof.Rows L2
section
variable {X : Cx} {j k : Nat} {own : D → D → Sto → Prop}
variable {B : Bs} {c : Ct} {pos : Pos} {a b : Expr} {fa fb : DTE} {C : Addr} {bs : List (Nat × List Str × (List D → List D → List D))}
end

section
variable {X : Cx} {B : Bs} {pos p : Pos} {a b : Expr} {ga : DTA} {C C2 : Addr}
end
end Z
namespace Z
open PySem PySem.Spec PyProof.Rows L2
section
variable {S : Hst} {L M : List Nat → Prop}
theorem noBar_app {a b : List (List Nat)} {w : List Nat} : NoBar (a ++ b) w ↔ NoBar a w ∧ NoBar b w := by
  constructor
  · intro h; exact ⟨fun x m => h x (List.mem_append_left _ m), fun x m => h x (List.mem_append_right _ m)⟩
  · rintro ⟨h, k⟩ x m
    exact (List.mem_append.mp m).elim (h x) (k x)
theorem no_rows {bs : List (List Nat)} (h1 : [76] ∈ bs) (h2 : [82] ∈ bs) {w : List Nat} : ¬ Ext (NoBar bs) w := fun e => by
  obtain ⟨u, a, b, c⟩ := e 1
  match u, b with
  | [t], _ =>
    rcases a t List.mem_cons_self with rfl | rfl
    · exact c _ h1 ⟨w, [], by simp⟩
    · exact c _ h2 ⟨w, [], by simp⟩
variable {b1 b2 b3 : List (List Nat)}
end
theorem len0 {S : Hst} (h : Hm S (Ext fun w => NoBar [[76]] w ∧ NoBar [[82]] w)) : S = [] := by
  refine h.nil.mpr fun e => ?_
  have e2 : Ext (NoBar ([[76]] ++ [[82]])) [] := Ext.mono (fun w z => noBar_app.mpr z) e
  exact no_rows (by simp) (by simp) e2
end Z
namespace Z
open PySem PySem.Spec PyProof.Rows L2
section
variable {S : Hst} {r : Nat}
end

end Z
namespace Z
open PySem PySem.Spec PyProof.Rows L2
section
variable {tu : Bool} {w : List Nat} {u : T4} {a r : List Nat}
end
def ini (S : Hst) : Option Nat := if S = [] then none else some 0
section
variable {S : Hst} {tu : Bool} {w : List Nat} {u : T4} {a r : List Nat}
end
end Z
namespace Z
section
open PySem PySem.SeqAt GQ
variable {prog : Program} {w : World} {A : Around} {E : Value → Shared → Prop} {s : Shared}
end
open PySem PySem.Spec PyProof.Rows L2
section
variable {X : Cx} {B : Bs} {k j : Nat} {c : Ct} {pos apos p : Pos} {a : Expr} {ga : DTA} {C : Addr} {bs : List (Nat × List Str × (List D → List D → List D))}
end
end Z
namespace Z
open PySem PySem.Spec PyProof.Rows L2 PySem.W PySem.Calls Builtin

def missFit (cd : ClassData) (name : Str) : Bool :=
  decide (cd.name.cps.foldl (fun k c => k + (Str.utf8Of c).length) 0 ≤ 100) && decide (((s!"type object '{cd.name.toString}' has no attribute '" : Str) ++ name ++ "'").length ≤ sizeLine)
section
variable {prog : Program} {w : World} {A : Around} {E : Value → Shared → Prop} {s : Shared} {K : Frag} {D : Addr} {name : Str}
variable {x C f : Addr} {L : Addr} {h₀ : Heap} {m : Str → Option Value} {ox : Obj} {od : Option Obj}
end

section
variable {X : Cx} {B : Bs} {k j n : Nat} {c : Ct} {pos : Pos} {a b : Expr} {fa fb : DTE} {C D : Addr} {bs : List (Nat × List Str × (List Z.D → List Z.D → List Z.D))}
end
theorem add_LL {M : Sto} {a b : Z.D} {xs ys : List Z.D} {φ : Z.D → Prop} (ha : lstOf M a = some xs) (hb : lstOf M b = some ys) (hl : xs.length + ys.length ≤ sizeLine) (q : φ (.lst (xs ++ ys))) : addD M a b φ := by
  cases a <;> first | exact ⟨_, _, ha, hb, hl, q⟩ | (simp [lstOf] at ha) | (cases b <;> first | exact ⟨_, _, ha, hb, hl, q⟩ | (simp [lstOf] at ha hb))
example : missFit ({ (default : ClassData) with name := "Combined" }) (dunderR "mul") = true := by decide +kernel
end Z
namespace L2
open PySem PySem.Spec PyProof.Rows
end L2
namespace Z
open PySem PySem.Spec PyProof.Rows L2
section
variable {X : Cx} {B : Bs} {pos : Pos} {e : Expr} {ga : DTA}
end
end Z
namespace Z
open PySem PySem.Spec PyProof.Rows L2
variable {s t : Nat} {b1 b2 : List (List Nat)} {S : Hst}
end Z
namespace TxSet
open PySem PySem.Spec PyProof.Rows L2
def kyS (e : Int × Value) : Str := match e.2 with
  | .str k _ => k
  | _ => ⟨#[]⟩
def Gd (P : Program) (w : World) (e : Int × Value) : Prop := ∃ k tk, e.2 = Value.str k tk ∧ e.1 = (PySem.strKind P w).hash k
def SetT (P : Program) (w : World) (h : Heap) (a : Addr) (ks : List Str) : Prop :=
  ∃ o es ep t, h.get? a = some o ∧ o.ExactSet ∧ o.data = .set es ep t ∧ (∀ e ∈ es.toList, Gd P w e) ∧ (es.toList.map kyS).Perm ks ∧ ks.Nodup ∧
    es.size < scanBound ∧ t.fits es.size = true ∧ Ris t.place.toList ∧ (w.params.followText "set-order" = true ∨ t.led = true)
section
variable {P : Program} {w : World} {h h' : Heap} {a : Addr} {ks : List Str}
theorem SetT.at (R : SetT P w h a ks) (k : ∀ o, h.get? a = some o → h'.get? a = some o) : SetT P w h' a ks := by
  obtain ⟨o, es, ep, t, ho, r⟩ := R
  exact ⟨o, es, ep, t, k o ho, r⟩
theorem is_ky {e : Int × Value} (g : Gd P w e) (k : Str) : (PySem.strKind P w).is k e.2 = true ↔ kyS e = k := by
  obtain ⟨k0, tk, e1, _⟩ := g
  unfold kyS
  rw [e1]
  show ((k0 == k) = true) ↔ k0 = k
  exact beq_iff_eq
theorem elems {l : List (Int × Value)} (g : ∀ e ∈ l, Gd P w e) : ElemsOf (PySem.strKind P w) l := fun e he => by
  obtain ⟨k, tk, e1, e2⟩ := g e he
  exact ⟨⟨k, by rw [e1]; exact strKind_is P w k tk, e2⟩, by rw [e1] <;> rfl⟩
end
section
variable {P : Program} {w : World} {A : Around} {E : Value → Shared → Prop} {s : Shared} {a : Addr} {ks : List Str}
theorem tail {g : Bool → PySem.Sem Unit} (hg : ∀ (b : Bool) (s₁ : Shared) (Q' : Unit → Shared → Prop), Q' () s₁ → wpAny (model P w) A (g b) Q' E s₁)
    {o : Obj} {es es1 : Array (Int × Value)} {ep : Nat} {t t2 : SetTable} (ho : s.heap.get? a = some o) (hex : o.ExactSet) (hd : o.data = .set es ep t)
    (g1 : ∀ e ∈ es1.toList, Gd P w e) (pk : (es1.toList.map kyS).Perm ks) (nd : ks.Nodup) (hb : es1.size < scanBound) (hf : t2.fits es1.size = true) (hr : Ris t2.place.toList)
    (hl : w.params.followText "set-order" = true ∨ t2.led = true) {wd : Bool} {R : Option Bool → Shared → Prop} (hR : ∀ h', Heap.SameBut a s.heap h' → SetT P w h' a ks → R (some true) { s with heap := h' }) :
    wpAny (model P w) A (do
        storeSet a es1 t2
        if (!wd && t2.tooFull) = true then do
            g (relayAll t2 es1 (SetTable.grown es1.size)).2.2
            storeSet a (relayAll t2 es1 (SetTable.grown es1.size)).1 (relayAll t2 es1 (SetTable.grown es1.size)).2.1
            pure (some true)
          else pure (some true)) R E s := by
  refine wpAny_bind (wpAny_storeSet_of ho hd ?_ (fits_of_scanBound hb))
  have ho1 := store_at (es' := es1) (t' := t2) ho hd
  have sb := Heap.SameBut.update s.heap a (Obj.putSet es1 t2)
  cases hc : (!wd && t2.tooFull) with
  | false => rw [if_neg (by simp)]; exact wpAny_pure (hR _ sb ⟨_, es1, _, t2, ho1, hex, rfl, g1, pk, nd, hb, hf, hr, hl⟩)
  | true =>
    rw [if_pos rfl]
    have pm := relayAll_perm t2 es1 (SetTable.grown es1.size)
    have hf3 := relayAll_fits t2 es1 (SetTable.grown es1.size)
    have hr3 := relayAll_ris t2 es1 (SetTable.grown es1.size)
    have hl3 := relayAll_led t2 es1 (SetTable.grown es1.size)
    generalize relayAll t2 es1 (SetTable.grown es1.size) = Z at pm hf3 hr3 hl3 ⊢
    obtain ⟨es2, t3, gave⟩ := Z
    dsimp only at pm hf3 hr3 hl3 ⊢
    have hb2 : es2.size < scanBound := by rw [← Array.length_toList, pm.length_eq, Array.length_toList]; exact hb
    refine wpAny_bind (hg _ _ _ (wpAny_bind (wpAny_storeSet_of ho1 rfl ?_ (fits_of_scanBound hb2))))
    exact wpAny_pure (hR _ (sb.trans (Heap.SameBut.update _ a _)) ⟨_, es2, _, t3, store_at (es' := es2) (t' := t3) ho1 rfl, hex, rfl, fun e he => g1 e (pm.mem_iff.mp he), (pm.map kyS).trans pk, nd, hb2, hf3, hr3, hl.imp id fun z => by rw [hl3]; exact z⟩)
theorem add {k : Str} {tk : Tok} {Q : Bool → Shared → Prop} (R : SetT P w s.heap a ks) (room : ks.length + 1 < scanBound)
    (hQ : ∀ b h', Heap.SameBut a s.heap h' → SetT P w h' a (if k ∈ ks then ks else ks ++ [k]) → Q b { s with heap := h' }) :
    wpAny (model P w) A (setAddHashed a (.str k tk) ((PySem.strKind P w).hash k)) Q E s := by
  obtain ⟨o, es, ep, t, ho, hex, hd, g, pk, nd, hb, hf, hr, hl⟩ := R
  have hkey : (PySem.strKind P w).is k (.str k tk) = true := strKind_is P w k tk
  have hsc : (Value.str k tk).scannable = true := rfl
  have hel := elems g
  unfold setAddHashed setAddHashedIn
  refine wpAny_holding (wpAny_bind (wpAny_setState_of ho hd hf ?_))
  dsimp only
  rw [byScan_of hsc hb hel]
  simp only [↓reduceIte]
  unfold setAddByScan
  refine wpAny_bind (wpAny_bind (wpAny_rule (wpAny_bind (wpAny_setScan_of hkey ho hd hf hel ?_))))
  cases hfi : List.findIdx? (fun e => (PySem.strKind P w).is k e.2) es.toList with
  | some j =>
    dsimp only
    obtain ⟨hj, pj, _⟩ := List.findIdx?_eq_some_iff_getElem.mp hfi
    have hk : k ∈ ks := pk.mem_iff.mp (List.mem_map.mpr ⟨_, List.getElem_mem hj, (is_ky (g _ (List.getElem_mem hj)) k).mp pj⟩)
    refine wpAny_pure (wpAny_pure (hQ _ s.heap (Heap.SameBut.refl a s.heap) ?_))
    rw [if_pos hk]
    exact ⟨o, es, ep, t, ho, hex, hd, g, pk, nd, hb, hf, hr, hl⟩
  | none =>
    dsimp only
    have hk : k ∉ ks := fun z => by
      obtain ⟨e, he, q⟩ := List.mem_map.mp (pk.mem_iff.mpr z)
      have c := List.findIdx?_eq_none_iff.mp hfi e he
      rw [(is_ky (g e he) k).mpr q] at c
      cases c
    have pm := layNew_perm t es ((PySem.strKind P w).hash k) (.str k tk)
    have hf1 := layNew_fits t es ((PySem.strKind P w).hash k) (.str k tk)
    have hr1 := layNew_ris t es ((PySem.strKind P w).hash k) (.str k tk) hr
    have hl1 := layNew_led t es ((PySem.strKind P w).hash k) (.str k tk)
    generalize layNew t es ((PySem.strKind P w).hash k) (.str k tk) = Z at pm hf1 hr1 hl1 ⊢
    obtain ⟨es1, t1, wd, gave⟩ := Z
    dsimp only at pm hf1 hr1 hl1 ⊢
    rw [Array.toList_push] at pm
    have g1 : ∀ e ∈ es1.toList, Gd P w e := fun e he => by
      rcases List.mem_append.mp (pm.mem_iff.mp he) with z | z
      · exact g e z
      · rw [List.mem_singleton.mp z]; exact ⟨k, tk, rfl, rfl⟩
    have pk1 : (es1.toList.map kyS).Perm (ks ++ [k]) := by
      have := pm.map kyS
      rw [List.map_append] at this
      exact this.trans (pk.append_right _)
    have nd1 : (ks ++ [k]).Nodup := List.nodup_append.mpr ⟨nd, by simp, fun x hx y hy => by rw [List.mem_singleton.mp hy]; exact fun z => hk (z ▸ hx)⟩
    have hb1 : es1.size < scanBound := by
      have := pk1.length_eq
      rw [List.length_map, Array.length_toList, List.length_append, List.length_singleton] at this
      omega
    have led : w.params.followText "set-order" = true ∨ t1.led = true := hl.imp id fun z => by rw [hl1]; exact z
    have fin : ∀ h', Heap.SameBut a s.heap h' → SetT P w h' a (ks ++ [k]) → Q true { s with heap := h' } := fun h' sb r => hQ true h' sb (by rw [if_neg hk]; exact r)
    have hgw : ∀ (b : Bool) {s₁ : Shared} {Q' : Unit → Shared → Prop}, Q' () s₁ → wpAny (model P w) A (match b with | true => rule "set.scan.the-table-gave-way" | false => pure ()) Q' E s₁ :=
      fun b s₁ Q' q => by cases b <;> first | exact wpAny_pure q | exact wpAny_rule q
    refine wpAny_bind (hgw _ ?_)
    split
    · refine wpAny_bind ?_
      rw [hashByValue_scannable 8 hsc]
      refine wpAny_pure (tail ?_ ho hex hd g1 pk1 nd1 hb1 ?_ ?_ ?_ fun h' sb r => ?_)
      · intro b s₁ Q' q; cases b <;> first | exact wpAny_pure q | exact wpAny_rule q
      · first | (split <;> first | exact hf1 | exact SetTable.fits_plain_off hf1) | exact hf1
      · first | (split <;> exact hr1) | exact hr1
      · first | (split <;> exact led) | exact led
      · dsimp only; exact wpAny_pure (fin h' sb r)
    · refine wpAny_bind (wpAny_pure ?_)
      simp only [↓reduceIte]
      refine tail ?_ ho hex hd g1 pk1 nd1 hb1 hf1 hr1 led fun h' sb r => ?_
      · intro b s₁ Q' q; cases b <;> first | exact wpAny_pure q | exact wpAny_rule q
      · dsimp only; exact wpAny_pure (fin h' sb r)

def grow (ks : List Str) (k : Str) : List Str := if k ∈ ks then ks else ks ++ [k]
theorem grow_mem (ks : List Str) (k j : Str) : j ∈ grow ks k ↔ j ∈ ks ∨ j = k := by
  unfold grow
  split
  · rename_i h
    exact ⟨.inl, fun z => z.elim id fun e => e ▸ h⟩
  · simp
theorem grow_len (ks : List Str) (k : Str) : (grow ks k).length ≤ ks.length + 1 := by
  unfold grow
  split <;> simp
theorem fold_mem : ∀ (xs ks : List Str) (j : Str), j ∈ xs.foldl grow ks ↔ j ∈ ks ∨ j ∈ xs
  | [], ks, j => by simp
  | x :: xs, ks, j => by
    rw [List.foldl_cons, fold_mem xs, grow_mem, List.mem_cons]
    exact or_assoc
theorem fold_len : ∀ (xs ks : List Str), (xs.foldl grow ks).length ≤ ks.length + xs.length
  | [], ks => by simp
  | x :: xs, ks => by
    rw [List.foldl_cons]
    have := fold_len xs (grow ks x)
    have := grow_len ks x
    rw [List.length_cons]
    omega
theorem update {I : Addr} {fp wr : List Addr} {G : Array GenState → Array GenState → Prop} {n : Nat} {Pv : Nat → Value → Prop} {St : Nat → Shared → Prop} {R : Result → Shared → Prop}
    (W : WalksS P w A.in1 I fp wr G n Pv St) (S : Addr) (hSf : S ∉ fp) (xs : List Str) (hn : n = xs.length) (hsz : xs.length + 1 < scanBound) (hval : ∀ i v, Pv i v → ∃ x t, xs[i]? = some x ∧ v = .str x t) :
    ∀ (k i : Nat) (s : Shared), n - i = k → i ≤ n → St i s → SetT P w s.heap S ((xs.take i).foldl grow []) →
      (∀ s', Moved (S :: wr) G s s' → SetT P w s'.heap S (xs.foldl grow []) → R (.ok (.ret .none)) s') →
      codeAny (model P w) A (.builtin "set.update.loop" ⟨[.ref S, .ref I], []⟩) R s := by
  have hSw : S ∉ wr := fun h => hSf (W.sub _ h)
  have hsub : ∀ b ∈ wr, b ∈ S :: wr := fun b hb => List.mem_cons_of_mem _ hb
  intro k
  induction k with
  | zero =>
    intro i s hk hi hst hS hR
    have hin : i = n := by omega
    subst hin
    refine codeAny_builtin PyProof.Rows.F.entry_set_update_loop ?_
    rw [Around.under_plainId PyProof.Rows.F.plain_set_update_loop _]
    show wpAny _ A.in1 (pyNext (.ref I) >>= _) _ _ s
    refine wpAny_bind (W.done s _ _ hst fun s' hm => ?_)
    show wpAny _ A.in1 (ret Value.none) _ _ s'
    rw [hn, List.take_length] at hS
    exact wpAny_pure (hR s' (hm.mono hsub) (hS.at fun o e => hm.heap S o hSw e))
  | succ k ih =>
    intro i s hk hi hst hS hR
    have hlt : i < n := by omega
    refine codeAny_builtin PyProof.Rows.F.entry_set_update_loop ?_
    rw [Around.under_plainId PyProof.Rows.F.plain_set_update_loop _]
    show wpAny _ A.in1 (pyNext (.ref I) >>= _) _ _ s
    refine wpAny_bind (W.item i s _ _ hlt hst fun v s' hP hst' hm => ?_)
    obtain ⟨x, t, hx, rfl⟩ := hval i v hP
    have hS' := hS.at fun o e => hm.heap S o hSw e
    show wpAny _ A.in1 (holding [Value.str x t] (setAdd S (.str x t)) >>= _) _ _ s'
    refine wpAny_bind (wpAny_holding ?_)
    unfold setAdd
    refine wpAny_holding ?_
    refine wpAny_bind ((PySem.strKind P w).pyHash (k := x) (strKind_is _ _ _ _) ?_)
    have hl : ((xs.take i).foldl grow []).length ≤ xs.length := by
      have := fold_len (xs.take i) []
      rw [List.length_take, List.length_nil] at this
      omega
    refine add (s := { s' with toks := s'.toks + 1 }) hS' (by omega) fun b h' hsb hS2 => ?_
    have e2 : (xs.take (i + 1)).foldl grow [] = grow ((xs.take i).foldl grow []) x := by
      rw [List.take_add_one, hx, List.foldl_append]
      rfl
    refine wpAny_pure ⟨plainId_quiet PyProof.Rows.F.plain_set_update_loop _, ih (i + 1) _ (by omega) hlt (W.frame _ s' _ _ hst' (Nat.le_succ _) fun b hb o e => ?_) (by rw [e2]; exact hS2) fun s'' hm'' hS'' => ?_⟩
    · rw [hsb.2 b (fun h : b = S => hSf (by rw [← h]; exact hb))]; exact e
    · refine hR s'' (Moved.trans W.gtrans ((hm.mono hsub).then_heap (Nat.le_succ _) fun b o hb e => ?_) hm'') hS''
      rw [hsb.2 b (fun h : b = S => hb (by rw [h]; exact List.mem_cons_self))]; exact e
theorem fresh {h : Heap} {a : Addr} (ho : h.get? a = some { cls := .type "set", dict := none, data := .set #[] 0 (.fresh 0 0 (!w.params.followText "set-order")) }) : SetT P w h a [] :=
  ⟨_, #[], 0, _, ho, ⟨rfl, rfl, rfl⟩, rfl, (fun e he => by simp at he), by simp, by simp, by decide, rfl, List.Pairwise.nil, by
    show _ ∨ (!w.params.followText "set-order") = true
    cases w.params.followText "set-order"
    · exact .inr rfl
    · exact .inl rfl⟩
set_option maxRecDepth 100000 in
set_option maxHeartbeats 3200000 in
theorem call_set {l : Addr} {items : Array Value} {xs : List Str} {Q : Value → Shared → Prop} (hh : A.handled = none) (hl : s.heap.IsList l items) (hsz : items.size = xs.length) (hval : ∀ (i : Nat) (v : Value), items[i]? = some v → ∃ x t, xs[i]? = some x ∧ v = .str x t) (hb : xs.length + 1 < scanBound)
    (h : ∀ (h' : Heap) (tk : Nat), SetT P w h' s.heap.objs.size (xs.foldl grow []) → (∀ b o, s.heap.get? b = some o → h'.get? b = some o) → Q (.ref s.heap.objs.size) { s with heap := h', toks := tk }) :
    wpAny (model P w) A (call (.type "set") [.ref l]) Q E s := by
  obtain ⟨c, tl, hmro⟩ := F.called_set.mro
  have hmade := F.called_set.made
  have hsub := F.called_set.sub
  refine wpAny_call (codeAny_of_tree ?_)
  show wpAny _ _ (callAny (.type "set") _) _ _ _
  refine wpAny_pure ⟨Code.quiet_builtin _ (by decide +kernel), codeAny_builtin F.entry_type_call ?_⟩
  rw [Around.under_plain (weight_type_call_type "set" [.ref l] []) rfl]
  have h1 := F.called_set.notType
  have h2 := F.called_set.canCreate
  have hct := F.typeCall_set_1 (.ref l)
  repeat (any_goals (first | assumption | wp_step))
  refine codeAny_mono (code_set_led1 (.ref l) (E := E) (Q₁ := fun obj s₁ => obj = .ref s.heap.objs.size ∧ s₁ = { s with heap := s.heap.push { cls := .type "set", dict := none, data := .set #[] 0 (.fresh 0 0 (!w.params.followText "set-order")) } }) ⟨rfl, rfl⟩) fun r s₁ hr => ?_
  cases r with
  | error e => exact hr
  | ok fl =>
    cases fl with
    | ret obj =>
      obtain ⟨rfl, rfl⟩ := hr
      have hS : (s.heap.push { cls := .type "set", dict := none, data := .set #[] 0 (.fresh 0 0 (!w.params.followText "set-order")) }).get? s.heap.objs.size = some { cls := .type "set", dict := none, data := .set #[] 0 (.fresh 0 0 (!w.params.followText "set-order")) } := Heap.get?_push_size _ rfl
      have hT : Shared.TypeIs { s with heap := s.heap.push { cls := .type "set", dict := none, data := .set #[] 0 (.fresh 0 0 (!w.params.followText "set-order")) } } (.ref s.heap.objs.size) "set" := ⟨_, hS, rfl⟩
      have hli := F.called_set.init.lookup
      have hbi := F.called_set.init.bind (.ref s.heap.objs.size)
      repeat (any_goals (first | assumption | wp_step))
      refine codeAny_mono (codeAny_call_builtin (R := wants (fun r s₂ => r = .none ∧ ∃ h' tk, s₂ = { s with heap := h', toks := tk } ∧ SetT P w h' s.heap.objs.size (xs.foldl grow []) ∧
          (∀ b o, s.heap.get? b = some o → h'.get? b = some o)) E) F.called_set.init.plain F.entry_set_init (check_set_init_1 hT ?_)) fun r₂ s₂ hr₂ => ?_
      · obtain ⟨ol, hol, hcl, nl, hdl⟩ := hl
        obtain ⟨ocls, odict, odata, oslots⟩ := ol
        simp only at hcl hdl
        subst hcl; subst hdl
        have hol' : (s.heap.push { cls := .type "set", dict := none, data := .set #[] 0 (.fresh 0 0 (!w.params.followText "set-order")) }).get? l = some { cls := .type "list", dict := odict, data := .seq items nl, slots := oslots } := Heap.get?_push_of_some _ hol
        have hsls := F.sub_list_set
        have hslf := F.sub_list_frozenset
        have hne : (Value.type "list" == Value.type "dict") = false := by decide
        have hl1 : (s.heap.push { cls := .type "set", dict := none, data := .set #[] 0 (.fresh 0 0 (!w.params.followText "set-order")) }).IsList l items := ⟨_, hol', rfl, nl, rfl⟩
        unfold Builtin.«set.__init__» noKeywords Builtin.Frozenset.updateFrom
        generalize hPI : pyIter = PI
        wp_walk
        subst hPI
        refine wpAny_pyIter_list hl1 ?_
        refine wpAny_bind (wpAny_runValue ?_)
        have hlS : l < s.heap.objs.size := Heap.lt_size hol
        have hh3 : A.in1.in1.in1.handled = none := by simp [hh]
        have hneI : l ≠ (s.heap.push { cls := .type "set", dict := none, data := .set #[] 0 (.fresh 0 0 (!w.params.followText "set-order")) }).objs.size := by
          rw [Heap.size_push]; exact Nat.ne_of_lt (Nat.lt_succ_of_lt hlS)
        have hSf : s.heap.objs.size ∉ [(s.heap.push { cls := .type "set", dict := none, data := .set #[] 0 (.fresh 0 0 (!w.params.followText "set-order")) }).objs.size, l] := by
          rw [Heap.size_push]; simp only [List.mem_cons, List.mem_singleton, List.not_mem_nil, or_false, not_or]
          exact ⟨Nat.ne_of_lt (Nat.lt_succ_self _), Nat.ne_of_gt hlS⟩
        refine update ((Walks.list hh3 _ l hneI items).toS) s.heap.objs.size hSf xs hsz hb hval (items.size - 0) 0 _ (by omega) (Nat.zero_le _)
          ⟨⟨_, Heap.get?_push_size _ rfl, rfl, rfl⟩, (hl1.push _)⟩ (fresh (Heap.get?_push_of_some _ hS)) fun s' hm hS' => ?_
        obtain ⟨h', g2, d', tk', os'⟩ := s'
        have eg : g2 = s.gens := hm.gens
        have ed : d' = s.drawn := hm.drawn
        have eo : os' = s.os := hm.os
        subst eg; subst ed; subst eo
        show wpAny _ _ _ _ _ _
        refine wpAny_pure ?_
        show wpAny _ _ (ret Value.none) _ _ _
        refine wpAny_pure ⟨rfl, h', tk', rfl, hS', fun b o e => ?_⟩
        have hbl := Heap.lt_size e
        refine hm.heap b o (fun z => ?_) (Heap.get?_push_of_some _ (Heap.get?_push_of_some _ e))
        rcases List.mem_cons.mp z with z | z
        · exact Nat.ne_of_lt hbl z
        · have z := List.mem_singleton.mp z
          exact absurd hbl (by rw [z, Heap.size_push]; exact Nat.not_lt.mpr (Nat.le_succ _))
      · cases r₂ with
        | error e => exact hr₂
        | ok fl₂ =>
          cases fl₂ with
          | ret r =>
            obtain ⟨rfl, h', tk, rfl, hS', hk'⟩ := hr₂
            repeat (any_goals (first | assumption | wp_step))
            exact h _ _ hS' hk'
          | _ => exact hr₂.elim
    | _ => exact hr.elim
end
end TxSet
namespace TxSet
open PySem PySem.Spec PyProof.Rows L2
def isTx (v : Value) (k : Str) : Prop := ∃ t, v = Value.str k t
theorem each_of : ∀ (vs : List Value), (∀ v ∈ vs, ∃ k t, v = Value.str k t) → ∃ ks, PySem.W.EachIs isTx vs ks ∧ ks = vs.map fun v => kyS (0, v)
  | [], _ => ⟨[], .nil, rfl⟩
  | v :: vs, h => by
    obtain ⟨k, t, e⟩ := h v List.mem_cons_self
    obtain ⟨ks, a, b⟩ := each_of vs fun u hu => h u (List.mem_cons_of_mem _ hu)
    exact ⟨k :: ks, .cons ⟨t, e⟩ a, by rw [List.map_cons, b, e]; rfl⟩
section
variable {P : Program} {w : World} {A : Around} {E : Value → Shared → Prop} {s : Shared} {a : Addr} {ks : List Str}
theorem sorted_txt {Q : Value → Shared → Prop} (R : SetT P w s.heap a ks) (hh : A.handled = none) (hu : A.units + 8 < cLine) (hsz : ks.length ≤ sizeLine)
    (hQ : ∀ s' p (out : List Value) (c : Nat) (ks' : List Str), (∀ b o, s.heap.get? b = some o → s'.heap.get? b = some o) → s'.gens = s.gens → s'.os = s.os → s.heap.objs.size ≤ p →
      s'.heap.get? p = some (seqObj "list" out.toArray c) → PySem.W.EachIs isTx out ks' → ks'.Perm ks → Q (.ref p) s') :
    wpAny (model P w) A (call (.builtin "sorted") [.ref a]) Q E s := by
  obtain ⟨o, es, ep, t, ho, hex, hd, g, pk, nd, hb, hf, hr, hl⟩ := R
  refine Calls.call_function_entry kind_sorted plain_sorted entry_sorted (args_sorted1 _) ?_
  unfold Builtin.«sorted»
  refine wpAny_bind (m := checkCount "sorted" 1 1 _) (wpAny_pure ?_)
  refine wpAny_bind (collect_set (A := A.in1) hh ⟨o, ho, hex.1, hd⟩ hf hb hr hl fun s1 vs k1 hz g1 o1 pm => ?_)
  have hv : ∀ v ∈ vs, ∃ k t, v = Value.str k t := fun v hv => by
    obtain ⟨e, he, q⟩ := List.mem_map.mp (pm.mem_iff.mp hv)
    obtain ⟨k, tk, h1, _⟩ := g e he
    exact ⟨k, tk, by rw [← q]; exact h1⟩
  obtain ⟨ks1, ea, eb⟩ := each_of vs hv
  have pv : ks1.Perm ks := by
    have q := pm.map fun v => kyS (0, v)
    rw [List.map_map] at q
    rw [eb]
    exact q.trans pk
  have hvl : vs.length = ks1.length := ea.length
  have hz2 : vs.length ≤ sizeLine := by rw [hvl, pv.length_eq]; exact hsz
  refine wpAny_bind (wpAny_newList ?_ hz2)
  have hoL : (s1.heap.push (seqObj "list" vs.toArray 0)).get? s1.heap.objs.size = some (seqObj "list" vs.toArray 0) := Heap.get?_push_size _ rfl
  refine wpAny_bind (wpAny_holding (PySem.W.list_sort_data (s := { s1 with heap := s1.heap.push (seqObj "list" vs.toArray 0) }) (R := isTx) (enc := fun k => PyData.str k) (bs := ks1) hoL ea (ea.mono fun v k ⟨t, e⟩ => ⟨[], by rw [e]; exact .str k t, by simp⟩) (PySem.W.AllAlike.of fun b b' => rfl) (PySem.W.Sortable.others fun b => ⟨(fun z => nomatch z), fun xs z => nomatch z⟩) (by rw [← hvl]; exact hz2) (fun b _ => ?_) fun out a1 a2 => ?_))
  · show A.units + 1 + 1 + 0 < cLine
    omega
  obtain ⟨c, hc⟩ := sortedHeap_at (vs := vs) (out := out.toArray) hoL
  refine wpAny_pure ⟨_, rfl, hQ _ s1.heap.objs.size out c _ (fun b u e => ?_) g1 o1 hz hc a2 ((List.mergeSort_perm _ _).trans pv)⟩
  have q := k1 b u e
  have hlt := Heap.lt_size q
  show (sortedHeap (s1.heap.push (seqObj "list" vs.toArray 0)) s1.heap.objs.size vs out.toArray).get? b = some u
  rw [sortedHeap_old (Nat.ne_of_lt hlt) (by rw [size_push']; exact Nat.lt_succ_of_lt hlt)]
  exact Heap.get?_push_of_some _ q
end
def SetTO (P : Program) (w : World) (a : Addr) (ks : List Str) : HO := .ext fun h => SetT P w h a ks
theorem setTO_new {P : Program} {w : World} {H : Hp} {h : Heap} {a : Addr} {ks : List Str} (R : SetT P w h a ks) : ObjOk P w H h a (SetTO P w a ks) := by
  have ⟨o, es, ep, t, ho, _⟩ := R
  exact ⟨R, ⟨o, ho⟩, fun h1 h2 p k => SetT.at p k⟩
theorem vals_str : ∀ {ks : List Str} {us : List Value}, Vals (ks.map V.str) us → ∀ (i : Nat) (v : Value), us[i]? = some v → ∃ x t, ks[i]? = some x ∧ v = .str x t
  | [], _, .nil, i, v, h => by simp at h
  | k :: ks, _, .cons r t, 0, v, h => by
    obtain ⟨tk, rfl⟩ := r
    cases h
    exact ⟨k, tk, rfl, rfl⟩
  | k :: ks, _, .cons r t, i + 1, v, h => by
    rw [List.getElem?_cons_succ] at h ⊢
    exact vals_str t i v h
theorem vals_tx : ∀ {us : List Value} {ks : List Str}, PySem.W.EachIs isTx us ks → Vals (ks.map V.str) us
  | _, _, .nil => .nil
  | _, _, .cons ⟨t, e⟩ h => .cons ⟨t, e⟩ (vals_tx h)
section
variable {X : Cx}
def rSetT (K : PySem.W.Frag) (P : Program) (w : World) : List V → Hp → VK → Prop := fun xs H Q => ∃ (l : Addr) (ks : List Str), xs = [V.ref l] ∧ SqL K H l (ks.map V.str) ∧ ks.length + 1 < scanBound ∧
  ∀ a, H a = none → Q (.ref a) (upd H a (SetTO P w a (ks.foldl grow [])))
theorem cr_setT (hc : X.calm = true) : CallR X (.type "set") (rSetT X.K X.prog X.w) := by
  intro pins s σ H xs us Q I r h
  obtain ⟨l, ks, rfl, hl, hb, q⟩ := h
  rw [Vals.ref1 r]
  obtain ⟨its, rv, pl, hz⟩ := I.list hl
  have hn : H s.heap.objs.size = none := I.hok.fresh (Nat.le_refl _)
  refine call_set (P := X.prog) (w := X.w) (xs := ks) (I.ok.hd hc) pl.isList ?_ (fun i v e => vals_str rv i v (by simpa using e)) hb fun h' tk R k => ?_
  · have := rv.length
    rw [List.length_map] at this
    simp [this]
  · exact ⟨.ref s.heap.objs.size, upd H s.heap.objs.size (SetTO X.prog X.w s.heap.objs.size _), I.laid (t' := tk) k (Nat.le_refl _) (setTO_new R), rfl, q _ hn⟩
def rSortT (P : Program) (w : World) : List V → Hp → VK → Prop := fun vs H Q => ∃ (a : Addr) (ks : List Str), vs = [V.ref a] ∧ H a = some (SetTO P w a ks) ∧ ks.length ≤ sizeLine ∧
  ∀ (ks' : List Str) (p : Addr), ks'.Perm ks → H p = none → Q (.ref p) (upd H p (.lst (ks'.map V.str)))
theorem cr_sortT (hc : X.calm = true) (hu : X.A.units + 8 < cLine) : CallR X (.builtin "sorted") (rSortT X.prog X.w) := by
  intro pins s σ H vs us Q I r h
  obtain ⟨a, ks, rfl, ha, hsz, q⟩ := h
  have R : SetT X.prog X.w s.heap a ks := (I.hok a _ ha).1
  rw [Vals.ref1 r]
  refine sorted_txt R (I.ok.hd hc) hu hsz fun s' p out c ks' k g o hp hg hout pm => ?_
  have hlen : (ks'.map V.str).length ≤ sizeLine := by rw [List.length_map, pm.length_eq]; exact hsz
  have hn : H p = none := I.hok.fresh hp
  have J : Inv X pins σ (upd H p (.lst (ks'.map V.str))) { s with heap := s'.heap, gens := s'.gens, drawn := s'.drawn, toks := s'.toks } :=
    I.call (ch := []) (Un.laid k hp hn) (I.hok.laid k hp ⟨hlen, out, c, vals_tx hout, hg⟩) (by rw [g]; exact I.bare) (fun _ z => nomatch z)
  have e : s' = { s with heap := s'.heap, gens := s'.gens, drawn := s'.drawn, toks := s'.toks } := by
    cases s'
    cases s
    cases o
    rfl
  rw [e]
  exact ⟨.ref p, _, J, rfl, q ks' p pm hn⟩
end
end TxSet
namespace Z
open PySem PySem.Spec PyProof.Rows L2 TxSet
section
variable {X : Cx} {B : Bs} {pos p p2 pos2 : Pos} {e : Expr} {ga : DTA} {k : Nat}
end
end Z
namespace Z
open PySem PySem.Spec PyProof.Rows L2
def la2 (w : List Nat) : List Nat := w.drop (w.length - 2)
theorem la2_suf (w : List Nat) : la2 w <:+ w := List.drop_suffix _ _
theorem la2_snoc (w : List Nat) (t : Nat) : la2 (w ++ [t]) = la2 (la2 w ++ [t]) := by
  unfold la2
  rw [List.length_append, List.length_append, List.length_drop, List.length_singleton]
  rw [show w.length + 1 - 2 = w.length - 1 from by omega]
  by_cases h : w.length ≤ 1
  · rw [show w.length - (w.length - 2) + 1 - 2 = w.length - 1 from by omega, show w.length - 2 = 0 from by omega, List.drop_zero]
  · rw [List.drop_append_of_le_length (by omega), List.drop_append_of_le_length (by rw [List.length_drop]; omega), List.drop_drop]
    congr 2
    omega
variable {bs : List (List Nat)}
def B3 (bs : List (List Nat)) : Prop := ∀ b ∈ bs, LR b ∧ b ≠ [] ∧ b.length ≤ 3
theorem B3.step (h : B3 bs) (w : List Nat) (t : Nat) : NoBar bs (w ++ [t]) ↔ NoBar bs w ∧ NoBar bs (la2 w ++ [t]) := by
  constructor
  · intro n
    refine ⟨fun b m z => n b m (z.trans (List.prefix_append w [t]).isInfix), fun b m z => n b m (z.trans ?_)⟩
    obtain ⟨p, e⟩ := la2_suf w
    exact ⟨p, [], by rw [List.append_nil, ← List.append_assoc, e]⟩
  · rintro ⟨n1, n2⟩ b m ⟨p, s, e⟩
    obtain ⟨_, b0, b3⟩ := h b m
    cases hs : s.reverse with
    | nil =>
      have : s = [] := List.reverse_eq_nil_iff.mp hs
      subst this
      rw [List.append_nil] at e
      obtain ⟨c, d, rfl⟩ : ∃ c d, b = c ++ [d] := ⟨b.dropLast, b.getLast b0, (List.dropLast_concat_getLast b0).symm⟩
      rw [← List.append_assoc] at e
      have e1 : p ++ c = w := (List.append_inj' e rfl).1
      have e2 : [d] = [t] := (List.append_inj' e rfl).2
      refine n2 _ m ?_
      rw [← e2]
      have cl : c.length ≤ 2 := by rw [List.length_append, List.length_singleton] at b3; omega
      have : c <:+ la2 w := by
        unfold la2
        rw [← e1]
        refine ⟨p.drop ((p ++ c).length - 2), ?_⟩
        rw [List.length_append, List.drop_append, show p.length + c.length - 2 - p.length = 0 from by omega, List.drop_zero]
      obtain ⟨q, eq⟩ := this
      exact ⟨q, [], by rw [← eq]; simp⟩
    | cons x r =>
      have : s = r.reverse ++ [x] := by rw [← List.reverse_reverse s, hs, List.reverse_cons]
      subst this
      rw [← List.append_assoc] at e
      have e1 := (List.append_inj' e rfl).1
      exact n1 b m ⟨p, r.reverse, e1⟩
theorem B3.same (h : B3 bs) {w w' : List Nat} (n : NoBar bs w) (n' : NoBar bs w') (e : la2 w = la2 w') : ∀ u, NoBar bs (w ++ u) ↔ NoBar bs (w' ++ u) := by
  have gen : ∀ u : List Nat, (la2 (w ++ u) = la2 (w' ++ u)) ∧ (NoBar bs (w ++ u) ↔ NoBar bs (w' ++ u)) := by
    intro u
    induction hn : u.length generalizing u with
    | zero => rw [List.eq_nil_of_length_eq_zero hn, List.append_nil, List.append_nil]; exact ⟨e, fun _ => n', fun _ => n⟩
    | succ k ih =>
      obtain ⟨c, d, rfl⟩ : ∃ c d, u = c ++ [d] := ⟨u.dropLast, u.getLast (by intro z; rw [z] at hn; cases hn), (List.dropLast_concat_getLast _).symm⟩
      rw [List.length_append, List.length_singleton] at hn
      obtain ⟨i1, i2⟩ := ih c (by omega)
      rw [← List.append_assoc, ← List.append_assoc]
      refine ⟨by rw [la2_snoc, i1, ← la2_snoc], ?_⟩
      exact (h.step _ _).trans ((and_congr i2 (by rw [i1])).trans (h.step _ _).symm)
  exact fun u => (gen u).2
theorem B3.ext (h : B3 bs) {w w' : List Nat} (n : NoBar bs w) (n' : NoBar bs w') (e : la2 w = la2 w') : Ext (NoBar bs) w ↔ Ext (NoBar bs) w' := by
  have k := h.same n n' e
  constructor
  · intro z m
    obtain ⟨v, a, b, c⟩ := z m
    exact ⟨v, a, b, (k v).mp c⟩
  · intro z m
    obtain ⟨v, a, b, c⟩ := z m
    exact ⟨v, a, b, (k v).mpr c⟩
theorem B3.ten (h : B3 bs) (w : List Nat) : (∃ v, LR v ∧ v.length = 10 ∧ NoBar bs (w ++ v)) ↔ Ext (NoBar bs) w := by
  constructor
  · rintro ⟨v0, a0, b0, c0⟩
    have pre : ∀ {u v : List Nat}, NoBar bs (u ++ v) → NoBar bs u := fun n b m z => n b m (z.trans (List.prefix_append _ _).isInfix)
    -- longer and longer
    have more : ∀ N, ∃ v, LR v ∧ N + 10 ≤ v.length ∧ NoBar bs (w ++ v) := by
      intro N
      induction N with
      | zero => exact ⟨v0, a0, by omega, c0⟩
      | succ N ih =>
        obtain ⟨v, a, b, c⟩ := ih
        have len : ∀ i, i ≤ v.length → (w ++ v.take i).length = w.length + i := fun i hi => by rw [List.length_append, List.length_take, Nat.min_eq_left hi]
        -- two places of the first ten with the same last two turns
        have two : ∃ i j, i < j ∧ j ≤ 10 ∧ la2 (w ++ v.take i) = la2 (w ++ v.take j) := by
          have fin : ∀ k, 2 ≤ k → k ≤ 10 → la2 (w ++ v.take k) ∈ [[76, 76], [76, 82], [82, 76], [82, 82]] := by
            intro k h2 h10
            have e : la2 (w ++ v.take k) = (v.take k).drop (k - 2) := by
              unfold la2
              rw [len k (by omega), List.drop_append, List.drop_eq_nil_of_le (by omega), List.nil_append]
              congr 1
              omega
            have l2 : ((v.take k).drop (k - 2)).length = 2 := by rw [List.length_drop, List.length_take]; omega
            have lr : LR ((v.take k).drop (k - 2)) := fun c hc => a c (List.mem_of_mem_take (List.mem_of_mem_drop hc))
            rw [e]
            match (v.take k).drop (k - 2), l2, lr with
            | [p, q], _, lr =>
              have h1 := lr p (by simp)
              have h2 := lr q (by simp)
              rcases h1 with rfl | rfl <;> rcases h2 with rfl | rfl <;> simp
          apply Classical.byContradiction
          intro z
          have nd : ((List.range 5).map fun k => la2 (w ++ v.take (k + 2))).Nodup := by
            rw [List.nodup_iff_pairwise_ne, List.pairwise_map]
            refine List.Pairwise.imp_of_mem (fun {p q} hp hq hlt e => ?_) (List.pairwise_lt_range (n := 5))
            rw [List.mem_range] at hp hq
            exact z ⟨p + 2, q + 2, by omega, by omega, e⟩
          have sub : ∀ x ∈ ((List.range 5).map fun k => la2 (w ++ v.take (k + 2))), x ∈ [[76, 76], [76, 82], [82, 76], [82, 82]] := fun x hx => by
            obtain ⟨k, hk, rfl⟩ := List.mem_map.mp hx
            rw [List.mem_range] at hk
            exact fin (k + 2) (by omega) (by omega)
          have := ndp_len _ _ nd sub
          simp at this
        obtain ⟨i, j, hij, hj, e⟩ := two
        have ni : NoBar bs (w ++ v.take i) := by
          refine pre (v := v.drop i) ?_
          rw [List.append_assoc, List.take_append_drop]
          exact c
        have nj : NoBar bs (w ++ v.take j) := by
          refine pre (v := v.drop j) ?_
          rw [List.append_assoc, List.take_append_drop]
          exact c
        refine ⟨v.take j ++ v.drop i, fun x hx => (List.mem_append.mp hx).elim (fun z => a x (List.mem_of_mem_take z)) fun z => a x (List.mem_of_mem_drop z), ?_, ?_⟩
        · rw [List.length_append, List.length_take, List.length_drop]; omega
        · rw [← List.append_assoc]
          refine (h.same ni nj e (v.drop i)).mp ?_
          rw [List.append_assoc, List.take_append_drop]
          exact c
    intro n
    obtain ⟨v, a, b, c⟩ := more n
    refine ⟨v.take n, fun x hx => a x (List.mem_of_mem_take hx), by rw [List.length_take]; omega, pre (v := v.drop n) ?_⟩
    rw [List.append_assoc, List.take_append_drop]
    exact c
  · intro z
    exact z 10
def Ends (bs : List (List Nat)) (w : List Nat) (i : Nat) (l : List (List Nat)) : Prop := ∀ e, e ∈ l ↔ ∃ v, LR v ∧ v.length = i ∧ NoBar bs (w ++ v) ∧ e = la2 (w ++ v)
theorem Ends.start (n : NoBar bs w) : Ends bs w 0 [la2 w] := fun e => by
  rw [List.mem_singleton]
  constructor
  · rintro rfl
    exact ⟨[], (fun _ z => nomatch z), rfl, by rw [List.append_nil]; exact n, by rw [List.append_nil]⟩
  · rintro ⟨v, _, hv, _, rfl⟩
    rw [List.eq_nil_of_length_eq_zero hv, List.append_nil]
theorem Ends.next (h : B3 bs) {w : List Nat} {i : Nat} {l l' : List (List Nat)} (k : Ends bs w i l) (hl : ∀ e, e ∈ l' ↔ ∃ u, (∃ c ∈ l, u = c ++ [76] ∨ u = c ++ [82]) ∧ NoBar bs u ∧ e = la2 u) : Ends bs w (i + 1) l' := fun e => by
  rw [hl]
  constructor
  · rintro ⟨u, ⟨c, hc, hu⟩, nu, rfl⟩
    obtain ⟨v, a, b, n, rfl⟩ := (k c).mp hc
    have gen : ∀ t, (t = 76 ∨ t = 82) → NoBar bs (la2 (w ++ v) ++ [t]) → ∃ v', LR v' ∧ v'.length = i + 1 ∧ NoBar bs (w ++ v') ∧ la2 (la2 (w ++ v) ++ [t]) = la2 (w ++ v') := fun t ht nt =>
      ⟨v ++ [t], lr_snoc a ht, by rw [List.length_append, b]; rfl, by rw [← List.append_assoc]; exact (h.step _ t).mpr ⟨n, nt⟩, by rw [← List.append_assoc]; exact (la2_snoc _ t).symm⟩
    rcases hu with rfl | rfl
    · exact gen 76 (.inl rfl) nu
    · exact gen 82 (.inr rfl) nu
  · rintro ⟨v, a, b, n, rfl⟩
    obtain ⟨c, t, rfl⟩ : ∃ c t, v = c ++ [t] := ⟨v.dropLast, v.getLast (by intro z; rw [z] at b; cases b), (List.dropLast_concat_getLast _).symm⟩
    rw [← List.append_assoc] at n ⊢
    obtain ⟨n1, n2⟩ := (h.step _ t).mp n
    rw [List.length_append, List.length_singleton] at b
    have ht := a t (by simp)
    refine ⟨la2 (w ++ c) ++ [t], ⟨la2 (w ++ c), (k _).mpr ⟨c, fun x hx => a x (List.mem_append_left _ hx), by omega, n1, rfl⟩, ?_⟩, n2, la2_snoc _ t⟩
    rcases ht with rfl | rfl
    · exact .inl rfl
    · exact .inr rfl
theorem Ends.fin (h : B3 bs) {w : List Nat} {l : List (List Nat)} (k : Ends bs w 10 l) : l ≠ [] ↔ Ext (NoBar bs) w := by
  rw [← h.ten]
  constructor
  · intro z
    obtain ⟨e, he⟩ := List.exists_mem_of_ne_nil l z
    obtain ⟨v, a, b, c, _⟩ := (k e).mp he
    exact ⟨v, a, b, c⟩
  · rintro ⟨v, a, b, c⟩ z
    rw [z] at k
    exact absurd ((k _).mpr ⟨v, a, b, c, rfl⟩) (by simp)
theorem Ends.lr {w : List Nat} (lw : LR w) {i : Nat} {l : List (List Nat)} (k : Ends bs w i l) : ∀ e ∈ l, LR e ∧ e.length ≤ 2 := fun e he => by
  obtain ⟨v, a, _, _, rfl⟩ := (k e).mp he
  refine ⟨fun c hc => ?_, by unfold la2; rw [List.length_drop]; omega⟩
  exact (List.mem_append.mp ((la2_suf _).subset hc)).elim (lw c) (a c)
end Z
namespace Z
open PySem PySem.Spec PyProof.Rows L2
end Z
namespace Z
open PySem PySem.Spec PyProof.Rows L2
section
variable {S : Hst} {P : List Nat → Prop}
end
end Z
namespace Z
open PySem PySem.Spec PyProof.Rows L2
def allW : Nat → List (List Nat)
  | 0 => [[]]
  | n + 1 => (allW n).flatMap fun w => [w ++ [76], w ++ [82]]
theorem allW_len : ∀ n, (allW n).length = 2 ^ n
  | 0 => rfl
  | n + 1 => by
    have : ∀ l : List (List Nat), (l.flatMap fun w => [w ++ [76], w ++ [82]]).length = 2 * l.length := by
      intro l
      induction l with
      | nil => rfl
      | cons a l ih => rw [List.flatMap_cons, List.length_append, ih, List.length_cons]; simp; omega
    unfold allW
    rw [this, allW_len n]
    omega
theorem allW_mem : ∀ {n : Nat} {w : List Nat}, w ∈ allW n ↔ LR w ∧ w.length = n
  | 0, w => by
    unfold allW
    rw [List.mem_singleton]
    constructor
    · rintro rfl; exact ⟨(fun _ z => nomatch z), rfl⟩
    · exact fun h => List.eq_nil_of_length_eq_zero h.2
  | n + 1, w => by
    unfold allW
    rw [List.mem_flatMap]
    constructor
    · rintro ⟨c, hc, hw⟩
      obtain ⟨a, b⟩ := allW_mem.mp hc
      simp only [List.mem_cons, List.not_mem_nil, or_false] at hw
      rcases hw with rfl | rfl
      · exact ⟨lr_snoc a (.inl rfl), by rw [List.length_append, b]; rfl⟩
      · exact ⟨lr_snoc a (.inr rfl), by rw [List.length_append, b]; rfl⟩
    · rintro ⟨a, b⟩
      obtain ⟨c, t, rfl⟩ : ∃ c t, w = c ++ [t] := ⟨w.dropLast, w.getLast (by intro z; rw [z] at b; cases b), (List.dropLast_concat_getLast _).symm⟩
      rw [List.length_append, List.length_singleton] at b
      refine ⟨c, allW_mem.mpr ⟨fun x hx => a x (List.mem_append_left _ hx), by omega⟩, ?_⟩
      have := a t (by simp)
      rcases this with rfl | rfl <;> simp
section
variable {bs : List (List Nat)}
end
end Z
namespace Z
open PySem PySem.Spec PyProof.Rows L2
end Z
namespace Z

section
variable {κ : Type} [DecidableEq κ]
variable {nx : κ → Nat → Option κ} {s : κ}
end
end Z
namespace Z

section
variable {S1 S2 : Hst} {tu : Bool} {l : List T4} {u0 : T4} {n : Int} {w : List Nat}
end
end Z
namespace Z

end Z
namespace Z
open PySem PySem.Spec PyProof.Rows L2

section
variable {P : Program} {w : World} {K : PySem.W.Frag} {tg : Expr} {d : Addr} {o : Obj} {es : Array DictEntry} {ep : Nat}
end
end Z
namespace Z
open PySem PySem.Spec PyProof.Rows L2

section
variable {X : Cx} {B : Bs} {l tg : Expr} {fa : DTE}
end

section
variable {X : Cx} {B : Bs} {pos p : Pos} {e : Expr} {ga : DTA} {k : Nat}
end

section
variable {X : Cx} {B : Bs} {Ξ : XD → En → Sto → Prop} {pos p np pos' : Pos} {x : Str}
end
end Z
namespace Z
open PySem PySem.Spec PyProof.Rows L2

section
variable {X : Cx}
variable {B : Bs} {pos : Pos} {a b : Expr} {fa fb : DTE} {k : Nat}
end
theorem Two.same {R : D → D → Prop} : ∀ {l : List D}, (∀ x ∈ l, R x x) → Two R l l
  | [], _ => .nil
  | x :: l, h => .cons (h x List.mem_cons_self) (Two.same fun y hy => h y (List.mem_cons_of_mem _ hy))
theorem Two.imp {R S : D → D → Prop} (i : ∀ x y, R x y → S x y) : ∀ {l l' : List D}, Two R l l' → Two S l l'
  | _, _, .nil => .nil
  | _, _, .cons h t => .cons (i _ _ h) (t.imp i)
theorem Two.right {R : D → D → Prop} {P : D → Prop} (i : ∀ x y, R x y → P y) : ∀ {l l' : List D}, Two R l l' → ∀ y ∈ l', P y
  | _, _, .nil, y, h => nomatch h
  | _, _, .cons h t, y, hy => by
    rcases List.mem_cons.mp hy with e | hy
    · exact e ▸ i _ _ h
    · exact t.right i y hy
section
variable (S1 S2 : Hst) (tu : Bool) (l : List T4) (w : List Nat)
end
end Z
namespace Z
open PySem PySem.Spec PyProof.Rows L2

section
variable (S1 S2 : Hst) (tu : Bool) (l : List T4) (w : List Nat) (u : T4)
end
section
variable {S1 S2 : Hst} {tu : Bool} {l : List T4} {w : List Nat} {u : T4}
end
end Z
namespace Z
open PySem PySem.Spec PyProof.Rows L2

theorem cut3 {α β γ : Type} {Q C : α → β → γ → Prop} {A : Prop} (main : (∀ a b c, C a b c → Q a b c) → A) (rest : ∀ a b c, C a b c → Q a b c) : A := main rest
section
variable {X : Cx} {B : Bs} {e : Expr} {f1 f2 : DTE} {r : En} {M : Sto} {Ψ : PD}
end
end Z
namespace Z
open PySem PySem.Spec PyProof.Rows L2

def z8 (i : Nat) : Nat := if i % 8 < 4 then 76 else 82
def zs (s m : Nat) : List Nat := (List.range m).map fun i => z8 (s + i)
end Z
namespace Z
open PySem PySem.Spec PyProof.Rows L2

theorem Ib.z (n : Nat) : Ib n 0 := by unfold Ib; exact Nat.two_pow_pos n
theorem Ib.k {n : Nat} (i : Int) (h : i.natAbs < 2 ^ 3 := by decide) (hn : 3 ≤ n := by omega) : Ib n i := (show Ib 3 i from h).mono hn
end Z
namespace Z
open PySem PySem.Spec PyProof.Rows L2

section
variable {prog : Program} {w : World} {A : Around} {E : Value → Shared → Prop} {s : Shared} {K : PySem.W.Frag} {x C L f : Addr} {h₀ : Heap} {m : Str → Option Value} {ox : Obj} {od : Option Obj} {b tb : Value}
end
section
variable {X : Cx} {B : Bs} {k j : Nat} {c : Ct} {pos p : Pos} {a b : Expr} {fa fb : DTE} {C : Addr} {bs : List (Nat × List Str × (List D → List D → List D))}
end
end Z
namespace Z
open PySem PySem.Spec PyProof.Rows L2

@[irreducible] def jnS (f : DTS) : DTS := fun E r M => ∃ J : En → Sto → Prop, f {E with nx := J} r M ∧ ∀ r' M', J r' M' → E.nx r' M'
theorem ds_cutJ {X : Cx} {B : Bs} {st : Stmt} {f : DTS} (h : DS X B st f) : DS X B st (jnS f) := PS_imp h fun D' σ H hh => by
  obtain ⟨r, M, G, E, R, z, k⟩ := EkOk.of hh
  unfold jnS at z
  obtain ⟨J, q, c⟩ := z
  exact ⟨r, M, G, {E with nx := J}, R, q, ⟨fun r' M' σ' H' G' z R' s' => k.nx _ _ _ _ _ (c r' M' z) R' s', k.rt, k.bk, k.ct⟩⟩
theorem jnS_of {f : DTS} {E : Ek} {r : En} {M : Sto} (J : En → Sto → Prop) (h : f {E with nx := J} r M) (c : ∀ r' M', J r' M' → E.nx r' M') : jnS f E r M := by unfold jnS; exact ⟨J, h, c⟩
end Z
namespace Z
open PySem PySem.Spec PyProof.Rows L2

end Z
namespace Z
open PySem PySem.Spec PyProof.Rows L2

end Z
namespace Z
open PySem PySem.Spec PyProof.Rows L2

end Z
namespace Z
open PySem PySem.Spec PyProof.Rows L2

end Z
namespace Z
open PySem PySem.Spec PyProof.Rows L2
def Mx (a b : Int) : Prop := (a < 0 ∧ 0 < b) ∨ (0 < a ∧ b < 0)
instance (a b : Int) : Decidable (Mx a b) := by unfold Mx; exact inferInstance
def SetB (t : T4) : Prop := ¬ Mx t.1 t.2.1 ∧ ¬ Mx t.2.2.1 t.2.2.2
instance (t : T4) : Decidable (SetB t) := by unfold SetB; exact inferInstance
def Np (t : T4) : Prop := t.1 ≤ 0 ∧ t.2.1 ≤ 0 ∧ t.2.2.1 ≤ 0 ∧ t.2.2.2 ≤ 0
instance (t : T4) : Decidable (Np t) := by unfold Np; exact inferInstance
instance (t : T4) : Decidable (Nn t) := by unfold Nn; exact inferInstance
def Evn (t : T4) : Prop := Nn t ∨ Np t
instance (t : T4) : Decidable (Evn t) := by unfold Evn; exact inferInstance
def Apt (t : T4) : Prop := (0 ≤ t.1 ∧ 0 ≤ t.2.1 ∧ t.2.2.1 ≤ 0 ∧ t.2.2.2 ≤ 0) ∨ (t.1 ≤ 0 ∧ t.2.1 ≤ 0 ∧ 0 ≤ t.2.2.1 ∧ 0 ≤ t.2.2.2)
instance (t : T4) : Decidable (Apt t) := by unfold Apt; exact inferInstance
def mr (a b : Int) : Nat := if Mx a b then a.natAbs + b.natAbs else 0
section
variable {n : Nat} {tu : Bool} {c : Nat}
end
end Z
namespace Z
open PySem PySem.Spec PyProof.Rows L2
section
variable {x y : List Nat} {m n : T4}
end
end Z
namespace InSet
open PySem PySem.Spec PyProof.Rows L2
def kyS (e : Int × Value)   : Int := match e.2 with
  | .int k _ => k
  | _ => 0
def Gd (P : Program) (w : World) (e : Int × Value) : Prop := ∃ k tk, e.2 = Value.int k tk ∧ e.1 = (PySem.intKind P w).hash k
def SetT (P : Program) (w : World) (h : Heap) (a : Addr) (ks : List Int) : Prop :=
  ∃ o es ep t, h.get? a = some o ∧ o.ExactSet ∧ o.data = .set es ep t ∧ (∀ e ∈ es.toList, Gd P w e) ∧ (es.toList.map kyS).Perm ks ∧ ks.Nodup ∧
    es.size < scanBound ∧ t.fits es.size = true ∧ Ris t.place.toList ∧ (w.params.followText "set-order" = true ∨ t.led = true)
section
variable {P : Program} {w : World} {h h' : Heap} {a : Addr} {ks : List Int}
theorem SetT.at (R : SetT P w h a ks) (k : ∀ o, h.get? a = some o → h'.get? a = some o) : SetT P w h' a ks := by
  obtain ⟨o, es, ep, t, ho, r⟩ := R
  exact ⟨o, es, ep, t, k o ho, r⟩
theorem is_ky {e : Int × Value} (g : Gd P w e) (k : Int) : (PySem.intKind P w).is k e.2 = true ↔ kyS e = k := by
  obtain ⟨k0, tk, e1, _⟩ := g
  unfold kyS
  rw [e1]
  show ((k0 == k) = true) ↔ k0 = k
  exact beq_iff_eq
theorem elems {l : List (Int × Value)} (g : ∀ e ∈ l, Gd P w e) : ElemsOf (PySem.intKind P w) l := fun e he => by
  obtain ⟨k, tk, e1, e2⟩ := g e he
  exact ⟨⟨k, by rw [e1]; exact intKind_is P w k tk, e2⟩, by rw [e1] <;> rfl⟩
end
section
variable {P : Program} {w : World} {A : Around} {E : Value → Shared → Prop} {s : Shared} {a : Addr} {ks : List Int}
theorem tail {g : Bool → PySem.Sem Unit} (hg : ∀ (b : Bool) (s₁ : Shared) (Q' : Unit → Shared → Prop), Q' () s₁ → wpAny (model P w) A (g b) Q' E s₁)
    {o : Obj} {es es1 : Array (Int × Value)} {ep : Nat} {t t2 : SetTable} (ho : s.heap.get? a = some o) (hex : o.ExactSet) (hd : o.data = .set es ep t)
    (g1 : ∀ e ∈ es1.toList, Gd P w e) (pk : (es1.toList.map kyS).Perm ks) (nd : ks.Nodup) (hb : es1.size < scanBound) (hf : t2.fits es1.size = true) (hr : Ris t2.place.toList)
    (hl : w.params.followText "set-order" = true ∨ t2.led = true) {wd : Bool} {R : Option Bool → Shared → Prop} (hR : ∀ h', Heap.SameBut a s.heap h' → SetT P w h' a ks → R (some true) { s with heap := h' }) :
    wpAny (model P w) A (do
        storeSet a es1 t2
        if (!wd && t2.tooFull) = true then do
            g (relayAll t2 es1 (SetTable.grown es1.size)).2.2
            storeSet a (relayAll t2 es1 (SetTable.grown es1.size)).1 (relayAll t2 es1 (SetTable.grown es1.size)).2.1
            pure (some true)
          else pure (some true)) R E s := by
  refine wpAny_bind (wpAny_storeSet_of ho hd ?_ (fits_of_scanBound hb))
  have ho1 := store_at (es' := es1) (t' := t2) ho hd
  have sb := Heap.SameBut.update s.heap a (Obj.putSet es1 t2)
  cases hc : (!wd && t2.tooFull) with
  | false => rw [if_neg (by simp)]; exact wpAny_pure (hR _ sb ⟨_, es1, _, t2, ho1, hex, rfl, g1, pk, nd, hb, hf, hr, hl⟩)
  | true =>
    rw [if_pos rfl]
    have pm := relayAll_perm t2 es1 (SetTable.grown es1.size)
    have hf3 := relayAll_fits t2 es1 (SetTable.grown es1.size)
    have hr3 := relayAll_ris t2 es1 (SetTable.grown es1.size)
    have hl3 := relayAll_led t2 es1 (SetTable.grown es1.size)
    generalize relayAll t2 es1 (SetTable.grown es1.size) = Z at pm hf3 hr3 hl3 ⊢
    obtain ⟨es2, t3, gave⟩ := Z
    dsimp only at pm hf3 hr3 hl3 ⊢
    have hb2 : es2.size < scanBound := by rw [← Array.length_toList, pm.length_eq, Array.length_toList]; exact hb
    refine wpAny_bind (hg _ _ _ (wpAny_bind (wpAny_storeSet_of ho1 rfl ?_ (fits_of_scanBound hb2))))
    exact wpAny_pure (hR _ (sb.trans (Heap.SameBut.update _ a _)) ⟨_, es2, _, t3, store_at (es' := es2) (t' := t3) ho1 rfl, hex, rfl, fun e he => g1 e (pm.mem_iff.mp he), (pm.map kyS).trans pk, nd, hb2, hf3, hr3, hl.imp id fun z => by rw [hl3]; exact z⟩)
theorem add {k   : Int} {tk : Tok} {Q : Bool → Shared → Prop} (R : SetT P w s.heap a ks) (room : ks.length + 1 < scanBound)
    (hQ : ∀ b h', Heap.SameBut a s.heap h' → SetT P w h' a (if k ∈ ks then ks else ks ++ [k]) → Q b { s with heap := h' }) :
    wpAny (model P w) A (setAddHashed a (.int k tk) ((PySem.intKind P w).hash k)) Q E s := by
  obtain ⟨o, es, ep, t, ho, hex, hd, g, pk, nd, hb, hf, hr, hl⟩ := R
  have hkey : (PySem.intKind P w).is k (.int k tk) = true := intKind_is P w k tk
  have hsc : (Value.int k tk).scannable = true := rfl
  have hel := elems g
  unfold setAddHashed setAddHashedIn
  refine wpAny_holding (wpAny_bind (wpAny_setState_of ho hd hf ?_))
  dsimp only
  rw [byScan_of hsc hb hel]
  simp only [↓reduceIte]
  unfold setAddByScan
  refine wpAny_bind (wpAny_bind (wpAny_rule (wpAny_bind (wpAny_setScan_of hkey ho hd hf hel ?_))))
  cases hfi : List.findIdx? (fun e => (PySem.intKind P w).is k e.2) es.toList with
  | some j =>
    dsimp only
    obtain ⟨hj, pj, _⟩ := List.findIdx?_eq_some_iff_getElem.mp hfi
    have hk : k ∈ ks := pk.mem_iff.mp (List.mem_map.mpr ⟨_, List.getElem_mem hj, (is_ky (g _ (List.getElem_mem hj)) k).mp pj⟩)
    refine wpAny_pure (wpAny_pure (hQ _ s.heap (Heap.SameBut.refl a s.heap) ?_))
    rw [if_pos hk]
    exact ⟨o, es, ep, t, ho, hex, hd, g, pk, nd, hb, hf, hr, hl⟩
  | none =>
    dsimp only
    have hk : k ∉ ks := fun z => by
      obtain ⟨e, he, q⟩ := List.mem_map.mp (pk.mem_iff.mpr z)
      have c := List.findIdx?_eq_none_iff.mp hfi e he
      rw [(is_ky (g e he) k).mpr q] at c
      cases c
    have pm := layNew_perm t es ((PySem.intKind P w).hash k) (.int k tk)
    have hf1 := layNew_fits t es ((PySem.intKind P w).hash k) (.int k tk)
    have hr1 := layNew_ris t es ((PySem.intKind P w).hash k) (.int k tk) hr
    have hl1 := layNew_led t es ((PySem.intKind P w).hash k) (.int k tk)
    generalize layNew t es ((PySem.intKind P w).hash k) (.int k tk) = Z at pm hf1 hr1 hl1 ⊢
    obtain ⟨es1, t1, wd, gave⟩ := Z
    dsimp only at pm hf1 hr1 hl1 ⊢
    rw [Array.toList_push] at pm
    have g1 : ∀ e ∈ es1.toList, Gd P w e := fun e he => by
      rcases List.mem_append.mp (pm.mem_iff.mp he) with z | z
      · exact g e z
      · rw [List.mem_singleton.mp z]; exact ⟨k, tk, rfl, rfl⟩
    have pk1 : (es1.toList.map kyS).Perm (ks ++ [k]) := by
      have := pm.map kyS
      rw [List.map_append] at this
      exact this.trans (pk.append_right _)
    have nd1 : (ks ++ [k]).Nodup := List.nodup_append.mpr ⟨nd, by simp, fun x hx y hy => by rw [List.mem_singleton.mp hy]; exact fun z => hk (z ▸ hx)⟩
    have hb1 : es1.size < scanBound := by
      have := pk1.length_eq
      rw [List.length_map, Array.length_toList, List.length_append, List.length_singleton] at this
      omega
    have led : w.params.followText "set-order" = true ∨ t1.led = true := hl.imp id fun z => by rw [hl1]; exact z
    have fin : ∀ h', Heap.SameBut a s.heap h' → SetT P w h' a (ks ++ [k]) → Q true { s with heap := h' } := fun h' sb r => hQ true h' sb (by rw [if_neg hk]; exact r)
    have hgw : ∀ (b : Bool) {s₁ : Shared} {Q' : Unit → Shared → Prop}, Q' () s₁ → wpAny (model P w) A (match b with | true => rule "set.scan.the-table-gave-way" | false => pure ()) Q' E s₁ :=
      fun b s₁ Q' q => by cases b <;> first | exact wpAny_pure q | exact wpAny_rule q
    refine wpAny_bind (hgw _ ?_)
    split
    · refine wpAny_bind ?_
      rw [hashByValue_scannable 8 hsc]
      refine wpAny_pure (tail ?_ ho hex hd g1 pk1 nd1 hb1 ?_ ?_ ?_ fun h' sb r => ?_)
      · intro b s₁ Q' q; cases b <;> first | exact wpAny_pure q | exact wpAny_rule q
      · first | (split <;> first | exact hf1 | exact SetTable.fits_plain_off hf1) | exact hf1
      · first | (split <;> exact hr1) | exact hr1
      · first | (split <;> exact led) | exact led
      · dsimp only; exact wpAny_pure (fin h' sb r)
    · refine wpAny_bind (wpAny_pure ?_)
      simp only [↓reduceIte]
      refine tail ?_ ho hex hd g1 pk1 nd1 hb1 hf1 hr1 led fun h' sb r => ?_
      · intro b s₁ Q' q; cases b <;> first | exact wpAny_pure q | exact wpAny_rule q
      · dsimp only; exact wpAny_pure (fin h' sb r)

def grow (ks : List Int) (k : Int) : List Int := if k ∈ ks then ks else ks ++ [k]
theorem grow_mem (ks : List Int) (k j : Int) : j ∈ grow ks k ↔ j ∈ ks ∨ j = k := by
  unfold grow
  split
  · rename_i h
    exact ⟨.inl, fun z => z.elim id fun e => e ▸ h⟩
  · simp
theorem grow_len (ks : List Int) (k : Int) : (grow ks k).length ≤ ks.length + 1 := by
  unfold grow
  split <;> simp
theorem fold_mem : ∀ (xs ks : List Int) (j : Int), j ∈ xs.foldl grow ks ↔ j ∈ ks ∨ j ∈ xs
  | [], ks, j => by simp
  | x :: xs, ks, j => by
    rw [List.foldl_cons, fold_mem xs, grow_mem, List.mem_cons]
    exact or_assoc
theorem fold_len : ∀ (xs ks : List Int), (xs.foldl grow ks).length ≤ ks.length + xs.length
  | [], ks => by simp
  | x :: xs, ks => by
    rw [List.foldl_cons]
    have := fold_len xs (grow ks x)
    have := grow_len ks x
    rw [List.length_cons]
    omega
theorem update {I : Addr} {fp wr : List Addr} {G : Array GenState → Array GenState → Prop} {n : Nat} {Pv : Nat → Value → Prop} {St : Nat → Shared → Prop} {R : Result → Shared → Prop}
    (W : WalksS P w A.in1 I fp wr G n Pv St) (S : Addr) (hSf : S ∉ fp) (xs : List Int) (hn : n = xs.length) (hsz : xs.length + 1 < scanBound) (hval : ∀ i v, Pv i v → ∃ x t, xs[i]? = some x ∧ v = .int x t) :
    ∀ (k i : Nat) (s : Shared), n - i = k → i ≤ n → St i s → SetT P w s.heap S ((xs.take i).foldl grow []) →
      (∀ s', Moved (S :: wr) G s s' → SetT P w s'.heap S (xs.foldl grow []) → R (.ok (.ret .none)) s') →
      codeAny (model P w) A (.builtin "set.update.loop" ⟨[.ref S, .ref I], []⟩) R s := by
  have hSw : S ∉ wr := fun h => hSf (W.sub _ h)
  have hsub : ∀ b ∈ wr, b ∈ S :: wr := fun b hb => List.mem_cons_of_mem _ hb
  intro k
  induction k with
  | zero =>
    intro i s hk hi hst hS hR
    have hin : i = n := by omega
    subst hin
    refine codeAny_builtin PyProof.Rows.F.entry_set_update_loop ?_
    rw [Around.under_plainId PyProof.Rows.F.plain_set_update_loop _]
    show wpAny _ A.in1 (pyNext (.ref I) >>= _) _ _ s
    refine wpAny_bind (W.done s _ _ hst fun s' hm => ?_)
    show wpAny _ A.in1 (ret Value.none) _ _ s'
    rw [hn, List.take_length] at hS
    exact wpAny_pure (hR s' (hm.mono hsub) (hS.at fun o e => hm.heap S o hSw e))
  | succ k ih =>
    intro i s hk hi hst hS hR
    have hlt : i < n := by omega
    refine codeAny_builtin PyProof.Rows.F.entry_set_update_loop ?_
    rw [Around.under_plainId PyProof.Rows.F.plain_set_update_loop _]
    show wpAny _ A.in1 (pyNext (.ref I) >>= _) _ _ s
    refine wpAny_bind (W.item i s _ _ hlt hst fun v s' hP hst' hm => ?_)
    obtain ⟨x, t, hx, rfl⟩ := hval i v hP
    have hS' := hS.at fun o e => hm.heap S o hSw e
    show wpAny _ A.in1 (holding [Value.int x t] (setAdd S (.int x t)) >>= _) _ _ s'
    refine wpAny_bind (wpAny_holding ?_)
    unfold setAdd
    refine wpAny_holding ?_
    refine wpAny_bind ((PySem.intKind P w).pyHash (k := x) (intKind_is _ _ _ _) ?_)
    have hl : ((xs.take i).foldl grow []).length ≤ xs.length := by
      have := fold_len (xs.take i) []
      rw [List.length_take, List.length_nil] at this
      omega
    refine add (s := { s' with toks := s'.toks + 1 }) hS' (by omega) fun b h' hsb hS2 => ?_
    have e2 : (xs.take (i + 1)).foldl grow [] = grow ((xs.take i).foldl grow []) x := by
      rw [List.take_add_one, hx, List.foldl_append]
      rfl
    refine wpAny_pure ⟨plainId_quiet PyProof.Rows.F.plain_set_update_loop _, ih (i + 1) _ (by omega) hlt (W.frame _ s' _ _ hst' (Nat.le_succ _) fun b hb o e => ?_) (by rw [e2]; exact hS2) fun s'' hm'' hS'' => ?_⟩
    · rw [hsb.2 b (fun h : b = S => hSf (by rw [← h]; exact hb))]; exact e
    · refine hR s'' (Moved.trans W.gtrans ((hm.mono hsub).then_heap (Nat.le_succ _) fun b o hb e => ?_) hm'') hS''
      rw [hsb.2 b (fun h : b = S => hb (by rw [h]; exact List.mem_cons_self))]; exact e
theorem fresh {h : Heap} {a : Addr} (ho : h.get? a = some { cls := .type "set", dict := none, data := .set #[] 0 (.fresh 0 0 (!w.params.followText "set-order")) }) : SetT P w h a [] :=
  ⟨_, #[], 0, _, ho, ⟨rfl, rfl, rfl⟩, rfl, (fun e he => by simp at he), by simp, by simp, by decide, rfl, List.Pairwise.nil, by
    show _ ∨ (!w.params.followText "set-order") = true
    cases w.params.followText "set-order"
    · exact .inr rfl
    · exact .inl rfl⟩
set_option maxRecDepth 100000 in
set_option maxHeartbeats 3200000 in
theorem call_set {l : Addr} {items : Array Value} {xs : List Int} {Q : Value → Shared → Prop} (hh : A.handled = none) (hl : s.heap.IsList l items) (hsz : items.size = xs.length) (hval : ∀ (i : Nat) (v : Value), items[i]? = some v → ∃ x t, xs[i]? = some x ∧ v = .int x t) (hb : xs.length + 1 < scanBound)
    (h : ∀ (h' : Heap) (tk : Nat), SetT P w h' s.heap.objs.size (xs.foldl grow []) → (∀ b o, s.heap.get? b = some o → h'.get? b = some o) → Q (.ref s.heap.objs.size) { s with heap := h', toks := tk }) :
    wpAny (model P w) A (call (.type "set") [.ref l]) Q E s := by
  obtain ⟨c, tl, hmro⟩ := F.called_set.mro
  have hmade := F.called_set.made
  have hsub := F.called_set.sub
  refine wpAny_call (codeAny_of_tree ?_)
  show wpAny _ _ (callAny (.type "set") _) _ _ _
  refine wpAny_pure ⟨Code.quiet_builtin _ (by decide +kernel), codeAny_builtin F.entry_type_call ?_⟩
  rw [Around.under_plain (weight_type_call_type "set" [.ref l] []) rfl]
  have h1 := F.called_set.notType
  have h2 := F.called_set.canCreate
  have hct := F.typeCall_set_1 (.ref l)
  repeat (any_goals (first | assumption | wp_step))
  refine codeAny_mono (code_set_led1 (.ref l) (E := E) (Q₁ := fun obj s₁ => obj = .ref s.heap.objs.size ∧ s₁ = { s with heap := s.heap.push { cls := .type "set", dict := none, data := .set #[] 0 (.fresh 0 0 (!w.params.followText "set-order")) } }) ⟨rfl, rfl⟩) fun r s₁ hr => ?_
  cases r with
  | error e => exact hr
  | ok fl =>
    cases fl with
    | ret obj =>
      obtain ⟨rfl, rfl⟩ := hr
      have hS : (s.heap.push { cls := .type "set", dict := none, data := .set #[] 0 (.fresh 0 0 (!w.params.followText "set-order")) }).get? s.heap.objs.size = some { cls := .type "set", dict := none, data := .set #[] 0 (.fresh 0 0 (!w.params.followText "set-order")) } := Heap.get?_push_size _ rfl
      have hT : Shared.TypeIs { s with heap := s.heap.push { cls := .type "set", dict := none, data := .set #[] 0 (.fresh 0 0 (!w.params.followText "set-order")) } } (.ref s.heap.objs.size) "set" := ⟨_, hS, rfl⟩
      have hli := F.called_set.init.lookup
      have hbi := F.called_set.init.bind (.ref s.heap.objs.size)
      repeat (any_goals (first | assumption | wp_step))
      refine codeAny_mono (codeAny_call_builtin (R := wants (fun r s₂ => r = .none ∧ ∃ h' tk, s₂ = { s with heap := h', toks := tk } ∧ SetT P w h' s.heap.objs.size (xs.foldl grow []) ∧
          (∀ b o, s.heap.get? b = some o → h'.get? b = some o)) E) F.called_set.init.plain F.entry_set_init (check_set_init_1 hT ?_)) fun r₂ s₂ hr₂ => ?_
      · obtain ⟨ol, hol, hcl, nl, hdl⟩ := hl
        obtain ⟨ocls, odict, odata, oslots⟩ := ol
        simp only at hcl hdl
        subst hcl; subst hdl
        have hol' : (s.heap.push { cls := .type "set", dict := none, data := .set #[] 0 (.fresh 0 0 (!w.params.followText "set-order")) }).get? l = some { cls := .type "list", dict := odict, data := .seq items nl, slots := oslots } := Heap.get?_push_of_some _ hol
        have hsls := F.sub_list_set
        have hslf := F.sub_list_frozenset
        have hne : (Value.type "list" == Value.type "dict") = false := by decide
        have hl1 : (s.heap.push { cls := .type "set", dict := none, data := .set #[] 0 (.fresh 0 0 (!w.params.followText "set-order")) }).IsList l items := ⟨_, hol', rfl, nl, rfl⟩
        unfold Builtin.«set.__init__» noKeywords Builtin.Frozenset.updateFrom
        generalize hPI : pyIter = PI
        wp_walk
        subst hPI
        refine wpAny_pyIter_list hl1 ?_
        refine wpAny_bind (wpAny_runValue ?_)
        have hlS : l < s.heap.objs.size := Heap.lt_size hol
        have hh3 : A.in1.in1.in1.handled = none := by simp [hh]
        have hneI : l ≠ (s.heap.push { cls := .type "set", dict := none, data := .set #[] 0 (.fresh 0 0 (!w.params.followText "set-order")) }).objs.size := by
          rw [Heap.size_push]; exact Nat.ne_of_lt (Nat.lt_succ_of_lt hlS)
        have hSf : s.heap.objs.size ∉ [(s.heap.push { cls := .type "set", dict := none, data := .set #[] 0 (.fresh 0 0 (!w.params.followText "set-order")) }).objs.size, l] := by
          rw [Heap.size_push]; simp only [List.mem_cons, List.mem_singleton, List.not_mem_nil, or_false, not_or]
          exact ⟨Nat.ne_of_lt (Nat.lt_succ_self _), Nat.ne_of_gt hlS⟩
        refine update ((Walks.list hh3 _ l hneI items).toS) s.heap.objs.size hSf xs hsz hb hval (items.size - 0) 0 _ (by omega) (Nat.zero_le _)
          ⟨⟨_, Heap.get?_push_size _ rfl, rfl, rfl⟩, (hl1.push _)⟩ (fresh (Heap.get?_push_of_some _ hS)) fun s' hm hS' => ?_
        obtain ⟨h', g2, d', tk', os'⟩ := s'
        have eg : g2 = s.gens := hm.gens
        have ed : d' = s.drawn := hm.drawn
        have eo : os' = s.os := hm.os
        subst eg; subst ed; subst eo
        show wpAny _ _ _ _ _ _
        refine wpAny_pure ?_
        show wpAny _ _ (ret Value.none) _ _ _
        refine wpAny_pure ⟨rfl, h', tk', rfl, hS', fun b o e => ?_⟩
        have hbl := Heap.lt_size e
        refine hm.heap b o (fun z => ?_) (Heap.get?_push_of_some _ (Heap.get?_push_of_some _ e))
        rcases List.mem_cons.mp z with z | z
        · exact Nat.ne_of_lt hbl z
        · have z := List.mem_singleton.mp z
          exact absurd hbl (by rw [z, Heap.size_push]; exact Nat.not_lt.mpr (Nat.le_succ _))
      · cases r₂ with
        | error e => exact hr₂
        | ok fl₂ =>
          cases fl₂ with
          | ret r =>
            obtain ⟨rfl, h', tk, rfl, hS', hk'⟩ := hr₂
            repeat (any_goals (first | assumption | wp_step))
            exact h _ _ hS' hk'
          | _ => exact hr₂.elim
    | _ => exact hr.elim
end
end InSet
namespace InSet
open PySem PySem.Spec PyProof.Rows L2
def isTx (v : Value) (k : Int) : Prop := ∃ t, v = Value.int k t
theorem each_of : ∀ (vs : List Value), (∀ v ∈ vs, ∃ k t, v = Value.int k t) → ∃ ks, PySem.W.EachIs isTx vs ks ∧ ks = vs.map fun v => kyS (0, v)
  | [], _ => ⟨[], .nil, rfl⟩
  | v :: vs, h => by
    obtain ⟨k, t, e⟩ := h v List.mem_cons_self
    obtain ⟨ks, a, b⟩ := each_of vs fun u hu => h u (List.mem_cons_of_mem _ hu)
    exact ⟨k :: ks, .cons ⟨t, e⟩ a, by rw [List.map_cons, b, e]; rfl⟩
theorem srt_int (l : List Int) : (l.mergeSort (PySem.W.dataLe false fun k => PyData.int k)).Pairwise (· ≤ ·) := by
  have e : (PySem.W.dataLe false fun k => PyData.int k) = fun x y => decide (x ≤ y) := by
    exact PySem.W.dataLe_int fun k : Int => k
  rw [e]
  have h := List.pairwise_mergeSort (le := fun x y : Int => decide (x ≤ y)) (fun a b c h1 h2 => decide_eq_true (Int.le_trans (of_decide_eq_true h1) (of_decide_eq_true h2))) (fun a b => by
    rcases Int.le_total a b with z | z <;> simp [z]) l
  exact h.imp fun h => of_decide_eq_true h
section
variable {P : Program} {w : World} {A : Around} {E : Value → Shared → Prop} {s : Shared} {a : Addr} {ks : List Int}
theorem sorted_txt {Q : Value → Shared → Prop} (R : SetT P w s.heap a ks) (hh : A.handled = none) (hu : A.units + 8 < cLine) (hsz : ks.length ≤ sizeLine)
    (hQ : ∀ s' p (out : List Value) (c : Nat) (ks' : List Int), (∀ b o, s.heap.get? b = some o → s'.heap.get? b = some o) → s'.gens = s.gens → s'.os = s.os → s.heap.objs.size ≤ p →
      s'.heap.get? p = some (seqObj "list" out.toArray c) → PySem.W.EachIs isTx out ks' → ks'.Perm ks → ks'.Pairwise (· ≤ ·) → Q (.ref p) s') :
    wpAny (model P w) A (call (.builtin "sorted") [.ref a]) Q E s := by
  obtain ⟨o, es, ep, t, ho, hex, hd, g, pk, nd, hb, hf, hr, hl⟩ := R
  refine Calls.call_function_entry kind_sorted plain_sorted entry_sorted (args_sorted1 _) ?_
  unfold Builtin.«sorted»
  refine wpAny_bind (m := checkCount "sorted" 1 1 _) (wpAny_pure ?_)
  refine wpAny_bind (collect_set (A := A.in1) hh ⟨o, ho, hex.1, hd⟩ hf hb hr hl fun s1 vs k1 hz g1 o1 pm => ?_)
  have hv : ∀ v ∈ vs, ∃ k t, v = Value.int k t := fun v hv => by
    obtain ⟨e, he, q⟩ := List.mem_map.mp (pm.mem_iff.mp hv)
    obtain ⟨k, tk, h1, _⟩ := g e he
    exact ⟨k, tk, by rw [← q]; exact h1⟩
  obtain ⟨ks1, ea, eb⟩ := each_of vs hv
  have pv : ks1.Perm ks := by
    have q := pm.map fun v => kyS (0, v)
    rw [List.map_map] at q
    rw [eb]
    exact q.trans pk
  have hvl : vs.length = ks1.length := ea.length
  have hz2 : vs.length ≤ sizeLine := by rw [hvl, pv.length_eq]; exact hsz
  refine wpAny_bind (wpAny_newList ?_ hz2)
  have hoL : (s1.heap.push (seqObj "list" vs.toArray 0)).get? s1.heap.objs.size = some (seqObj "list" vs.toArray 0) := Heap.get?_push_size _ rfl
  refine wpAny_bind (wpAny_holding (PySem.W.list_sort_data (s := { s1 with heap := s1.heap.push (seqObj "list" vs.toArray 0) }) (R := isTx) (enc := fun k => PyData.int k) (bs := ks1) hoL ea (ea.mono fun v k ⟨t, e⟩ => ⟨[], by rw [e]; exact .int k t, by simp⟩) (PySem.W.AllAlike.of fun b b' => rfl) (PySem.W.Sortable.others fun b => ⟨(fun z => nomatch z), fun xs z => nomatch z⟩) (by rw [← hvl]; exact hz2) (fun b _ => ?_) fun out a1 a2 => ?_))
  · show A.units + 1 + 1 + 0 < cLine
    omega
  obtain ⟨c, hc⟩ := sortedHeap_at (vs := vs) (out := out.toArray) hoL
  refine wpAny_pure ⟨_, rfl, hQ _ s1.heap.objs.size out c _ (fun b u e => ?_) g1 o1 hz hc a2 ((List.mergeSort_perm _ _).trans pv) (srt_int ks1)⟩
  have q := k1 b u e
  have hlt := Heap.lt_size q
  show (sortedHeap (s1.heap.push (seqObj "list" vs.toArray 0)) s1.heap.objs.size vs out.toArray).get? b = some u
  rw [sortedHeap_old (Nat.ne_of_lt hlt) (by rw [size_push']; exact Nat.lt_succ_of_lt hlt)]
  exact Heap.get?_push_of_some _ q
end
def SetTO (P : Program) (w : World) (a : Addr) (ks : List Int) : HO := .ext fun h => SetT P w h a ks
theorem setTO_new {P : Program} {w : World} {H : Hp} {h : Heap} {a : Addr} {ks : List Int} (R : SetT P w h a ks) : ObjOk P w H h a (SetTO P w a ks) := by
  have ⟨o, es, ep, t, ho, _⟩ := R
  exact ⟨R, ⟨o, ho⟩, fun h1 h2 p k => SetT.at p k⟩
theorem vals_str : ∀ {ks : List Int} {us : List Value}, Vals (ks.map V.int) us → ∀ (i : Nat) (v : Value), us[i]? = some v → ∃ x t, ks[i]? = some x ∧ v = .int x t
  | [], _, .nil, i, v, h => by simp at h
  | k :: ks, _, .cons r t, 0, v, h => by
    obtain ⟨tk, rfl⟩ := r
    cases h
    exact ⟨k, tk, rfl, rfl⟩
  | k :: ks, _, .cons r t, i + 1, v, h => by
    rw [List.getElem?_cons_succ] at h ⊢
    exact vals_str t i v h
theorem vals_tx : ∀ {us : List Value} {ks : List Int}, PySem.W.EachIs isTx us ks → Vals (ks.map V.int) us
  | _, _, .nil => .nil
  | _, _, .cons ⟨t, e⟩ h => .cons ⟨t, e⟩ (vals_tx h)
section
variable {X : Cx}
def rSetT (K : PySem.W.Frag) (P : Program) (w : World) : List V → Hp → VK → Prop := fun xs H Q => ∃ (l : Addr) (ks : List Int), xs = [V.ref l] ∧ SqL K H l (ks.map V.int) ∧ ks.length + 1 < scanBound ∧
  ∀ a, H a = none → Q (.ref a) (upd H a (SetTO P w a (ks.foldl grow [])))
theorem cr_setT (hc : X.calm = true) : CallR X (.type "set") (rSetT X.K X.prog X.w) := by
  intro pins s σ H xs us Q I r h
  obtain ⟨l, ks, rfl, hl, hb, q⟩ := h
  rw [Vals.ref1 r]
  obtain ⟨its, rv, pl, hz⟩ := I.list hl
  have hn : H s.heap.objs.size = none := I.hok.fresh (Nat.le_refl _)
  refine call_set (P := X.prog) (w := X.w) (xs := ks) (I.ok.hd hc) pl.isList ?_ (fun i v e => vals_str rv i v (by simpa using e)) hb fun h' tk R k => ?_
  · have := rv.length
    rw [List.length_map] at this
    simp [this]
  · exact ⟨.ref s.heap.objs.size, upd H s.heap.objs.size (SetTO X.prog X.w s.heap.objs.size _), I.laid (t' := tk) k (Nat.le_refl _) (setTO_new R), rfl, q _ hn⟩
def rSortT (P : Program) (w : World) : List V → Hp → VK → Prop := fun vs H Q => ∃ (a : Addr) (ks : List Int), vs = [V.ref a] ∧ H a = some (SetTO P w a ks) ∧ ks.length ≤ sizeLine ∧
  ∀ (ks' : List Int) (p : Addr), ks'.Perm ks → ks'.Pairwise (· ≤ ·) → H p = none → Q (.ref p) (upd H p (.lst (ks'.map V.int)))
theorem cr_sortT (hc : X.calm = true) (hu : X.A.units + 8 < cLine) : CallR X (.builtin "sorted") (rSortT X.prog X.w) := by
  intro pins s σ H vs us Q I r h
  obtain ⟨a, ks, rfl, ha, hsz, q⟩ := h
  have R : SetT X.prog X.w s.heap a ks := (I.hok a _ ha).1
  rw [Vals.ref1 r]
  refine sorted_txt R (I.ok.hd hc) hu hsz fun s' p out c ks' k g o hp hg hout pm so => ?_
  have hlen : (ks'.map V.int).length ≤ sizeLine := by rw [List.length_map, pm.length_eq]; exact hsz
  have hn : H p = none := I.hok.fresh hp
  have J : Inv X pins σ (upd H p (.lst (ks'.map V.int))) { s with heap := s'.heap, gens := s'.gens, drawn := s'.drawn, toks := s'.toks } :=
    I.call (ch := []) (Un.laid k hp hn) (I.hok.laid k hp ⟨hlen, out, c, vals_tx hout, hg⟩) (by rw [g]; exact I.bare) (fun _ z => nomatch z)
  have e : s' = { s with heap := s'.heap, gens := s'.gens, drawn := s'.drawn, toks := s'.toks } := by
    cases s'
    cases s
    cases o
    rfl
  rw [e]
  exact ⟨.ref p, _, J, rfl, q ks' p pm so hn⟩
end
end InSet
namespace Z
open PySem PySem.Spec PyProof.Rows L2 InSet
theorem ints_of {K : PySem.W.Frag} {G : Hp} : ∀ {xs : List Int} {vs : List V}, RepL K G (xs.map .int) vs → vs = xs.map V.int
  | [], _, .nil => rfl
  | x :: xs, _, .cons h t => by cases h; rw [ints_of t]; rfl
theorem rep_ints {K : PySem.W.Frag} {G : Hp} : ∀ l : List Int, RepL K G (l.map .int) (l.map V.int)
  | [] => .nil
  | x :: l => .cons .int (rep_ints l)
def ssiD (M : Sto) (ds : List D) (φ : PD) : Prop := match ds with
  | [d] => ∃ ws : List Int, lstOf M d = some (ws.map .int) ∧ ws.length ≤ 1000 ∧ ∀ l' : List Int, (∀ x, x ∈ l' ↔ x ∈ ws) → l'.Nodup → l'.Pairwise (· ≤ ·) → φ (.lst (l'.map .int)) M
  | _ => False
theorem fold_nodupI : ∀ (xs ks : List Int), ks.Nodup → (xs.foldl grow ks).Nodup
  | [], ks, h => h
  | x :: xs, ks, h => by
    rw [List.foldl_cons]
    refine fold_nodupI xs _ ?_
    unfold grow
    split
    · exact h
    · rename_i k
      exact List.nodup_append.mpr ⟨h, by simp, fun a ha b hb => by rw [List.mem_singleton.mp hb]; exact fun z => k (z ▸ ha)⟩
section
variable {X : Cx} {B : Bs} {pos p p2 pos2 : Pos} {e : Expr} {ga : DTA} {k : Nat}
theorem grow_hI {H G : Hp} {a : Addr} {o : HO} (s : Sub G H) (ha : H a = none) : Grow H G (upd H a o) G :=
  ⟨fun b u h => by rw [upd_ne (ne_of_none h ha)]; exact h, Sub.rfl', fun b u h => by rw [upd_ne (ne_of_none (s _ _ h) ha)]; exact s _ _ h, fun _ h n => absurd n h⟩
theorem de_sortSetI (hc : X.calm = true) (hr : Room k X.A) (hm : X.mg "sorted" = none) (hm2 : X.mg "set" = none) (ha : DA X B [e] ga) (hg : Gl X "sorted" := by rfl) (hg2 : Gl X "set" := by rfl)
    (he : starEach [e] X.env = (false, eval e X.env) :: starEach [] X.env := by rfl) (hpl : (backTo pos2 (starEach [] X.env)).any (·.1) = false := by rfl)
    (he2 : starEach [.Call (.Name "set" p2) [e] [] pos2] X.env = (false, eval (.Call (.Name "set" p2) [e] [] pos2) X.env) :: starEach [] X.env := by rfl) (hpl2 : (backTo pos (starEach [] X.env)).any (·.1) = false := by rfl) :
    DE X B (.Call (.Name "sorted" p) [.Call (.Name "set" p2) [e] [] pos2] [] pos) (fun r M Ψ => ga r M fun ds M1 => ssiD M1 ds Ψ) := by
  have hu : X.A.units + 8 < cLine := by have := room65 hr; omega
  refine PE_imp (pe_callB (cr_sortT hc hu) hg hm (by rfl) (pa_cons (pe_callTy (cr_setT hc) hg2 hm2 (by rfl) ha (by decide) (by decide) he hpl) pa_nil he2) (by decide) (by decide) he2 hpl2) fun σ H Q ⟨r, M, G, Ψ, R, h, kk⟩ => ?_
  refine ⟨r, M, G, _, R, h, fun ds M1 vs H1 G1 q R1 s1 p1 => ?_⟩
  unfold ssiD at q
  split at q
  · rename_i d
    obtain ⟨ws, e1, hl, q⟩ := q
    cases p1 with
    | cons p1 p2 =>
      cases p2
      obtain ⟨l, us, rfl, h1, r1⟩ := lst_rep' R1.wd p1 e1
      rw [ints_of r1] at h1
      refine ⟨l, ws, rfl, h1, ?_, fun a ha => ?_⟩
      · show ws.length + 1 < scanBound
        have : (1002 : Nat) < scanBound := by unfold scanBound; decide
        omega
      · refine ⟨a, _, rfl, upd_same, ?_, fun ks' p pm so hp => ?_⟩
        · have := fold_len ws []
          rw [List.length_nil] at this
          exact Nat.le_trans (show _ ≤ 1000000 by omega) big_ok
        · have g1 := grow_hI (o := SetTO X.prog X.w a (ws.foldl grow [])) R1.wd.sub ha
          have g2 := grow_upd (o := .lst (ks'.map V.int)) g1.sub hp
          refine kk _ _ _ _ _ (q ks' (fun x => ?_) (pm.nodup_iff.mpr (fold_nodupI ws [] List.nodup_nil)) so) (R1.grow (g1.trans g2)) (s1.tr (g1.trans g2).gsub) (.lst (.inl upd_same) (rep_ints ks'))
          rw [pm.mem_iff, fold_mem]
          simp
  · exact q.elim
theorem de_listRg {a : Expr} {fa : DTE} (hc : X.calm = true) (hm : X.mg "list" = none) (hmr : X.mg "range" = none) (ha : DE X B a fa) (hg : Gl X "list" := by rfl) (hgr : Gl X "range" := by rfl)
    (na : starEach [a] X.env = (false, eval a X.env) :: starEach [] X.env := by rfl) (na2 : starEach [.Call (.Name "range" p2) [a] [] pos2] X.env = (false, eval (.Call (.Name "range" p2) [a] [] pos2) X.env) :: starEach [] X.env := by rfl) :
    DE X B (.Call (.Name "list" p) [.Call (.Name "range" p2) [a] [] pos2] [] pos) (fun r M Ψ => fa r M fun d M1 => ∃ n : Nat, d = .int n ∧ n ≤ 1000 ∧ Ψ (.lst (rngD 0 n)) M1) := by
  refine PE_imp (pe_listRg hc hg hm (prg_1 hgr hmr ha na) na2) fun σ H Q ⟨r, M, G, Ψ, R, h, kk⟩ => ?_
  refine ⟨r, M, G, _, R, h, fun d M1 v H1 G1 ⟨n, e, hn, q⟩ R1 s1 p1 => ?_⟩
  subst e
  cases p1
  refine ⟨(n : Int), rfl, RgOk.of_le (Int.le_refl _) (by omega) (by decide) (by omega), fun a ha => ?_⟩
  have g1 := grow_upd (o := .lst (rgV 0 n)) R1.wd.sub ha
  have e2 : rgV 0 n = ((List.range n).map fun i : Nat => (0 : Int) + (i : Int)).map V.int := by
    unfold rgV
    rw [List.map_map]
    rfl
  have e3 : rngD 0 n = ((List.range n).map fun i : Nat => (0 : Int) + (i : Int)).map .int := by
    unfold rngD
    rw [List.map_map]
    rfl
  rw [e3] at q
  rw [e2] at g1 ⊢
  exact kk _ _ _ _ _ q (R1.grow g1) (s1.tr g1.gsub) (.lst (.inl upd_same) (rep_ints _))
end
end Z
namespace Z
open PySem PySem.Spec PyProof.Rows L2
theorem pl_room {n : Int} {s t : T4} (h0 : 0 < n) (hs : Rm n s) (ht : Rm n t) (e : pl4 s = pl4 t) : s = t := by
  have ds : det4 s ≠ 0 := by rw [hs.det]; omega
  have dt : det4 t ≠ 0 := by rw [ht.det]; omega
  obtain ⟨k, hk, e1⟩ := pl_mul ds
  obtain ⟨j, hj, e2⟩ := pl_mul dt
  rw [e] at e1
  generalize pl4 t = p at e1 e2
  have d1 := hs.det
  rw [e1, det_sc'] at d1
  have d2 := ht.det
  rw [e2, det_sc'] at d2
  have hp : det4 p ≠ 0 := fun z => by rw [z, Int.mul_zero] at d1; omega
  have kk : k * k = j * j := Int.eq_of_mul_eq_mul_right hp (d1.trans d2.symm)
  have h2 : (k - j) * (k + j) = 0 := by
    rw [Int.sub_mul, Int.mul_add, Int.mul_add, kk, Int.mul_comm k j]
    omega
  rcases Int.mul_eq_zero.mp h2 with z | z
  · have : k = j := by omega
    rw [e1, e2, this]
  · exfalso
    have hk' : k = -j := by omega
    obtain ⟨a, b, c, d⟩ := p
    have n1 := hs.nn
    have n2 := ht.nn
    rw [e1, hk'] at n1
    rw [e2] at n2
    obtain ⟨a1, a2, a3, a4⟩ := n1
    obtain ⟨b1, b2, b3, b4⟩ := n2
    dsimp only [sc] at a1 a2 a3 a4 b1 b2 b3 b4
    rw [Int.neg_mul] at a1 a2 a3 a4
    apply dt
    rw [e2]
    unfold det4 sc
    dsimp only
    rw [show j * a = 0 by omega, show j * b = 0 by omega, Int.zero_mul, Int.zero_mul]
    rfl
theorem trn_rep {tu : Bool} {c : Nat} (hc : c = 76 ∨ c = 82) (k : Nat) : trnW tu (List.replicate k (trn tu c)) = List.replicate k c := by
  unfold trnW
  rw [List.map_replicate]
  congr 1
  unfold trn tother
  rcases hc with rfl | rfl <;> cases tu <;> rfl
theorem trn_lr {tu : Bool} {c : Nat} (hc : c = 76 ∨ c = 82) : trn tu c = 76 ∨ trn tu c = 82 := by
  unfold trn tother
  rcases hc with rfl | rfl <;> cases tu <;> simp
theorem first_told {n : Nat} {tu : Bool} {u : T4} (h0 : 0 < n) (hn : n ≤ 20) (h : Rm n u) {c : Nat} (hc : c = 76 ∨ c = 82) : ∃ r, tlS tu u (List.replicate 40 (trn tu c)) = c :: r := by
  have lr : LR (List.replicate 40 (trn tu c)) := fun x hx => by
    rw [(List.mem_replicate.mp hx).2]
    exact trn_lr hc
  have sp := speak (tu := tu) h0 lr h (by rw [List.length_replicate]; omega)
  have e := walk_eq (tu := tu) (n := (n : Int)) (by omega) (List.replicate 40 (trn tu c)) h
  have hg := goS_rm (tu := tu) (n := (n : Int)) (by omega) (List.replicate 40 (trn tu c)) h
  have hlr := tlS_lr (tu := tu) (n := (n : Int)) (by omega) (List.replicate 40 (trn tu c)) h
  rw [trn_rep hc] at e
  match ht : tlS tu u (List.replicate 40 (trn tu c)) with
  | [] => rw [ht] at sp; exact absurd sp (by simp)
  | x :: r =>
    rw [ht] at e hlr
    have nv : Nn (mul4 (wL r) (goS tu u (List.replicate 40 (trn tu c)))) := (nn_wL r).mul hg.nn
    rw [wL_cons, mul_assoc4] at e
    generalize mul4 (wL r) (goS tu u (List.replicate 40 (trn tu c))) = v at e nv
    obtain ⟨a1, a2, a3, a4⟩ := h.le (by omega) (by omega)
    obtain ⟨n1, n2, n3, n4⟩ := nv
    obtain ⟨a, b, cc, d⟩ := u
    obtain ⟨v1, v2, v3, v4⟩ := v
    dsimp only at a1 a2 a3 a4 n1 n2 n3 n4
    refine ⟨r, ?_⟩
    congr 1
    refine Classical.byContradiction fun z => ?_
    rcases hc with rfl | rfl
    · have hx : x = 82 := (hlr x List.mem_cons_self).resolve_left z
      rw [hx, turn_R, wL_Ls 40] at e
      simp [mul4, R4] at e
      omega
    · have hx : x = 76 := (hlr x List.mem_cons_self).resolve_right z
      rw [hx, turn_L, wL_Rs 40] at e
      simp [mul4, L4] at e
      omega
theorem no_back {n : Nat} {tu : Bool} {u : T4} {w : List Nat} (h0 : 0 < n) (hw : LR w) (h : Rm n u) (w0 : w ≠ []) (e : tlS tu u w = []) : goS tu u w ≠ u := fun z => by
  have := silent h0 w hw h e
  rw [z] at this
  have := List.length_pos_iff.mpr w0
  omega
noncomputable def gI (l : List T4) (tu : Bool) (i c : Nat) : Nat := l.idxOf (gol tu (l.getD i O4) c)
theorem getD_idx {l : List T4} {v : T4} (h : v ∈ l) : l.getD (l.idxOf v) O4 = v := by
  have := List.idxOf_lt_length_iff.mpr h
  rw [List.getD_eq_getElem?_getD, List.getElem?_eq_getElem this]
  exact List.getElem_idxOf this
theorem of_insR {l : List T4} {g v : T4} (h : v ∈ insR l g) : v ∈ l ∨ v = g := by
  unfold insR at h
  split at h
  · exact .inl h
  · exact (List.mem_append.mp h).imp id List.mem_singleton.mp
theorem mem_growR {tu : Bool} {l : List T4} {u v : T4} (h : v ∈ growR tu l u) : v ∈ l ∨ v = gol tu u 76 ∨ v = gol tu u 82 := by
  rcases of_insR h with h | h
  · exact (of_insR h).imp id .inl
  · exact .inr (.inr h)
theorem reachG {tu : Bool} {l : List T4} {ph : List Nat} (hcl : ∀ i ∈ ph, gI l tu i 76 ∈ ph ∧ gI l tu i 82 ∈ ph) : ∀ {l0 l1 : List T4} {k : Nat}, Bf tu l0 k l1 → l1 = l → (∀ v ∈ l0, l.idxOf v ∈ ph) → ∀ v ∈ l1, l.idxOf v ∈ ph := by
  intro l0 l1 k h
  induction h with
  | stop _ => exact fun _ h => h
  | step e b ih =>
    intro el h
    rename_i l0 l2 k u
    refine ih el fun v hv => ?_
    have hu0 : u ∈ l0 := List.mem_of_getElem? e
    have hul : u ∈ l := by
      obtain ⟨m, em⟩ := (Bf.step e b).pre
      rw [← el, em]
      exact List.mem_append_left _ hu0
    have hc := hcl _ (h u hu0)
    unfold gI at hc
    rw [getD_idx hul] at hc
    rcases mem_growR hv with z | z | z
    · exact h v z
    · rw [z]; exact hc.1
    · rw [z]; exact hc.2
theorem reach {tu : Bool} {l : List T4} {u : T4} {ph : List Nat} (b : Bf tu [u] 0 l) (nd : l.Nodup) (h0 : 0 ∈ ph) (hcl : ∀ i ∈ ph, gI l tu i 76 ∈ ph ∧ gI l tu i 82 ∈ ph) : ∀ i, i < l.length → i ∈ ph := fun i hi => by
  have hu : l.idxOf u = 0 := by
    obtain ⟨m, em⟩ := b.pre
    rw [em]
    exact List.idxOf_cons_self
  have := reachG hcl b rfl (fun v hv => by rw [List.mem_singleton.mp hv, hu]; exact h0) l[i] (List.getElem_mem hi)
  rw [show l.idxOf l[i] = i from nd.idxOf_getElem i hi] at this
  exact this
structure PhI (N : Nat) (g : Nat → Nat → Nat) (p : Nat) (ph : List Nat) : Prop where
  z : 0 ∈ ph
  lt : ∀ i ∈ ph, i < N
  ds : ∃ ds : List Nat, ds.Nodup ∧ (∀ i, i ∈ ds ↔ i ∈ ph) ∧ ph.length ≤ 2 * ds.length
  cl : ∀ q i, q < p → ph[q]? = some i → g i 76 ∈ ph ∧ g i 82 ∈ ph
section
variable {N p : Nat} {g : Nat → Nat → Nat} {ph : List Nat}
theorem PhI.start (h : 0 < N) : PhI N g 0 [0] :=
  ⟨by simp, fun i hi => by rw [List.mem_singleton.mp hi]; exact h, ⟨[0], by simp, fun i => Iff.rfl, by simp⟩, fun q i z => absurd z (Nat.not_lt_zero _)⟩
theorem PhI.skip (h : PhI N g p ph) (hp : ph.length ≤ p) : PhI N g (p + 1) ph :=
  ⟨h.z, h.lt, h.ds, fun q i hq e => h.cl q i (by
    have := (List.getElem?_eq_some_iff.mp e).1
    omega) e⟩
def newP (ph : List Nat) (a b : Nat) : List Nat := [a, b].filter fun x => decide (x ∉ ph)
theorem PhI.step (h : PhI N g p ph) {i : Nat} (e : ph[p]? = some i) (hg : g i 76 < N ∧ g i 82 < N) : PhI N g (p + 1) (ph ++ newP ph (g i 76) (g i 82)) := by
  have hm : ∀ x, x ∈ newP ph (g i 76) (g i 82) ↔ (x = g i 76 ∨ x = g i 82) ∧ x ∉ ph := fun x => by
    unfold newP
    rw [List.mem_filter]
    simp
  have all : ∀ x, (x = g i 76 ∨ x = g i 82) → x ∈ ph ++ newP ph (g i 76) (g i 82) := fun x hx => by
    by_cases z : x ∈ ph
    · exact List.mem_append_left _ z
    · exact List.mem_append_right _ ((hm x).mpr ⟨hx, z⟩)
  refine ⟨List.mem_append_left _ h.z, fun x hx => ?_, ?_, fun q x hq ex => ?_⟩
  · rcases List.mem_append.mp hx with z | z
    · exact h.lt x z
    · rcases ((hm x).mp z).1 with z | z <;> rw [z]
      · exact hg.1
      · exact hg.2
  · obtain ⟨ds, nd, md, hl⟩ := h.ds
    generalize g i 76 = a at *
    generalize g i 82 = b at *
    unfold newP
    by_cases za : a ∈ ph
    · by_cases zb : b ∈ ph
      · refine ⟨ds, nd, fun x => ?_, ?_⟩ <;> simp [za, zb, md, hl]
      · refine ⟨ds ++ [b], List.nodup_append.mpr ⟨nd, by simp, fun x hx y hy => by rw [List.mem_singleton.mp hy]; exact fun z => zb ((md b).mp (z ▸ hx))⟩, fun x => ?_, ?_⟩
        · simp [za, zb, md]
        · simp [za, zb]; omega
    · by_cases zb : b ∈ ph
      · refine ⟨ds ++ [a], List.nodup_append.mpr ⟨nd, by simp, fun x hx y hy => by rw [List.mem_singleton.mp hy]; exact fun z => za ((md a).mp (z ▸ hx))⟩, fun x => ?_, ?_⟩
        · simp [za, zb, md]
        · simp [za, zb]; omega
      · by_cases ab : a = b
        · subst ab
          refine ⟨ds ++ [a], List.nodup_append.mpr ⟨nd, by simp, fun x hx y hy => by rw [List.mem_singleton.mp hy]; exact fun z => za ((md a).mp (z ▸ hx))⟩, fun x => ?_, ?_⟩
          · simp [za, md]
          · simp [za]; omega
        · refine ⟨ds ++ [a, b], List.nodup_append.mpr ⟨nd, by simp [ab], fun x hx y hy => ?_⟩, fun x => ?_, ?_⟩
          · rcases List.mem_cons.mp hy with rfl | hy
            · exact fun z => za ((md _).mp (z ▸ hx))
            · rw [List.mem_singleton.mp hy]; exact fun z => zb ((md _).mp (z ▸ hx))
          · simp [za, zb, md]
          · simp [za, zb]; omega
  · by_cases hq2 : q < p
    · rcases Nat.lt_or_ge q ph.length with hl | hl
      · rw [List.getElem?_append_left hl] at ex
        obtain ⟨c1, c2⟩ := h.cl q x hq2 ex
        exact ⟨List.mem_append_left _ c1, List.mem_append_left _ c2⟩
      · exact absurd ((List.getElem?_eq_some_iff.mp e).1) (by omega)
    · have : q = p := by omega
      subst this
      rw [List.getElem?_append_left (List.getElem?_eq_some_iff.mp e).1, e] at ex
      cases ex
      exact ⟨all _ (.inl rfl), all _ (.inr rfl)⟩
theorem PhI.done (h : PhI N g (2 * N) ph) : ∀ i ∈ ph, g i 76 ∈ ph ∧ g i 82 ∈ ph := fun i hi => by
  obtain ⟨ds, nd, md, hl⟩ := h.ds
  have h1 : ds.length ≤ N := by
    have := ndp_len ds (List.range N) nd fun x hx => List.mem_range.mpr (h.lt x ((md x).mp hx))
    rw [List.length_range] at this
    exact this
  obtain ⟨q, hq, e⟩ := List.getElem_of_mem hi
  exact h.cl q i (by omega) (by rw [List.getElem?_eq_getElem hq, e])
end
theorem rng_of {N : Nat} {l : List Int} (nd : l.Nodup) (so : l.Pairwise (· ≤ ·)) (h : ∀ x, x ∈ l ↔ ∃ i : Nat, i < N ∧ x = i) : l = (List.range N).map fun i : Nat => (i : Int) := by
  have nd2 : ((List.range N).map fun i : Nat => (i : Int)).Nodup := List.Pairwise.map _ (fun a b (h : a ≠ b) e => h (by omega)) List.nodup_range
  refine List.Perm.eq_of_pairwise (le := (· ≤ ·)) (fun a b _ _ h h' => Int.le_antisymm h h') so (List.Pairwise.map _ (fun a b (h : a < b) => by omega) List.pairwise_lt_range) ((List.perm_ext_iff_of_nodup nd nd2).mpr fun x => ?_)
  rw [h x, List.mem_map]
  constructor
  · rintro ⟨i, hi, e⟩
    exact ⟨i, List.mem_range.mpr hi, e.symm⟩
  · rintro ⟨i, hi, e⟩
    exact ⟨i, List.mem_range.mp hi, e.symm⟩
theorem cand400 : (List.range 13).all (fun n => Nat.ble (cand n).length 400) = true := by decide +kernel
theorem rooms_400 {n : Nat} {l : List T4} (h0 : 0 < n) (h1 : n ≤ 12) (hn : l.Nodup) (h : ∀ t ∈ l, Rm n t) : l.length ≤ 400 := by
  have h2 := nodup_len (l := l.map u4) (L := cand n) (nodup_map (fun x hx y hy e => by rw [← of_u4 (h x hx).nn, ← of_u4 (h y hy).nn, e]) hn) fun x hx => by
    obtain ⟨t, ht, rfl⟩ := List.mem_map.mp hx
    exact cand_mem h0 (h t ht)
  rw [List.length_map] at h2
  exact Nat.le_trans h2 (Nat.le_of_ble_eq_true (List.all_eq_true.mp cand400 n (List.mem_range.mpr (by omega))))
theorem gol_dec {u v : T4} {c : Nat} {w : List Nat} (hd : 0 < det4 u) (h1 : ∀ x ∈ w, x = 76 ∨ x = 82) (h2 : mul4 (wL w) v = mul4 u (turnT c)) (h3 : Nn v) (h4 : Bal v) : gol false u c = v :=
  (wd_lf (t := mul4 u (turnT c)) (by rw [det_mul, det_turn, Int.mul_one]; exact hd) ⟨h1, h2, h3, h4⟩).2
theorem insR_in {l : List T4} {g : T4} (h : g ∈ l) : insR l g = l := by unfold insR; rw [if_pos h]
theorem insR_out {l : List T4} {g : T4} (h : g ∉ l) : insR l g = l ++ [g] := by unfold insR; rw [if_neg h]
theorem rooms_2 {l : List T4} (b : Bf false [(2, 0, 0, 1)] 0 l) : l.length = 4 := by
  have g0_76 : gol false (2, 0, 0, 1) 76 = (2, 0, 1, 1) := gol_dec (w := []) (by decide) (by decide) (by decide +kernel) ⟨by decide, by decide, by decide, by decide⟩ ⟨by decide, by decide⟩
  have g0_82 : gol false (2, 0, 0, 1) 82 = (2, 0, 0, 1) := gol_dec (w := [82, 82]) (by decide) (by decide) (by decide +kernel) ⟨by decide, by decide, by decide, by decide⟩ ⟨by decide, by decide⟩
  have a0 : insR [(2, 0, 0, 1)] (2, 0, 1, 1) = [(2, 0, 0, 1), (2, 0, 1, 1)] := insR_out (by decide)
  have b0 : insR [(2, 0, 0, 1), (2, 0, 1, 1)] (2, 0, 0, 1) = [(2, 0, 0, 1), (2, 0, 1, 1)] := insR_in (by decide)
  have e0 : growR false [(2, 0, 0, 1)] (2, 0, 0, 1) = [(2, 0, 0, 1), (2, 0, 1, 1)] := by
    unfold growR
    rw [g0_76, g0_82, a0, b0]
  have g1_76 : gol false (2, 0, 1, 1) 76 = (2, 0, 0, 1) := gol_dec (w := [76]) (by decide) (by decide) (by decide +kernel) ⟨by decide, by decide, by decide, by decide⟩ ⟨by decide, by decide⟩
  have g1_82 : gol false (2, 0, 1, 1) 82 = (1, 0, 0, 2) := gol_dec (w := [82, 76]) (by decide) (by decide) (by decide +kernel) ⟨by decide, by decide, by decide, by decide⟩ ⟨by decide, by decide⟩
  have a1 : insR [(2, 0, 0, 1), (2, 0, 1, 1)] (2, 0, 0, 1) = [(2, 0, 0, 1), (2, 0, 1, 1)] := insR_in (by decide)
  have b1 : insR [(2, 0, 0, 1), (2, 0, 1, 1)] (1, 0, 0, 2) = [(2, 0, 0, 1), (2, 0, 1, 1), (1, 0, 0, 2)] := insR_out (by decide)
  have e1 : growR false [(2, 0, 0, 1), (2, 0, 1, 1)] (2, 0, 1, 1) = [(2, 0, 0, 1), (2, 0, 1, 1), (1, 0, 0, 2)] := by
    unfold growR
    rw [g1_76, g1_82, a1, b1]
  have g2_76 : gol false (1, 0, 0, 2) 76 = (1, 0, 0, 2) := gol_dec (w := [76, 76]) (by decide) (by decide) (by decide +kernel) ⟨by decide, by decide, by decide, by decide⟩ ⟨by decide, by decide⟩
  have g2_82 : gol false (1, 0, 0, 2) 82 = (1, 1, 0, 2) := gol_dec (w := []) (by decide) (by decide) (by decide +kernel) ⟨by decide, by decide, by decide, by decide⟩ ⟨by decide, by decide⟩
  have a2 : insR [(2, 0, 0, 1), (2, 0, 1, 1), (1, 0, 0, 2)] (1, 0, 0, 2) = [(2, 0, 0, 1), (2, 0, 1, 1), (1, 0, 0, 2)] := insR_in (by decide)
  have b2 : insR [(2, 0, 0, 1), (2, 0, 1, 1), (1, 0, 0, 2)] (1, 1, 0, 2) = [(2, 0, 0, 1), (2, 0, 1, 1), (1, 0, 0, 2), (1, 1, 0, 2)] := insR_out (by decide)
  have e2 : growR false [(2, 0, 0, 1), (2, 0, 1, 1), (1, 0, 0, 2)] (1, 0, 0, 2) = [(2, 0, 0, 1), (2, 0, 1, 1), (1, 0, 0, 2), (1, 1, 0, 2)] := by
    unfold growR
    rw [g2_76, g2_82, a2, b2]
  have g3_76 : gol false (1, 1, 0, 2) 76 = (2, 0, 0, 1) := gol_dec (w := [76, 82]) (by decide) (by decide) (by decide +kernel) ⟨by decide, by decide, by decide, by decide⟩ ⟨by decide, by decide⟩
  have g3_82 : gol false (1, 1, 0, 2) 82 = (1, 0, 0, 2) := gol_dec (w := [82]) (by decide) (by decide) (by decide +kernel) ⟨by decide, by decide, by decide, by decide⟩ ⟨by decide, by decide⟩
  have a3 : insR [(2, 0, 0, 1), (2, 0, 1, 1), (1, 0, 0, 2), (1, 1, 0, 2)] (2, 0, 0, 1) = [(2, 0, 0, 1), (2, 0, 1, 1), (1, 0, 0, 2), (1, 1, 0, 2)] := insR_in (by decide)
  have b3 : insR [(2, 0, 0, 1), (2, 0, 1, 1), (1, 0, 0, 2), (1, 1, 0, 2)] (1, 0, 0, 2) = [(2, 0, 0, 1), (2, 0, 1, 1), (1, 0, 0, 2), (1, 1, 0, 2)] := insR_in (by decide)
  have e3 : growR false [(2, 0, 0, 1), (2, 0, 1, 1), (1, 0, 0, 2), (1, 1, 0, 2)] (1, 1, 0, 2) = [(2, 0, 0, 1), (2, 0, 1, 1), (1, 0, 0, 2), (1, 1, 0, 2)] := by
    unfold growR
    rw [g3_76, g3_82, a3, b3]
  have z : Bf false [(2, 0, 0, 1)] 0 [(2, 0, 0, 1), (2, 0, 1, 1), (1, 0, 0, 2), (1, 1, 0, 2)] := by
    refine .step (u := (2, 0, 0, 1)) rfl ?_
    rw [e0]
    refine .step (u := (2, 0, 1, 1)) rfl ?_
    rw [e1]
    refine .step (u := (1, 0, 0, 2)) rfl ?_
    rw [e2]
    refine .step (u := (1, 1, 0, 2)) rfl ?_
    rw [e3]
    exact .stop (by decide)
  rw [b.uniq z]
  rfl
theorem rooms_3 {l : List T4} (b : Bf false [(3, 0, 0, 1)] 0 l) : l.length = 7 := by
  have g0_76 : gol false (3, 0, 0, 1) 76 = (3, 0, 1, 1) := gol_dec (w := []) (by decide) (by decide) (by decide +kernel) ⟨by decide, by decide, by decide, by decide⟩ ⟨by decide, by decide⟩
  have g0_82 : gol false (3, 0, 0, 1) 82 = (3, 0, 0, 1) := gol_dec (w := [82, 82, 82]) (by decide) (by decide) (by decide +kernel) ⟨by decide, by decide, by decide, by decide⟩ ⟨by decide, by decide⟩
  have a0 : insR [(3, 0, 0, 1)] (3, 0, 1, 1) = [(3, 0, 0, 1), (3, 0, 1, 1)] := insR_out (by decide)
  have b0 : insR [(3, 0, 0, 1), (3, 0, 1, 1)] (3, 0, 0, 1) = [(3, 0, 0, 1), (3, 0, 1, 1)] := insR_in (by decide)
  have e0 : growR false [(3, 0, 0, 1)] (3, 0, 0, 1) = [(3, 0, 0, 1), (3, 0, 1, 1)] := by
    unfold growR
    rw [g0_76, g0_82, a0, b0]
  have g1_76 : gol false (3, 0, 1, 1) 76 = (3, 0, 2, 1) := gol_dec (w := []) (by decide) (by decide) (by decide +kernel) ⟨by decide, by decide, by decide, by decide⟩ ⟨by decide, by decide⟩
  have g1_82 : gol false (3, 0, 1, 1) 82 = (2, 1, 1, 2) := gol_dec (w := [82]) (by decide) (by decide) (by decide +kernel) ⟨by decide, by decide, by decide, by decide⟩ ⟨by decide, by decide⟩
  have a1 : insR [(3, 0, 0, 1), (3, 0, 1, 1)] (3, 0, 2, 1) = [(3, 0, 0, 1), (3, 0, 1, 1), (3, 0, 2, 1)] := insR_out (by decide)
  have b1 : insR [(3, 0, 0, 1), (3, 0, 1, 1), (3, 0, 2, 1)] (2, 1, 1, 2) = [(3, 0, 0, 1), (3, 0, 1, 1), (3, 0, 2, 1), (2, 1, 1, 2)] := insR_out (by decide)
  have e1 : growR false [(3, 0, 0, 1), (3, 0, 1, 1)] (3, 0, 1, 1) = [(3, 0, 0, 1), (3, 0, 1, 1), (3, 0, 2, 1), (2, 1, 1, 2)] := by
    unfold growR
    rw [g1_76, g1_82, a1, b1]
  have g2_76 : gol false (3, 0, 2, 1) 76 = (3, 0, 0, 1) := gol_dec (w := [76]) (by decide) (by decide) (by decide +kernel) ⟨by decide, by decide, by decide, by decide⟩ ⟨by decide, by decide⟩
  have g2_82 : gol false (3, 0, 2, 1) 82 = (1, 0, 0, 3) := gol_dec (w := [82, 76, 76]) (by decide) (by decide) (by decide +kernel) ⟨by decide, by decide, by decide, by decide⟩ ⟨by decide, by decide⟩
  have a2 : insR [(3, 0, 0, 1), (3, 0, 1, 1), (3, 0, 2, 1), (2, 1, 1, 2)] (3, 0, 0, 1) = [(3, 0, 0, 1), (3, 0, 1, 1), (3, 0, 2, 1), (2, 1, 1, 2)] := insR_in (by decide)
  have b2 : insR [(3, 0, 0, 1), (3, 0, 1, 1), (3, 0, 2, 1), (2, 1, 1, 2)] (1, 0, 0, 3) = [(3, 0, 0, 1), (3, 0, 1, 1), (3, 0, 2, 1), (2, 1, 1, 2), (1, 0, 0, 3)] := insR_out (by decide)
  have e2 : growR false [(3, 0, 0, 1), (3, 0, 1, 1), (3, 0, 2, 1), (2, 1, 1, 2)] (3, 0, 2, 1) = [(3, 0, 0, 1), (3, 0, 1, 1), (3, 0, 2, 1), (2, 1, 1, 2), (1, 0, 0, 3)] := by
    unfold growR
    rw [g2_76, g2_82, a2, b2]
  have g3_76 : gol false (2, 1, 1, 2) 76 = (3, 0, 0, 1) := gol_dec (w := [76, 82]) (by decide) (by decide) (by decide +kernel) ⟨by decide, by decide, by decide, by decide⟩ ⟨by decide, by decide⟩
  have g3_82 : gol false (2, 1, 1, 2) 82 = (1, 0, 0, 3) := gol_dec (w := [82, 76]) (by decide) (by decide) (by decide +kernel) ⟨by decide, by decide, by decide, by decide⟩ ⟨by decide, by decide⟩
  have a3 : insR [(3, 0, 0, 1), (3, 0, 1, 1), (3, 0, 2, 1), (2, 1, 1, 2), (1, 0, 0, 3)] (3, 0, 0, 1) = [(3, 0, 0, 1), (3, 0, 1, 1), (3, 0, 2, 1), (2, 1, 1, 2), (1, 0, 0, 3)] := insR_in (by decide)
  have b3 : insR [(3, 0, 0, 1), (3, 0, 1, 1), (3, 0, 2, 1), (2, 1, 1, 2), (1, 0, 0, 3)] (1, 0, 0, 3) = [(3, 0, 0, 1), (3, 0, 1, 1), (3, 0, 2, 1), (2, 1, 1, 2), (1, 0, 0, 3)] := insR_in (by decide)
  have e3 : growR false [(3, 0, 0, 1), (3, 0, 1, 1), (3, 0, 2, 1), (2, 1, 1, 2), (1, 0, 0, 3)] (2, 1, 1, 2) = [(3, 0, 0, 1), (3, 0, 1, 1), (3, 0, 2, 1), (2, 1, 1, 2), (1, 0, 0, 3)] := by
    unfold growR
    rw [g3_76, g3_82, a3, b3]
  have g4_76 : gol false (1, 0, 0, 3) 76 = (1, 0, 0, 3) := gol_dec (w := [76, 76, 76]) (by decide) (by decide) (by decide +kernel) ⟨by decide, by decide, by decide, by decide⟩ ⟨by decide, by decide⟩
  have g4_82 : gol false (1, 0, 0, 3) 82 = (1, 1, 0, 3) := gol_dec (w := []) (by decide) (by decide) (by decide +kernel) ⟨by decide, by decide, by decide, by decide⟩ ⟨by decide, by decide⟩
  have a4 : insR [(3, 0, 0, 1), (3, 0, 1, 1), (3, 0, 2, 1), (2, 1, 1, 2), (1, 0, 0, 3)] (1, 0, 0, 3) = [(3, 0, 0, 1), (3, 0, 1, 1), (3, 0, 2, 1), (2, 1, 1, 2), (1, 0, 0, 3)] := insR_in (by decide)
  have b4 : insR [(3, 0, 0, 1), (3, 0, 1, 1), (3, 0, 2, 1), (2, 1, 1, 2), (1, 0, 0, 3)] (1, 1, 0, 3) = [(3, 0, 0, 1), (3, 0, 1, 1), (3, 0, 2, 1), (2, 1, 1, 2), (1, 0, 0, 3), (1, 1, 0, 3)] := insR_out (by decide)
  have e4 : growR false [(3, 0, 0, 1), (3, 0, 1, 1), (3, 0, 2, 1), (2, 1, 1, 2), (1, 0, 0, 3)] (1, 0, 0, 3) = [(3, 0, 0, 1), (3, 0, 1, 1), (3, 0, 2, 1), (2, 1, 1, 2), (1, 0, 0, 3), (1, 1, 0, 3)] := by
    unfold growR
    rw [g4_76, g4_82, a4, b4]
  have g5_76 : gol false (1, 1, 0, 3) 76 = (2, 1, 1, 2) := gol_dec (w := [76]) (by decide) (by decide) (by decide +kernel) ⟨by decide, by decide, by decide, by decide⟩ ⟨by decide, by decide⟩
  have g5_82 : gol false (1, 1, 0, 3) 82 = (1, 2, 0, 3) := gol_dec (w := []) (by decide) (by decide) (by decide +kernel) ⟨by decide, by decide, by decide, by decide⟩ ⟨by decide, by decide⟩
  have a5 : insR [(3, 0, 0, 1), (3, 0, 1, 1), (3, 0, 2, 1), (2, 1, 1, 2), (1, 0, 0, 3), (1, 1, 0, 3)] (2, 1, 1, 2) = [(3, 0, 0, 1), (3, 0, 1, 1), (3, 0, 2, 1), (2, 1, 1, 2), (1, 0, 0, 3), (1, 1, 0, 3)] := insR_in (by decide)
  have b5 : insR [(3, 0, 0, 1), (3, 0, 1, 1), (3, 0, 2, 1), (2, 1, 1, 2), (1, 0, 0, 3), (1, 1, 0, 3)] (1, 2, 0, 3) = [(3, 0, 0, 1), (3, 0, 1, 1), (3, 0, 2, 1), (2, 1, 1, 2), (1, 0, 0, 3), (1, 1, 0, 3), (1, 2, 0, 3)] := insR_out (by decide)
  have e5 : growR false [(3, 0, 0, 1), (3, 0, 1, 1), (3, 0, 2, 1), (2, 1, 1, 2), (1, 0, 0, 3), (1, 1, 0, 3)] (1, 1, 0, 3) = [(3, 0, 0, 1), (3, 0, 1, 1), (3, 0, 2, 1), (2, 1, 1, 2), (1, 0, 0, 3), (1, 1, 0, 3), (1, 2, 0, 3)] := by
    unfold growR
    rw [g5_76, g5_82, a5, b5]
  have g6_76 : gol false (1, 2, 0, 3) 76 = (3, 0, 0, 1) := gol_dec (w := [76, 82, 82]) (by decide) (by decide) (by decide +kernel) ⟨by decide, by decide, by decide, by decide⟩ ⟨by decide, by decide⟩
  have g6_82 : gol false (1, 2, 0, 3) 82 = (1, 0, 0, 3) := gol_dec (w := [82]) (by decide) (by decide) (by decide +kernel) ⟨by decide, by decide, by decide, by decide⟩ ⟨by decide, by decide⟩
  have a6 : insR [(3, 0, 0, 1), (3, 0, 1, 1), (3, 0, 2, 1), (2, 1, 1, 2), (1, 0, 0, 3), (1, 1, 0, 3), (1, 2, 0, 3)] (3, 0, 0, 1) = [(3, 0, 0, 1), (3, 0, 1, 1), (3, 0, 2, 1), (2, 1, 1, 2), (1, 0, 0, 3), (1, 1, 0, 3), (1, 2, 0, 3)] := insR_in (by decide)
  have b6 : insR [(3, 0, 0, 1), (3, 0, 1, 1), (3, 0, 2, 1), (2, 1, 1, 2), (1, 0, 0, 3), (1, 1, 0, 3), (1, 2, 0, 3)] (1, 0, 0, 3) = [(3, 0, 0, 1), (3, 0, 1, 1), (3, 0, 2, 1), (2, 1, 1, 2), (1, 0, 0, 3), (1, 1, 0, 3), (1, 2, 0, 3)] := insR_in (by decide)
  have e6 : growR false [(3, 0, 0, 1), (3, 0, 1, 1), (3, 0, 2, 1), (2, 1, 1, 2), (1, 0, 0, 3), (1, 1, 0, 3), (1, 2, 0, 3)] (1, 2, 0, 3) = [(3, 0, 0, 1), (3, 0, 1, 1), (3, 0, 2, 1), (2, 1, 1, 2), (1, 0, 0, 3), (1, 1, 0, 3), (1, 2, 0, 3)] := by
    unfold growR
    rw [g6_76, g6_82, a6, b6]
  have z : Bf false [(3, 0, 0, 1)] 0 [(3, 0, 0, 1), (3, 0, 1, 1), (3, 0, 2, 1), (2, 1, 1, 2), (1, 0, 0, 3), (1, 1, 0, 3), (1, 2, 0, 3)] := by
    refine .step (u := (3, 0, 0, 1)) rfl ?_
    rw [e0]
    refine .step (u := (3, 0, 1, 1)) rfl ?_
    rw [e1]
    refine .step (u := (3, 0, 2, 1)) rfl ?_
    rw [e2]
    refine .step (u := (2, 1, 1, 2)) rfl ?_
    rw [e3]
    refine .step (u := (1, 0, 0, 3)) rfl ?_
    rw [e4]
    refine .step (u := (1, 1, 0, 3)) rfl ?_
    rw [e5]
    refine .step (u := (1, 2, 0, 3)) rfl ?_
    rw [e6]
    exact .stop (by decide)
  rw [b.uniq z]
  rfl
end Z
namespace K26
open PySem PySem.Spec PyProof.Rows L2 Z

def top (i : Nat) : Stmt := PySem.Challenge.pw_turnmill_k26_whole_fewest_rooms.main.body.getD i (.Pass ⟨0, 0, 0, 0⟩)
abbrev s__law_hand : Stmt := top 35
abbrev s_Table_is_mill : Stmt := inClass (top 25) 4
abbrev s_determinant_of : Stmt := top 29
abbrev s_divisor_of : Stmt := top 19
abbrev s_divided : Stmt := top 21
abbrev s_need_size : Stmt := top 31
abbrev s_Table_entries : Stmt := inClass (top 25) 6
abbrev s_least_times : Stmt := top 22
abbrev s_runs_taken : Stmt := top 23
abbrev s_word_taken : Stmt := top 24
abbrev s_columns_exchanged : Stmt := top 30
abbrev s_other_turn : Stmt := top 18
abbrev s_product : Stmt := top 20
abbrev s_machine_of : Stmt := top 32
abbrev s_Milld_initd : Stmt := inClass (top 33) 1
abbrev s_is_integer : Stmt := top 13
abbrev s_Tabled_initd : Stmt := inClass (top 25) 0
abbrev s__law_made : Stmt := top 44
abbrev s__law_prod : Stmt := top 40
abbrev s__law_grid : Stmt := top 41
abbrev s__law_pick : Stmt := top 36
abbrev s__law_of : Stmt := top 37
abbrev s__law_word : Stmt := top 38
abbrev s__law_core : Stmt := top 42
abbrev s__law_mill : Stmt := top 43
abbrev s_table_with : Stmt := top 26
abbrev s_Mill_rooms : Stmt := inClass (top 33) 6
abbrev s__law_all : Stmt := top 39
abbrev s_is_within : Stmt := top 14
abbrev s_is_word : Stmt := top 15
abbrev s_is_turn : Stmt := top 16
abbrev s_check_turn : Stmt := top 17
abbrev s_Mill_step : Stmt := inClass (top 33) 7
abbrev s__law_walk : Stmt := top 45
abbrev s_Table_plain : Stmt := inClass (top 25) 9
abbrev s_Tabled_eqd : Stmt := inClass (top 25) 13
abbrev s_Table_alike : Stmt := inClass (top 25) 10
abbrev s_Milld_lend : Stmt := inClass (top 33) 11
abbrev s_law : Stmt := top 46
abbrev s_InvalidRoom : Stmt := inClass (top 5) 0
abbrev s_InvalidTable : Stmt := inClass (top 4) 0
abbrev s_InvalidWord : Stmt := inClass (top 3) 0
abbrev s_TooGreat : Stmt := inClass (top 7) 0
abbrev s_TooLong : Stmt := inClass (top 6) 0
theorem sc__law_hand : FnScope ["_law_script", "_law_cells", "_law_mark", "_law_cell"] ["_law_script"] (defScope s__law_hand) := ⟨rfl, rfl, rfl, by decide +kernel, rfl, by decide +kernel, by decide +kernel⟩
theorem sc_Table_is_mill : FnScope ["self"] ["self"] (defScope s_Table_is_mill) := ⟨rfl, rfl, rfl, by decide +kernel, rfl, by decide +kernel, by decide +kernel⟩
theorem sc_determinant_of : FnScope ["entries", "a", "b", "c", "d"] ["entries"] (defScope s_determinant_of) := ⟨rfl, rfl, rfl, by decide +kernel, rfl, by decide +kernel, by decide +kernel⟩
theorem sc_divisor_of : FnScope ["numbers", "found", "number", "one", "other"] ["numbers"] (defScope s_divisor_of) := ⟨rfl, rfl, rfl, by decide +kernel, rfl, by decide +kernel, by decide +kernel⟩
theorem sc_divided : FnScope ["entries", "common", "entry"] ["entries"] (defScope s_divided) := ⟨rfl, rfl, rfl, by decide +kernel, rfl, by decide +kernel, by decide +kernel⟩
theorem sc_need_size : FnScope ["entries", "size"] ["entries"] (defScope s_need_size) := ⟨rfl, rfl, rfl, by decide +kernel, rfl, by decide +kernel, by decide +kernel⟩
theorem sc_Table_entries : FnScope ["self"] ["self"] (defScope s_Table_entries) := ⟨rfl, rfl, rfl, by decide +kernel, rfl, by decide +kernel, by decide +kernel⟩
theorem sc_least_times : FnScope ["upper", "lower", "one", "other"] ["upper", "lower"] (defScope s_least_times) := ⟨rfl, rfl, rfl, by decide +kernel, rfl, by decide +kernel, by decide +kernel⟩
theorem sc_runs_taken : FnScope ["entries", "a", "b", "c", "d", "runs", "searching", "count"] ["entries"] (defScope s_runs_taken) := ⟨rfl, rfl, rfl, by decide +kernel, rfl, by decide +kernel, by decide +kernel⟩
theorem sc_word_taken : FnScope ["entries", "most", "runs", "left", "turn", "count"] ["entries", "most"] (defScope s_word_taken) := ⟨rfl, rfl, rfl, by decide +kernel, rfl, by decide +kernel, by decide +kernel⟩
theorem sc_columns_exchanged : FnScope ["entries", "a", "b", "c", "d"] ["entries"] (defScope s_columns_exchanged) := ⟨rfl, rfl, rfl, by decide +kernel, rfl, by decide +kernel, by decide +kernel⟩
theorem sc_other_turn : FnScope ["turn"] ["turn"] (defScope s_other_turn) := ⟨rfl, rfl, rfl, by decide +kernel, rfl, by decide +kernel, by decide +kernel⟩
theorem sc_product : FnScope ["one", "other", "a", "b", "c", "d", "e", "f", "g", "h"] ["one", "other"] (defScope s_product) := ⟨rfl, rfl, rfl, by decide +kernel, rfl, by decide +kernel, by decide +kernel⟩
theorem sc_machine_of : FnScope ["entries", "most", "plain", "is_turned", "lead", "first", "line", "places", "steps", "at", "row", "turn", "taken", "word", "goal"] ["entries", "most"] (defScope s_machine_of) := ⟨rfl, rfl, rfl, by decide +kernel, rfl, by decide +kernel, by decide +kernel⟩
theorem sc_Milld_initd : FnScope ["self", "table"] ["self", "table"] (defScope s_Milld_initd) := ⟨rfl, rfl, rfl, by decide +kernel, rfl, by decide +kernel, by decide +kernel⟩
theorem sc_is_integer : FnScope ["value"] ["value"] (defScope s_is_integer) := ⟨rfl, rfl, rfl, by decide +kernel, rfl, by decide +kernel, by decide +kernel⟩
theorem sc_Tabled_initd : FnScope ["self", "a", "b", "c", "d", "entry"] ["self", "a", "b", "c", "d"] (defScope s_Tabled_initd) := ⟨rfl, rfl, rfl, by decide +kernel, rfl, by decide +kernel, by decide +kernel⟩
theorem sc__law_made : FnScope ["_law_entries"] ["_law_entries"] (defScope s__law_made) := ⟨rfl, rfl, rfl, by decide +kernel, rfl, by decide +kernel, by decide +kernel⟩
theorem sc__law_prod : FnScope ["_law_one", "_law_rival"] ["_law_one", "_law_rival"] (defScope s__law_prod) := ⟨rfl, rfl, rfl, by decide +kernel, rfl, by decide +kernel, by decide +kernel⟩
theorem sc__law_grid : FnScope ["_law_token", "_law_found", "_law_side"] ["_law_token"] (defScope s__law_grid) := ⟨rfl, rfl, rfl, by decide +kernel, rfl, by decide +kernel, by decide +kernel⟩
theorem sc__law_pick : FnScope ["_law_hand_here", "_law_many", "_law_cell", "_law_one", "_law_two", "_law_drawn"] ["_law_hand_here", "_law_many"] (defScope s__law_pick) := ⟨rfl, rfl, rfl, by decide +kernel, rfl, by decide +kernel, by decide +kernel⟩
theorem sc__law_of : FnScope ["_law_hand_here", "_law_items"] ["_law_hand_here", "_law_items"] (defScope s__law_of) := ⟨rfl, rfl, rfl, by decide +kernel, rfl, by decide +kernel, by decide +kernel⟩
theorem sc__law_word : FnScope ["_law_hand_here", "_law_peak", "_law_k"] ["_law_hand_here", "_law_peak"] (defScope s__law_word) := ⟨rfl, rfl, rfl, by decide +kernel, rfl, by decide +kernel, by decide +kernel⟩
theorem sc__law_core : FnScope ["_law_hand_here", "_law_cap", "_law_size", "_law_share", "_law_part"] ["_law_hand_here", "_law_cap"] (defScope s__law_core) := ⟨rfl, rfl, rfl, by decide +kernel, rfl, by decide +kernel, by decide +kernel⟩
theorem sc__law_mill : FnScope ["_law_hand_here", "_law_cap", "_law_entries", "_law_many", "_law_entry"] ["_law_hand_here", "_law_cap"] (defScope s__law_mill) := ⟨rfl, rfl, rfl, by decide +kernel, rfl, by decide +kernel, by decide +kernel⟩
theorem sc_table_with : FnScope ["entries", "a", "b", "c", "d"] ["entries"] (defScope s_table_with) := ⟨rfl, rfl, rfl, by decide +kernel, rfl, by decide +kernel, by decide +kernel⟩
theorem sc_Mill_rooms : FnScope ["self", "entries"] ["self"] (defScope s_Mill_rooms) := ⟨rfl, rfl, rfl, by decide +kernel, rfl, by decide +kernel, by decide +kernel⟩
theorem sc__law_all : FnScope ["_law_length", "_law_found", "_law_step", "_law_more", "_law_token", "_law_side"] ["_law_length"] (defScope s__law_all) := ⟨rfl, rfl, rfl, by decide +kernel, rfl, by decide +kernel, by decide +kernel⟩
theorem sc_is_within : FnScope ["value", "least", "most"] ["value", "least", "most"] (defScope s_is_within) := ⟨rfl, rfl, rfl, by decide +kernel, rfl, by decide +kernel, by decide +kernel⟩
theorem sc_is_word : FnScope ["value", "turn"] ["value"] (defScope s_is_word) := ⟨rfl, rfl, rfl, by decide +kernel, rfl, by decide +kernel, by decide +kernel⟩
theorem sc_is_turn : FnScope ["value"] ["value"] (defScope s_is_turn) := ⟨rfl, rfl, rfl, by decide +kernel, rfl, by decide +kernel, by decide +kernel⟩
theorem sc_check_turn : FnScope ["value"] ["value"] (defScope s_check_turn) := ⟨rfl, rfl, rfl, by decide +kernel, rfl, by decide +kernel, by decide +kernel⟩
theorem sc_Mill_step : FnScope ["self", "room", "turn"] ["self", "room", "turn"] (defScope s_Mill_step) := ⟨rfl, rfl, rfl, by decide +kernel, rfl, by decide +kernel, by decide +kernel⟩
theorem sc__law_walk : FnScope ["_law_wheel", "_law_place", "_law_token", "_law_told", "_law_side", "_law_part"] ["_law_wheel", "_law_place", "_law_token"] (defScope s__law_walk) := ⟨rfl, rfl, rfl, by decide +kernel, rfl, by decide +kernel, by decide +kernel⟩
theorem sc_Table_plain : FnScope ["self", "found", "first", "entry"] ["self"] (defScope s_Table_plain) := ⟨rfl, rfl, rfl, by decide +kernel, rfl, by decide +kernel, by decide +kernel⟩
theorem sc_Tabled_eqd : FnScope ["self", "other"] ["self", "other"] (defScope s_Tabled_eqd) := ⟨rfl, rfl, rfl, by decide +kernel, rfl, by decide +kernel, by decide +kernel⟩
theorem sc_Table_alike : FnScope ["self", "other"] ["self", "other"] (defScope s_Table_alike) := ⟨rfl, rfl, rfl, by decide +kernel, rfl, by decide +kernel, by decide +kernel⟩
theorem sc_Milld_lend : FnScope ["self"] ["self"] (defScope s_Milld_lend) := ⟨rfl, rfl, rfl, by decide +kernel, rfl, by decide +kernel, by decide +kernel⟩
theorem sc_law : FnScope ["_law_script", "_law_hand_here", "_law_step", "_law_device", "_law_rooms", "_law_at", "_law_told", "_law_token", "_law_part", "_law_goal", "_law_phrase", "_law_place", "_law_size", "_law_late", "_law_one", "_law_side"] ["_law_script"] (defScope s_law) := ⟨rfl, rfl, rfl, by decide +kernel, rfl, by decide +kernel, by decide +kernel⟩
theorem sc_InvalidRoom : FnScope ["self", "given"] ["self", "given"] (defScope s_InvalidRoom) := ⟨rfl, rfl, rfl, by decide +kernel, rfl, by decide +kernel, by decide +kernel⟩
theorem sc_InvalidTable : FnScope ["self"] ["self"] (defScope s_InvalidTable) := ⟨rfl, rfl, rfl, by decide +kernel, rfl, by decide +kernel, by decide +kernel⟩
theorem sc_InvalidWord : FnScope ["self", "given"] ["self", "given"] (defScope s_InvalidWord) := ⟨rfl, rfl, rfl, by decide +kernel, rfl, by decide +kernel, by decide +kernel⟩
theorem sc_TooGreat : FnScope ["self", "most"] ["self", "most"] (defScope s_TooGreat) := ⟨rfl, rfl, rfl, by decide +kernel, rfl, by decide +kernel, by decide +kernel⟩
theorem sc_TooLong : FnScope ["self", "most"] ["self", "most"] (defScope s_TooLong) := ⟨rfl, rfl, rfl, by decide +kernel, rfl, by decide +kernel, by decide +kernel⟩
structure Txt (K : PySem.W.Frag) (mg : Str → Option Value) : Prop where
  n_range : mg "range" = none
  cl_Mill : Cls K (He.ga K "Mill")
  n_len : mg "len" = none
  n_any : mg "any" = none
  cl_Table : Cls K (He.ga K "Table")
  n_sorted : mg "sorted" = none
  n_set : mg "set" = none
  n_list : mg "list" = none
  n_all : mg "all" = none
  na_Table_whole : NoAttr K (He.ga K "Table") "whole"
  n_isinstance : mg "isinstance" = none
  n_bool : mg "bool" = none
  n_int : mg "int" = none
  na_Mill_machine : NoAttr K (He.ga K "Mill") "machine"
  k_TURNS : ∃ t, mg "TURNS" = some (.str "LR" t)
  n_str : mg "str" = none
  io_Table : OwnF K (He.ga K "Table")
  gl_Table : mg "Table" = some (.ref (He.ga K "Table"))
  n_tuple : mg "tuple" = none
  n_abs : mg "abs" = none
  na_Mill_given : NoAttr K (He.ga K "Mill") "given"
  na_Mill_own_size : NoAttr K (He.ga K "Mill") "own_size"
  k_MOST_TURNS : ∃ t, mg "MOST_TURNS" = some (.int 4000 t)
  na_Mill_same : NoAttr K (He.ga K "Mill") "same"
  k_RIGHT : TupG K mg "RIGHT" [.int 1,.int 1,.int 0,.int 1]
  k_LEFT : TupG K mg "LEFT" [.int 1,.int 0,.int 1,.int 1]
  n_sum : mg "sum" = none
  n_min : mg "min" = none
  n_zip : mg "zip" = none
  k_MOST_SIZE : ∃ t, mg "MOST_SIZE" = some (.int 60 t)
def isIn (M : Sto) (d : D) : Bool := decide (tyN M d = some "int")
theorem cutJ {P A : Prop} (main : P → A) (rest : P) : A := main rest
theorem cut1 {α : Type} {Q C : α → Prop} {A : Prop} (main : (∀ a, C a → Q a) → A) (rest : ∀ a, C a → Q a) : A := main rest
theorem cut3 {α β γ : Type} {Q C : α → β → γ → Prop} {A : Prop} (main : (∀ a b c, C a b c → Q a b c) → A) (rest : ∀ a b c, C a b c → Q a b c) : A := main rest
theorem no_at {f : Str} {d : D} (h : (f == ("whole" : Str)) = false) : List.lookup f [(("whole" : Str), d)] = none := look_ne h
theorem no_plain {d : D} : List.lookup ("plain" : Str) [(("whole" : Str), d)] = none := no_at (by decide +kernel)
theorem no_back {d : D} : List.lookup ("back" : Str) [(("whole" : Str), d)] = none := no_at (by decide +kernel)
theorem no_alike {d : D} : List.lookup ("alike" : Str) [(("whole" : Str), d)] = none := no_at (by decide +kernel)
theorem no_taken {d : D} : List.lookup ("taken" : Str) [(("whole" : Str), d)] = none := no_at (by decide +kernel)
theorem no_entries {d : D} : List.lookup ("entries" : Str) [(("whole" : Str), d)] = none := no_at (by decide +kernel)
theorem no_power {d : D} : List.lookup ("power" : Str) [(("whole" : Str), d)] = none := no_at (by decide +kernel)
theorem wB_LR {x : Str} (h : LR x.cps.toList) : wB (.str x) = true := List.all_eq_true.mpr fun c hc => decide_eq_true (lr_mem.mpr (h c hc))
theorem wB_odd {x : Str} {c : Nat} (hc : c ∈ x.cps.toList) (h : c ≠ 76 ∧ c ≠ 82) : wB (.str x) = false := by
  cases e : wB (.str x) with
  | false => rfl
  | true =>
    have := of_decide_eq_true (List.all_eq_true.mp e c hc)
    rcases lr_mem.mp this with z | z
    · exact absurd z h.1
    · exact absurd z h.2
section
variable {P : Program} {w : World} {K : PySem.W.Frag} {mg : Str → Option Value} {base : Heap}
abbrev b__law_hand : List (Nat × List Str × (List D → List D → List D)) := [(pos 1)]
abbrev b_Table_is_mill : List (Nat × List Str × (List D → List D → List D)) := [(pos 1)]
abbrev b_determinant_of : List (Nat × List Str × (List D → List D → List D)) := [(pos 1)]
abbrev b_divisor_of : List (Nat × List Str × (List D → List D → List D)) := [(pos 1)]
abbrev b_divided : List (Nat × List Str × (List D → List D → List D)) := [(pos 1)]
abbrev b_need_size : List (Nat × List Str × (List D → List D → List D)) := [(pos 1)]
abbrev b_Table_entries : List (Nat × List Str × (List D → List D → List D)) := [(pos 1)]
abbrev b_least_times : List (Nat × List Str × (List D → List D → List D)) := [(pos 2)]
abbrev b_runs_taken : List (Nat × List Str × (List D → List D → List D)) := [(pos 1)]
abbrev b_word_taken : List (Nat × List Str × (List D → List D → List D)) := [(pos 2)]
abbrev b_columns_exchanged : List (Nat × List Str × (List D → List D → List D)) := [(pos 1)]
abbrev b_other_turn : List (Nat × List Str × (List D → List D → List D)) := [(pos 1)]
abbrev b_product : List (Nat × List Str × (List D → List D → List D)) := [(pos 2)]
abbrev b_machine_of : List (Nat × List Str × (List D → List D → List D)) := [(pos 2)]
abbrev b_Milld_initd : List (Nat × List Str × (List D → List D → List D)) := [(pos 2)]
abbrev b_is_integer : List (Nat × List Str × (List D → List D → List D)) := [(pos 1)]
abbrev b_Tabled_initd : List (Nat × List Str × (List D → List D → List D)) := [(pos 5)]
abbrev b__law_made : List (Nat × List Str × (List D → List D → List D)) := [(pos 1)]
abbrev b__law_prod : List (Nat × List Str × (List D → List D → List D)) := [(pos 2)]
abbrev b__law_grid : List (Nat × List Str × (List D → List D → List D)) := [(pos 1)]
abbrev b__law_pick : List (Nat × List Str × (List D → List D → List D)) := [(pos 2)]
abbrev b__law_of : List (Nat × List Str × (List D → List D → List D)) := [(pos 2)]
abbrev b__law_word : List (Nat × List Str × (List D → List D → List D)) := [(pos 2)]
abbrev b__law_core : List (Nat × List Str × (List D → List D → List D)) := [(pos 2)]
abbrev b__law_mill : List (Nat × List Str × (List D → List D → List D)) := [(pos 2)]
abbrev b_table_with : List (Nat × List Str × (List D → List D → List D)) := [(pos 1)]
abbrev b_Mill_rooms : List (Nat × List Str × (List D → List D → List D)) := [(pos 1)]
abbrev b__law_all : List (Nat × List Str × (List D → List D → List D)) := [(pos 1)]
abbrev b_is_within : List (Nat × List Str × (List D → List D → List D)) := [(pos 3)]
abbrev b_is_word : List (Nat × List Str × (List D → List D → List D)) := [(pos 1)]
abbrev b_is_turn : List (Nat × List Str × (List D → List D → List D)) := [(pos 1)]
abbrev b_check_turn : List (Nat × List Str × (List D → List D → List D)) := [(pos 1)]
abbrev b_Mill_step : List (Nat × List Str × (List D → List D → List D)) := [(pos 3)]
abbrev b__law_walk : List (Nat × List Str × (List D → List D → List D)) := [(pos 3)]
abbrev b_Table_plain : List (Nat × List Str × (List D → List D → List D)) := [(pos 1)]
abbrev b_Tabled_eqd : List (Nat × List Str × (List D → List D → List D)) := [(pos 2)]
abbrev b_Table_alike : List (Nat × List Str × (List D → List D → List D)) := [(pos 2)]
abbrev b_Milld_lend : List (Nat × List Str × (List D → List D → List D)) := [(pos 1)]
abbrev b_law : List (Nat × List Str × (List D → List D → List D)) := [(pos 1)]
def c__law_hand : Ct := fun ds M Ψ _ => ∃ ns : List Int, ds = [scr ns] ∧ ns.length ≤ 63 ∧ ∀ p (h : Hand), M p = none → h.cs.length ≤ 63 → 0 ≤ h.i → Ψ (.ref p) (updM M p (hd h))
theorem ok__law_hand {f : Addr} {fd : FuncData} {dvs : List V} {kws : List (Str × V)} (T : Txt K mg)  (F : FnZ K "_law_hand" "_law_hand" s__law_hand dvs kws f fd) : FnOk P w K mg base (L2.CX P w) 2 f fd ["_law_script"] (spC K (["_law_script"] : List Str).length (c__law_hand)) := by
  have hnd := sc__law_hand.nd
  refine fnD F sc__law_hand (c__law_hand) fun cdv A outer s H E B Ξ hr z => ⟨_, (dss_cons (ds_setLc (i := 1) rfl hnd (sw_true rfl rfl rfl rfl) (di_list (de_slice (de_var (i := 0)) do_none (do_some de_int))) (blkOk_by (own := [("_law_cell", 3)]) (by rfl)) (tg_name (i := 3) (by decide)) (fun _ _ _ _ _ => (pg_name (i := 3) hnd rfl (by first | exact Or.inl rfl | exact Or.inr rfl) (by first | exact .inl rfl | exact .inr rfl))) (fun _ _ _ _ _ _ => dts_nil) (fun _ _ _ _ _ _ => (de_int1 T.n_int (da_cons (de_var (i := 3)) da_nil))))
    (dss_cons (ds_set (i := 2) hnd (de_add de_int (de_mul de_int (de_len T.n_len (da_cons (de_var (i := 1)) da_nil)))))
    (dss_cons (ds_for z.po rfl (di_list (de_var (i := 1))) (dg_name (i := 3) hnd) (dss_one (ds_set (i := 2) hnd (de_fmod (de_int1 T.n_int (da_cons (de_add (de_mul (de_var (i := 2)) de_int) (de_var (i := 3))) da_nil)) de_int))))
    (dss_one (ds_ret (de_lstM (da_cons (de_var (i := 1)) (da_cons de_int (da_cons de_int (da_cons (de_var (i := 2)) da_nil)))))))))), fun ds Ψ hl hc => ?_⟩
  obtain ⟨ns, rfl, hl, q⟩ := hc
  have hl2 : (cutD ns none (some 63)).length ≤ 63 := Nat.le_trans (cut_len _ _ _) hl
  refine compD_map (xs := cutD (ns.map D.int) none (some 63)) (S := fun M => lstOf M (.lst (cutD (ns.map D.int) none (some 63))) = some (cutD (ns.map D.int) none (some 63))) (fun K h => ⟨_, rfl, h⟩) (fun d => d) rfl ?_ (fun d hd Q q => ?_) ?_
  · rw [cut_map, List.length_map]
    exact Nat.le_trans hl2 (Nat.le_trans (by decide) big_ok)
  · rw [cut_map] at hd
    obtain ⟨i, _, rfl⟩ := List.mem_map.mp hd
    exact q
  rw [List.map_id', cut_map]
  generalize hcs : cutD ns none (some 63) = cs at hl2 ⊢
  refine ⟨IntMulOk.of_left (by decide), ?_⟩
  refine forD_n (xs := cs.map D.int) (S := fun M => lstOf M (.lst (cs.map D.int)) = some (cs.map D.int)) (fun K h => ⟨_, rfl, h⟩) (fun i r M' => M' = B.M ∧ ∃ (m : Int) (o : Option D), r = [some (scr ns), some (.lst (cs.map D.int)), some (.int m), o]) ⟨rfl, _, none, rfl⟩ (fun _ _ _ _ => rfl) (fun i d r M' hd h => ?_) (fun r M' h => ?_)
  · obtain ⟨rfl, m, o, rfl⟩ := h
    obtain ⟨c, _, rfl⟩ := List.mem_map.mp (lmem hd)
    exact ⟨IntMulOk.of_right (by decide), by decide, .of ⟨rfl, _, _, rfl⟩⟩
  · obtain ⟨rfl, m, o, rfl⟩ := h
    exact ⟨ln (n := 4) rfl (by decide), fun p hp => ⟨_, _, .same, q p ⟨cs, 0, 0, m⟩ hp hl2 (Int.le_refl 0)⟩⟩
def c_Table_is_mill (C : Addr) : Ct := fun ds M Ψ _ => ∃ t, ds = [tab C t] ∧ Ψ (.bl (mnB t)) M
theorem ok_Table_is_mill {f : Addr} {fd : FuncData} {dvs : List V} {kws : List (Str × V)} (T : Txt K mg)  (F : FnZ K "is_mill" "Table.is_mill" s_Table_is_mill dvs kws f fd) : FnOk P w K mg base (L2.CX P w) 2 f fd ["self"] (spC K (["self"] : List Str).length (c_Table_is_mill (He.ga K "Table"))) := by
  have hnd := sc_Table_is_mill.nd
  refine fnD F sc_Table_is_mill (c_Table_is_mill (He.ga K "Table")) fun cdv A outer s H E B Ξ hr z => ⟨_, (dss_one (ds_ret (de_ge (de_minA rfl hr T.n_min (da_cons (de_fld T.cl_Table T.na_Table_whole (de_var (i := 0))) da_nil)) de_int))), fun ds Ψ hl hc => ?_⟩
  obtain ⟨t, rfl, q⟩ := hc
  exact ⟨rfl, fld_hd ⟨t.1, [t.2.1, t.2.2.1, t.2.2.2], .inr rfl, _, _, .same, q⟩⟩
def c_determinant_of : Ct := fun ds M Ψ _ => ∃ t n, ds = [tD t] ∧ Sm n t ∧ 0 < n ∧ n ≤ 8000 ∧ Ψ (.int (det4 t)) M
theorem ok_determinant_of {f : Addr} {fd : FuncData} {dvs : List V} {kws : List (Str × V)} (T : Txt K mg)  (F : FnZ K "determinant_of" "determinant_of" s_determinant_of dvs kws f fd) : FnOk P w K mg base (L2.CX P w) 2 f fd ["entries"] (spC K (["entries"] : List Str).length (c_determinant_of)) := by
  have hnd := sc_determinant_of.nd
  refine fnD F sc_determinant_of (c_determinant_of) fun cdv A outer s H E B Ξ hr z => ⟨_, (dss_cons (ds_asg (de_var (i := 0)) (dg_tup (n := 4) rfl (dgs_cons (dg_name (i := 1) hnd) (dgs_cons (dg_name (i := 2) hnd) (dgs_cons (dg_name (i := 3) hnd) (dgs_cons (dg_name (i := 4) hnd) dgs_nil))))))
    (dss_one (ds_ret (de_sub (de_mul (de_var (i := 1)) (de_var (i := 4))) (de_mul (de_var (i := 2)) (de_var (i := 3))))))), fun ds Ψ hl hc => ?_⟩
  obtain ⟨t, n, rfl, hs, h0, h1, q⟩ := hc
  have k : ∀ {i j : Int}, i.natAbs < 2 ^ n → j.natAbs < 2 ^ n → IntMulOk i j := fun a b => mok_of a b h0 h0 (by omega)
  exact ⟨rfl, rfl, k hs.1 hs.2.2.2, k hs.2.1 hs.2.2.1, _, _, .same, q⟩
def c_divisor_of : Ct := fun ds M Ψ _ => ∃ ns : List Int, ds = [.tup (ns.map .int)] ∧ Ψ (.int (gN ns)) M
theorem ok_divisor_of {f : Addr} {fd : FuncData} {dvs : List V} {kws : List (Str × V)} (T : Txt K mg)  (F : FnZ K "divisor_of" "divisor_of" s_divisor_of dvs kws f fd) : FnOk P w K mg base (L2.CX P w) 2 f fd ["numbers"] (spC K (["numbers"] : List Str).length (c_divisor_of)) := by
  have hnd := sc_divisor_of.nd
  refine fnD F sc_divisor_of (c_divisor_of) fun cdv A outer s H E B Ξ hr z => ⟨_, (dss_cons (ds_set (i := 1) hnd de_int)
    (dss_cons (ds_for z.po rfl (di_tup (de_var (i := 0))) (dg_name (i := 2) hnd) (dss_cons (ds_par (i := 3) (j := 4) rfl hnd (da_cons (de_var (i := 1)) (da_cons (de_abs1 T.n_abs (da_cons (de_var (i := 2)) da_nil)) da_nil)))
    (dss_cons (ds_while z.po (dt_ne hr (de_var (i := 4)) de_int) (dss_one (ds_par (i := 3) (j := 4) rfl hnd (da_cons (de_var (i := 4)) (da_cons (de_fmod (de_var (i := 3)) (de_var (i := 4))) da_nil)))))
    (dss_one (ds_set (i := 1) hnd (de_var (i := 3)))))))
    (dss_one (ds_ret (de_var (i := 1)))))), fun ds Ψ hl hc => ?_⟩
  obtain ⟨ns, rfl, q⟩ := hc
  refine forD_n (xs := ns.map .int) (S := fun _ => True) (fun K h => ⟨_, rfl, h⟩) (fun i r M' => M' = B.M ∧ ∃ o2 o3 o4, r = [some (.tup (ns.map .int)), some (.int (gN (ns.take i))), o2, o3, o4]) ⟨rfl, none, none, none, rfl⟩ (fun _ _ _ _ => trivial) (fun i d r M' hd h => ?_) (fun r M' h => ?_)
  · obtain ⟨rfl, o2, o3, o4, rfl⟩ := h
    obtain ⟨x, hx, rfl⟩ := map_get hd
    refine ⟨fun r M' => M' = B.M ∧ ∃ a b : Nat, Nat.gcd a b = Nat.gcd (gN (ns.take i)) x.natAbs ∧ r = [some (.tup (ns.map .int)), some (.int (gN (ns.take i))), some (.int x), some (.int a), some (.int b)], fun r _ => slotN r 4, .of ⟨rfl, _, _, rfl, by rw [abs_nat]; rfl⟩, fun r M' h => ?_⟩
    obtain ⟨rfl, a, b, e, rfl⟩ := h
    refine neI ?_
    refine bl_c (fun e2 => ?_) (fun e2 => ?_)
    · have hb : b ≠ 0 := by simpa using e2
      refine ⟨by omega, .of ⟨⟨rfl, b, a % b, by rw [gcd_step]; exact e, by rw [fmod_nat]; rfl⟩, ?_⟩⟩
      show (((a : Int).fmod b)).natAbs < (b : Int).natAbs
      rw [fmod_nat]
      have := Nat.mod_lt a (Nat.pos_of_ne_zero hb)
      omega
    · have hb : b = 0 := by simpa using e2
      subst hb
      exact .of ⟨rfl, some (.int x), some (.int a), some (.int 0), by rw [gN_take hx, ← e, Nat.gcd_zero_right]; rfl⟩
  · obtain ⟨rfl, o2, o3, o4, rfl⟩ := h
    refine ⟨_, _, .same, ?_⟩
    rw [List.length_map, List.take_length]
    exact q
def c_divided : Ct := fun ds M Ψ _ => ∃ ns : List Int, ds = [.tup (ns.map .int)] ∧ ns.length ≤ 1000000 ∧ Dok (gN ns) ∧ Ψ (.tup ((dvL (gN ns) ns).map .int)) M
def dvB (g : Int) (d : D) : D := match d with
  | .int j => .int (j.fdiv g)
  | d => d
theorem dvB_map (g : Nat) (l : List Int) : (l.map D.int).map (dvB g) = (dvL g l).map D.int := by unfold dvL; rw [List.map_map, List.map_map]; rfl
theorem ok_divided {f : Addr} {fd : FuncData} {dvs : List V} {kws : List (Str × V)} (T : Txt K mg) (h_divisor_of : Gf P w K mg base "divisor_of" 2 (c_divisor_of) b_divisor_of) (F : FnZ K "divided" "divided" s_divided dvs kws f fd) : FnOk P w K mg base (L2.CX P w) 3 f fd ["entries"] (spC K (["entries"] : List Str).length (c_divided)) := by
  have hnd := sc_divided.nd
  refine fnD F sc_divided (c_divided) fun cdv A outer s H E B Ξ hr z => ⟨_, (dss_cons (ds_set (i := 1) hnd (de_call h_divisor_of hr z (List.Mem.head _) (da_cons (de_var (i := 0)) da_nil)))
    (dss_one (ds_ret (de_tuple1 T.n_tuple (da_cons (de_lc rfl hnd (di_tup (de_var (i := 0))) (blkOk_by (own := [("entry", 2)]) (by rfl)) (tg_name (i := 2) (by decide)) (fun _ _ _ _ _ => (pg_name (i := 2) hnd rfl (by first | exact Or.inl rfl | exact Or.inr rfl) (by first | exact .inl rfl | exact .inr rfl))) (fun _ _ _ _ _ _ => dts_nil) (fun _ _ _ _ _ _ => (de_fdiv (de_var (i := 2)) (de_var (i := 1))))) da_nil))))), fun ds Ψ hl hc => ?_⟩
  obtain ⟨ns, rfl, hl, hg, q⟩ := hc
  refine ⟨rfl, rfl, ns, rfl, ?_⟩
  refine compD_map (xs := ns.map .int) (S := fun _ => True) (fun K h => ⟨_, rfl, h⟩) (dvB (gN ns)) trivial (ln (n := ns.length) (List.length_map _) hl) (fun d hd Q h => ?_) ?_
  · obtain ⟨x, hx, rfl⟩ := List.mem_map.mp hd
    exact ⟨hg, h⟩
  · rw [dvB_map]
    exact ⟨_, rfl, _, _, .same, q⟩
def c_need_size (CG : Addr) : Ct := fun ds M Ψ Ξ => ∃ t n, ds = [tD t] ∧ Sm n t ∧ 0 < n ∧ n ≤ 8000 ∧ det4 t ≠ 0 ∧ ((det4 (pr4 t)).natAbs ≤ 60 → Ψ (.int ((det4 (pr4 t)).natAbs : Nat)) M) ∧ (60 < (det4 (pr4 t)).natAbs → Ξ (CG, [("most", .int 60), ("tag", .str "TooGreat")]) M)
theorem ok_need_size {f : Addr} {fd : FuncData} {dvs : List V} {kws : List (Str × V)} (T : Txt K mg) (h_determinant_of : Gf P w K mg base "determinant_of" 2 (c_determinant_of) b_determinant_of) (h_divided : Gf P w K mg base "divided" 3 (c_divided) b_divided) (x_TooGreat : Xf P w K mg base "TooGreat" (He.ga K "TooGreat") 1 (tag2 "TooGreat" "most")) (F : FnZ K "need_size" "need_size" s_need_size dvs kws f fd) : FnOk P w K mg base (L2.CX P w) 4 f fd ["entries"] (spC K (["entries"] : List Str).length (c_need_size (He.ga K "TooGreat"))) := by
  have hnd := sc_need_size.nd
  refine fnD F sc_need_size (c_need_size (He.ga K "TooGreat")) fun cdv A outer s H E B Ξ hr z => ⟨_, (dss_cons (ds_set (i := 1) hnd (de_abs1 T.n_abs (da_cons (de_call h_determinant_of hr z (List.Mem.head _) (da_cons (de_call h_divided hr z (List.Mem.head _) (da_cons (de_var (i := 0)) da_nil)) da_nil)) da_nil)))
    (dss_cons (ds_if (dt_gt (de_var (i := 1)) (de_gint T.k_MOST_SIZE)) (dss_one (ds_raise1 x_TooGreat hr z rfl (da_cons (de_gint T.k_MOST_SIZE) da_nil))) dss_nil)
    (dss_one (ds_ret (de_var (i := 1)))))), fun ds Ψ hl hc => ?_⟩
  obtain ⟨t, n, rfl, hs, h0, h1, hd, q1, q2⟩ := hc
  refine ⟨rfl, rfl, iL t, rfl, (show 4 ≤ 1000000 by decide), dok_gm hs hd h1, ?_⟩
  rw [dv_pr4]
  refine ⟨rfl, rfl, pr4 t, n, rfl, pr4_sm hd hs, h0, h1, ?_⟩
  try dsimp only [List.set, getS_z, getS_s, bin2, bin2T, ltD, leD, gtD, geD, cmp_i, add_i, sub_i, min2_i, max2_i]
  refine bl_c (fun e => ?_) (fun e => ?_)
  · exact ⟨_, .same, q2 (by have := of_decide_eq_true e; omega)⟩
  · refine ite_f rfl ?_
    have ea : (if det4 (pr4 t) < 0 then -det4 (pr4 t) else det4 (pr4 t)) = ((det4 (pr4 t)).natAbs : Int) := by split <;> omega
    have q1 := q1 (by have := of_decide_eq_false e; omega)
    rw [← ea] at q1
    exact ⟨_, _, .same, q1⟩
def c_Table_entries (C : Addr) : Ct := fun ds M Ψ _ => ∃ t, ds = [tab C t] ∧ Ψ (tD t) M
theorem ok_Table_entries {f : Addr} {fd : FuncData} {dvs : List V} {kws : List (Str × V)} (T : Txt K mg)  (F : FnZ K "entries" "Table.entries" s_Table_entries dvs kws f fd) : FnOk P w K mg base (L2.CX P w) 2 f fd ["self"] (spC K (["self"] : List Str).length (c_Table_entries (He.ga K "Table"))) := by
  have hnd := sc_Table_entries.nd
  refine fnD F sc_Table_entries (c_Table_entries (He.ga K "Table")) fun cdv A outer s H E B Ξ hr z => ⟨_, (dss_one (ds_ret (de_fld T.cl_Table T.na_Table_whole (de_var (i := 0))))), fun ds Ψ hl hc => ?_⟩
  obtain ⟨t, rfl, q⟩ := hc
  exact ⟨rfl, fld_hd ⟨_, _, .same, q⟩⟩
def c_least_times : Ct := fun ds M Ψ _ => ∃ a b c d : Int, ds = [.tup [.int a, .int b], .tup [.int c, .int d]] ∧ 0 ≤ c ∧ 0 ≤ d ∧ (0 < c ∨ 0 < d) ∧ c.natAbs.log2 < 9000 ∧ d.natAbs.log2 < 9000 ∧ Ψ (.int (ltm a b c d)) M
def posBt (d : D) : Bool := match d with
  | .tup [_, .int j] => decide (0 < j)
  | _ => false
def quoB (d : D) : D := match d with
  | .tup [.int i, .int j] => .int (i.fdiv j)
  | d => d
theorem least_pair {a b c d : Int} (h : 0 < c ∨ 0 < d) : ∃ (n : Int) (ns : List Int), ([D.tup [.int a, .int c], D.tup [.int b, .int d]].filter posBt).map quoB = (n :: ns).map D.int ∧ ns.foldl min n = ltm a b c d := by
  unfold ltm
  by_cases e1 : 0 < c
  · rw [if_pos e1, List.filter_cons, if_pos (show posBt (.tup [.int a, .int c]) = true from decide_eq_true e1)]
    by_cases e2 : 0 < d
    · rw [if_pos e2, List.filter_cons, if_pos (show posBt (.tup [.int b, .int d]) = true from decide_eq_true e2)]
      exact ⟨a.fdiv c, [b.fdiv d], rfl, rfl⟩
    · rw [if_neg e2, List.filter_cons, if_neg (by simpa [posBt] using e2)]
      exact ⟨a.fdiv c, [], rfl, rfl⟩
  · have e2 := h.resolve_left e1
    rw [if_neg e1, List.filter_cons, if_neg (by simpa [posBt] using e1), List.filter_cons, if_pos (show posBt (.tup [.int b, .int d]) = true from decide_eq_true e2)]
    exact ⟨b.fdiv d, [], rfl, rfl⟩
theorem ok_least_times {f : Addr} {fd : FuncData} {dvs : List V} {kws : List (Str × V)} (T : Txt K mg)  (F : FnZ K "least_times" "least_times" s_least_times dvs kws f fd) : FnOk P w K mg base (L2.CX P w) 2 f fd ["upper", "lower"] (spC K (["upper", "lower"] : List Str).length (c_least_times)) := by
  have hnd := sc_least_times.nd
  refine fnD F sc_least_times (c_least_times) fun cdv A outer s H E B Ξ hr z => ⟨_, (dss_one (ds_ret (de_minA rfl hr T.n_min (da_cons (de_lc rfl hnd (di_zip T.n_zip (da_cons (de_var (i := 0)) (da_cons (de_var (i := 1)) da_nil))) (blkOk_by (own := [("one", 2), ("other", 3)]) (by rfl)) (tg_tup2 (by decide) (by decide)) (fun _ _ _ _ _ => (pg_tup rfl (pgs_cons (pg_name (i := 2) hnd rfl (by first | exact Or.inl rfl | exact Or.inr rfl) (by first | exact .inl rfl | exact .inr rfl)) (pgs_cons (pg_name (i := 3) hnd rfl (by first | exact Or.inl rfl | exact Or.inr rfl) (by first | exact .inl rfl | exact .inr rfl)) pgs_nil)))) (fun _ _ _ _ _ _ => (dts_one (dt_gt (de_var (i := 3)) de_int))) (fun _ _ _ _ _ _ => (de_fdiv (de_var (i := 2)) (de_var (i := 3))))) da_nil)))), fun ds Ψ hl hc => ?_⟩
  obtain ⟨a, b, c, d, rfl, hc, hd, hp, lc, ld, q⟩ := hc
  refine compD_fm (xs := [.tup [.int a, .int c], .tup [.int b, .int d]]) (S := fun _ => True) (fun K h => h) posBt quoB trivial (ln (n := 2) rfl (by decide)) (fun x hx Q R h => ?_) ?_
  · simp only [List.mem_cons, List.not_mem_nil, or_false] at hx
    rcases hx with rfl | rfl
    · refine bl_c (fun e => ?_) (fun e => ?_)
      · rw [if_pos (show posBt (.tup [.int a, .int c]) = true from e)] at h
        exact ⟨dok_lg (by have := of_decide_eq_true e; omega) lc, h⟩
      · rw [if_neg (by rw [show posBt (.tup [.int a, .int c]) = false from e]; simp)] at h
        exact h
    · refine bl_c (fun e => ?_) (fun e => ?_)
      · rw [if_pos (show posBt (.tup [.int b, .int d]) = true from e)] at h
        exact ⟨dok_lg (by have := of_decide_eq_true e; omega) ld, h⟩
      · rw [if_neg (by rw [show posBt (.tup [.int b, .int d]) = false from e]; simp)] at h
        exact h
  · obtain ⟨n, ns, e1, e2⟩ := least_pair (a := a) (b := b) hp
    rw [e1]
    refine ⟨n, ns, .inl rfl, _, _, .same, ?_⟩
    rw [e2]
    exact q
def c_runs_taken : Ct := fun ds M Ψ _ => ∃ t n, ds = [tD t] ∧ Nn t ∧ 0 < det4 t ∧ sum4 t < 2 ^ n ∧ n ≤ 2000 ∧ ∀ (l : List Rn) u, Tk t (wR l) u → l.length ≤ 4000 → Ψ (.tup [.lst (l.map rnD), tP u]) M
def flagN (r : En) (i : Nat) : Nat := match r[i]? with
  | some (some (.bl true)) => 1
  | _ => 0
theorem ok_runs_taken {f : Addr} {fd : FuncData} {dvs : List V} {kws : List (Str × V)} (T : Txt K mg) (h_least_times : Gf P w K mg base "least_times" 2 (c_least_times) b_least_times) (F : FnZ K "runs_taken" "runs_taken" s_runs_taken dvs kws f fd) : FnOk P w K mg base (L2.CX P w) 3 f fd ["entries"] (spC K (["entries"] : List Str).length (c_runs_taken)) := by
  have hnd := sc_runs_taken.nd
  refine fnD F sc_runs_taken (c_runs_taken) fun cdv A outer s H E B Ξ hr z => ⟨_, (dss_cons (ds_asg (de_var (i := 0)) (dg_tup (n := 4) rfl (dgs_cons (dg_name (i := 1) hnd) (dgs_cons (dg_name (i := 2) hnd) (dgs_cons (dg_name (i := 3) hnd) (dgs_cons (dg_name (i := 4) hnd) dgs_nil))))))
    (dss_cons (ds_set (i := 5) hnd (de_lstM da_nil))
    (dss_cons (ds_set (i := 6) hnd de_bl)
    (dss_cons (ds_while z.po (dt_val (de_var (i := 6))) (dss_cons (ds_set (i := 6) hnd de_bl)
    (dss_one (ds_if (dw_and (dt_ge (de_var (i := 1)) (de_var (i := 3))) (dw_and1 (dt_ge (de_var (i := 2)) (de_var (i := 4))))).pt (dss_cons (ds_set (i := 7) hnd (de_call h_least_times hr z (List.Mem.head _) (da_cons (de_tup (da_cons (de_var (i := 1)) (da_cons (de_var (i := 2)) da_nil))) (da_cons (de_tup (da_cons (de_var (i := 3)) (da_cons (de_var (i := 4)) da_nil))) da_nil))))
    (dss_cons (ds_par (i := 1) (j := 2) rfl hnd (da_cons (de_sub (de_var (i := 1)) (de_mul (de_var (i := 7)) (de_var (i := 3)))) (da_cons (de_sub (de_var (i := 2)) (de_mul (de_var (i := 7)) (de_var (i := 4)))) da_nil)))
    (dss_cons (ds_expr (de_append (de_var (i := 5)) (da_cons (de_tup (da_cons de_str (da_cons (de_var (i := 7)) da_nil))) da_nil)))
    (dss_one (ds_set (i := 6) hnd de_bl))))) (dss_one (ds_if (dw_and (dt_ge (de_var (i := 3)) (de_var (i := 1))) (dw_and1 (dt_ge (de_var (i := 4)) (de_var (i := 2))))).pt (dss_cons (ds_set (i := 7) hnd (de_call h_least_times hr z (List.Mem.head _) (da_cons (de_tup (da_cons (de_var (i := 3)) (da_cons (de_var (i := 4)) da_nil))) (da_cons (de_tup (da_cons (de_var (i := 1)) (da_cons (de_var (i := 2)) da_nil))) da_nil))))
    (dss_cons (ds_par (i := 3) (j := 4) rfl hnd (da_cons (de_sub (de_var (i := 3)) (de_mul (de_var (i := 7)) (de_var (i := 1)))) (da_cons (de_sub (de_var (i := 4)) (de_mul (de_var (i := 7)) (de_var (i := 2)))) da_nil)))
    (dss_cons (ds_expr (de_append (de_var (i := 5)) (da_cons (de_tup (da_cons de_str (da_cons (de_var (i := 7)) da_nil))) da_nil)))
    (dss_one (ds_set (i := 6) hnd de_bl))))) dss_nil))))))
    (dss_one (ds_ret (de_tup (da_cons (de_var (i := 5)) (da_cons (de_tpl (da_cons (de_var (i := 1)) (da_cons (de_var (i := 2)) (da_cons (de_var (i := 3)) (da_cons (de_var (i := 4)) da_nil))))) da_nil))))))))), fun ds Ψ hl hc => ?_⟩
  obtain ⟨t, n, rfl, hn, hd, hs, hnn, q⟩ := hc
  refine ⟨rfl, rfl, ln (n := 0) rfl (by decide), fun p hp => ?_⟩
  dsimp only [List.set]
  refine ⟨fun r M' => ∃ (t' : T4) (l : List Rn) (f : Bool) (o : Option D), M' = updM B.M p (.lst (l.map rnD)) ∧ r = [some (tD t), some (.int t'.1), some (.int t'.2.1), some (.int t'.2.2.1), some (.int t'.2.2.2), some (.ref p), some (.bl f), o] ∧ mul4 (wL (wR l)) t' = t ∧ LR (wR l) ∧ Nn t' ∧ (sum4 t' ≤ sum4 t ∧ Few l t') ∧ (f = false → Bal t'),
    fun r _ => 2 * (slotN r 1 + slotN r 2 + slotN r 3 + slotN r 4) + flagN r 6, .of ⟨t, [], true, none, rfl, rfl, one_mul4 t, (fun c h => nomatch h), hn, ⟨Nat.le_refl _, Few.nil t⟩, by simp⟩, fun r M' h => ?_⟩
  obtain ⟨t', l, f, o, rfl, rfl, hp', hlr, hn', ⟨hl, few⟩, hf⟩ := h
  have hd' : 0 < det4 t' := by rw [path_det hp']; exact hd
  have hs' : sum4 t' < 2 ^ n := by omega
  have hs20 := sm_bits hs'
  have hll : l.length < 4000 := Nat.lt_of_lt_of_le (few.len hp' hn' hd' hn hs) (by omega)
  have eM : updM B.M p (Cell.lst (l.map rnD)) p = some (.lst (l.map rnD)) := updM_same
  try dsimp only [List.set, getS_z, getS_s, bin2, bin2T, ltD, leD, gtD, geD, cmp_i, add_i, sub_i, min2_i, max2_i]
  refine bl_c (fun ef => ?_) (fun ef => ?_)
  rotate_left
  · refine ite_f rfl ?_
    try dsimp only [List.set, getS_z, getS_s, bin2, bin2T, ltD, leD, gtD, geD, cmp_i, add_i, sub_i, min2_i, max2_i]
    refine ⟨ln (n := 4) rfl (by decide), ln (n := 2) rfl (by decide), ?_⟩
    refine ⟨_, _, .frz 1, ?_⟩
    have e1 : rs B.M (updM B.M p (.lst (l.map rnD))) = B.M := rs_upd hp
    have e2 : fz B.M (updM B.M p (.lst (l.map rnD))) 1 (.tup [.ref p, tP t']) = .tup [.lst (l.map rnD), tP t'] := by
      show D.tup [fzA B.M (updM B.M p (.lst (l.map rnD))) 1 p, _] = _
      have : fzA B.M (updM B.M p (.lst (l.map rnD))) 1 p = .lst (l.map rnD) := by
        unfold fzA
        rw [hp, updM_same]
        show D.lst (sbL _ _) = _
        rw [sb_rn]
      rw [this]; rfl
    have q' := q l t' ⟨hlr, hp', hn', hf ef⟩ (by omega)
    rw [e1]
    show Ψ (fz B.M (updM B.M p (.lst (l.map rnD))) 1 (.tup [.ref p, tP t'])) B.M
    rw [e2]
    exact q'
  refine ite_t rfl ?_
  try dsimp only [List.set, getS_z, getS_s, bin2, bin2T, ltD, leD, gtD, geD, cmp_i, add_i, sub_i, min2_i, max2_i]
  refine and2 ?_
  cases hb : bR t' with
  | true =>
    obtain ⟨z1, z2⟩ := bR_of hb
    refine ite_t (show (decide (t'.2.2.1 ≤ t'.1) && decide (t'.2.2.2 ≤ t'.2.1)) = true from hb) ?_
    obtain ⟨k, hk, k1, hn2, hs2⟩ := stepR_ok hn' hd' hb
    refine ⟨ln (n := 2) rfl (by decide), ln (n := 2) rfl (by decide), rfl, rfl, t'.1, t'.2.1, t'.2.2.1, t'.2.2.2, rfl, hn'.2.2.1, hn'.2.2.2, (low_pos hn' hd').1, lg hs20.2.2.1 (by omega), lg hs20.2.2.2 (by omega), ?_⟩
    rw [hk]
    have hkb : Ib n (k : Int) := by show (k : Int).natAbs < 2 ^ n; omega
    try dsimp only [List.set, getS_z, getS_s, bin2, bin2T, ltD, leD, gtD, geD, cmp_i, add_i, sub_i, min2_i, max2_i]
    refine ⟨Ib.mok (m := n) hkb hs20.2.2.1 (by omega) (by omega), Ib.mok (m := n) hkb hs20.2.2.2 (by omega) (by omega), ?_⟩
    try dsimp only [List.set, getS_z, getS_s, bin2, bin2T, ltD, leD, gtD, geD, cmp_i, add_i, sub_i, min2_i, max2_i]
    refine ⟨⟨l.map rnD, by simp only [lstOf, eM]⟩, ln (n := 2) rfl (by decide), append_of eM (Nat.lt_of_le_of_lt (show (l.map rnD).length ≤ 999999 by rw [List.length_map]; omega) (Nat.lt_of_lt_of_le (by decide) big_ok)) ?_⟩
    try dsimp only [List.set, getS_z, getS_s, bin2, bin2T, ltD, leD, gtD, geD, cmp_i, add_i, sub_i, min2_i, max2_i]
    refine .of ⟨⟨subR k t', l ++ [(82, k)], true, _, ?_, rfl, by rw [wR_snoc]; exact path_R k hp', by rw [wR_snoc]; exact hlr.rep (.inr rfl), hn2, ⟨by omega, few.R hb k1 (not_bR hn' hd' hk)⟩, by simp⟩, ?_⟩
    · rw [updM_updM, List.map_append]
      have : (("R" : Str)) = ⟨#[82]⟩ := by decide +kernel
      rw [this]; rfl
    · show 2 * ((subR k t').1.natAbs + (subR k t').2.1.natAbs + (subR k t').2.2.1.natAbs + (subR k t').2.2.2.natAbs) + 1 < 2 * (t'.1.natAbs + t'.2.1.natAbs + t'.2.2.1.natAbs + t'.2.2.2.natAbs) + _
      unfold sum4 at hs2
      omega
  | false =>
    refine ite_f (show (decide (t'.2.2.1 ≤ t'.1) && decide (t'.2.2.2 ≤ t'.2.1)) = false from hb) ?_
    try dsimp only [List.set, getS_z, getS_s, bin2, bin2T, ltD, leD, gtD, geD, cmp_i, add_i, sub_i, min2_i, max2_i]
    refine and2 ?_
    cases hb2 : bL t' with
    | true =>
      obtain ⟨z1, z2⟩ := bL_of hb2
      refine ite_t (show (decide (t'.1 ≤ t'.2.2.1) && decide (t'.2.1 ≤ t'.2.2.2)) = true from hb2) ?_
      obtain ⟨k, hk, k1, hn2, hs2⟩ := stepL_ok hn' hd' hb2
      refine ⟨ln (n := 2) rfl (by decide), ln (n := 2) rfl (by decide), rfl, rfl, t'.2.2.1, t'.2.2.2, t'.1, t'.2.1, rfl, hn'.1, hn'.2.1, (low_pos hn' hd').2, lg hs20.1 (by omega), lg hs20.2.1 (by omega), ?_⟩
      rw [hk]
      have hkb : Ib n (k : Int) := by show (k : Int).natAbs < 2 ^ n; omega
      try dsimp only [List.set, getS_z, getS_s, bin2, bin2T, ltD, leD, gtD, geD, cmp_i, add_i, sub_i, min2_i, max2_i]
      refine ⟨Ib.mok (m := n) hkb hs20.1 (by omega) (by omega), Ib.mok (m := n) hkb hs20.2.1 (by omega) (by omega), ?_⟩
      try dsimp only [List.set, getS_z, getS_s, bin2, bin2T, ltD, leD, gtD, geD, cmp_i, add_i, sub_i, min2_i, max2_i]
      refine ⟨⟨l.map rnD, by simp only [lstOf, eM]⟩, ln (n := 2) rfl (by decide), append_of eM (Nat.lt_of_le_of_lt (show (l.map rnD).length ≤ 999999 by rw [List.length_map]; omega) (Nat.lt_of_lt_of_le (by decide) big_ok)) ?_⟩
      try dsimp only [List.set, getS_z, getS_s, bin2, bin2T, ltD, leD, gtD, geD, cmp_i, add_i, sub_i, min2_i, max2_i]
      refine .of ⟨⟨subL k t', l ++ [(76, k)], true, _, ?_, rfl, by rw [wR_snoc]; exact path_L k hp', by rw [wR_snoc]; exact hlr.rep (.inl rfl), hn2, ⟨by omega, few.L hb2 k1 (not_bL hn' hd' hk)⟩, by simp⟩, ?_⟩
      · rw [updM_updM, List.map_append]
        have : (("L" : Str)) = ⟨#[76]⟩ := by decide +kernel
        rw [this]; rfl
      · show 2 * ((subL k t').1.natAbs + (subL k t').2.1.natAbs + (subL k t').2.2.1.natAbs + (subL k t').2.2.2.natAbs) + 1 < 2 * (t'.1.natAbs + t'.2.1.natAbs + t'.2.2.1.natAbs + t'.2.2.2.natAbs) + _
        unfold sum4 at hs2
        omega
    | false =>
      refine ite_f (show (decide (t'.1 ≤ t'.2.2.1) && decide (t'.2.1 ≤ t'.2.2.2)) = false from hb2) ?_
      try dsimp only [List.set, getS_z, getS_s, bin2, bin2T, ltD, leD, gtD, geD, cmp_i, add_i, sub_i, min2_i, max2_i]
      refine .of ⟨⟨t', l, false, o, rfl, rfl, hp', hlr, hn', ⟨hl, few⟩, fun _ => ⟨hb, hb2⟩⟩, ?_⟩
      have ef : f = true := ef
      subst ef
      exact Nat.lt_succ_self _
def c_word_taken (CT : Addr) : Ct := fun ds M Ψ Ξ => ∃ t n x, ds = [tD t, x] ∧ Nn t ∧ 0 < det4 t ∧ sum4 t < 2 ^ n ∧ n ≤ 2000 ∧ ((x = .non ∧ sum4 t ≤ 8000 ∧ ∀ w u, Tk t w u → Ψ (.tup [.str ⟨w.toArray⟩, tP u]) M) ∨ ∃ m, x = .int m ∧ 0 ≤ m ∧ m ≤ 8000 ∧ ∀ w u, Tk t w u → ((w.length : Int) ≤ m → Ψ (.tup [.str ⟨w.toArray⟩, tP u]) M) ∧ (m < w.length → Ξ (CT, [("most", .int m), ("tag", .str "TooLong")]) M))
def cntB (d : D) : D := match d with
  | .tup [_, .int k] => .int k
  | d => d
def repB (d : D) : D := match d with
  | .tup [.str s, .int k] => .str (Txt.mul s k)
  | d => d
theorem cnt_map (l : List Rn) : (l.map rnD).map cntB = (l.map fun p => (p.2 : Int)).map D.int := by rw [List.map_map, List.map_map]; rfl
theorem rep_map (l : List Rn) : (l.map rnD).map repB = (l.map fun p => (⟨(List.replicate p.2 p.1).toArray⟩ : Str)).map D.str := by
  rw [List.map_map, List.map_map]
  exact List.map_congr_left fun p _ => congrArg D.str (mul_one_sign p.1 p.2)
theorem ok_word_taken {f : Addr} {fd : FuncData} {dvs : List V} {kws : List (Str × V)} (T : Txt K mg) (h_runs_taken : Gf P w K mg base "runs_taken" 3 (c_runs_taken) b_runs_taken) (x_TooLong : Xf P w K mg base "TooLong" (He.ga K "TooLong") 1 (tag2 "TooLong" "most")) (F : FnZ K "word_taken" "word_taken" s_word_taken dvs kws f fd) : FnOk P w K mg base (L2.CX P w) 4 f fd ["entries", "most"] (spC K (["entries", "most"] : List Str).length (c_word_taken (He.ga K "TooLong"))) := by
  have hnd := sc_word_taken.nd
  refine fnD F sc_word_taken (c_word_taken (He.ga K "TooLong")) fun cdv A outer s H E B Ξ hr z => ⟨_, (dss_cons (ds_asg (de_call h_runs_taken hr z (List.Mem.head _) (da_cons (de_var (i := 0)) da_nil)) (dg_tup (n := 2) rfl (dgs_cons (dg_name (i := 2) hnd) (dgs_cons (dg_name (i := 3) hnd) dgs_nil))))
    (dss_cons (ds_if (dw_and (dt_isnt (de_var (i := 1)) de_non) (dw_and1 (dt_gt (de_sum1 rfl T.n_sum (da_cons (de_lc rfl hnd (di_list (de_var (i := 2))) (blkOk_by (own := [("turn", 4), ("count", 5)]) (by rfl)) (tg_tup2 (by decide) (by decide)) (fun _ _ _ _ _ => (pg_tup rfl (pgs_cons (pg_name (i := 4) hnd rfl (by first | exact Or.inl rfl | exact Or.inr rfl) (by first | exact .inl rfl | exact .inr rfl)) (pgs_cons (pg_name (i := 5) hnd rfl (by first | exact Or.inl rfl | exact Or.inr rfl) (by first | exact .inl rfl | exact .inr rfl)) pgs_nil)))) (fun _ _ _ _ _ _ => dts_nil) (fun _ _ _ _ _ _ => (de_var (i := 5)))) da_nil)) (de_var (i := 1))))).pt (dss_one (ds_raise1 x_TooLong hr z rfl (da_cons (de_var (i := 1)) da_nil))) dss_nil)
    (dss_one (ds_ret (de_tup (da_cons (de_join de_str (de_lc rfl hnd (di_list (de_var (i := 2))) (blkOk_by (own := [("turn", 4), ("count", 5)]) (by rfl)) (tg_tup2 (by decide) (by decide)) (fun _ _ _ _ _ => (pg_tup rfl (pgs_cons (pg_name (i := 4) hnd rfl (by first | exact Or.inl rfl | exact Or.inr rfl) (by first | exact .inl rfl | exact .inr rfl)) (pgs_cons (pg_name (i := 5) hnd rfl (by first | exact Or.inl rfl | exact Or.inr rfl) (by first | exact .inl rfl | exact .inr rfl)) pgs_nil)))) (fun _ _ _ _ _ _ => dts_nil) (fun _ _ _ _ _ _ => (de_mulS (de_var (i := 4)) (de_min2 rfl T.n_min (da_cons (de_var (i := 5)) (da_cons (de_add (de_mul de_int (de_gint T.k_MOST_TURNS)) de_int) da_nil))))))) (da_cons (de_var (i := 3)) da_nil))))))), fun ds Ψ hl hc => ?_⟩
  obtain ⟨t, n, x, rfl, hn, hd, hs, hnn, q⟩ := hc
  refine ⟨rfl, rfl, t, n, rfl, hn, hd, hs, hnn, fun l u tk hl => ?_⟩
  refine ⟨rfl, rfl, ?_⟩
  try dsimp only [List.set, getS_z, getS_s, bin2, bin2T, ltD, leD, gtD, geD, cmp_i, add_i, sub_i, min2_i, max2_i]
  have hle : (l.map rnD).length ≤ sizeLine := ln (n := l.length) (List.length_map _) (by omega)
  rcases q with ⟨rfl, h8, q⟩ | ⟨m, rfl, m0, m1, q⟩
  · have hlen : (wR l).length ≤ 8000 := by
      have := len_sum tk.lr tk.nn hd tk.eq
      omega
    refine bl_f rfl ?_
    refine ite_f rfl ?_
    refine ite_f rfl ?_
    try dsimp only [List.set, getS_z, getS_s, bin2, bin2T, ltD, leD, gtD, geD, cmp_i, add_i, sub_i, min2_i, max2_i]
    refine ⟨trivial, ?_⟩
    refine compD_map (xs := l.map rnD) (fun K h => ⟨_, rfl, h⟩) repB rfl hle (fun d hd Q h => ?_) ?_
    · obtain ⟨p, hp, rfl⟩ := List.mem_map.mp hd
      have hk := rn_le hp
      refine ⟨IntMulOk.of_left (by decide), ?_⟩
      try dsimp only [List.set, getS_z, getS_s, bin2, bin2T, ltD, leD, gtD, geD, cmp_i, add_i, sub_i, min2_i, max2_i]
      rw [show (if (2 * 4000 + 1 : Int) < (p.2 : Int) then (2 * 4000 + 1 : Int) else (p.2 : Int)) = (p.2 : Int) from if_neg (by omega)]
      exact ⟨mulok_one (by omega), h⟩
    rw [rep_map]
    refine ⟨_, l.map fun p => (⟨(List.replicate p.2 p.1).toArray⟩ : Str), .inl rfl, strsD_map _, ?_, ?_⟩
    · rw [rn_sum, List.length_map]
      show _ + _ * 0 ≤ _
      omega
    refine ⟨ln (n := 2) rfl (by decide), _, _, .same, ?_⟩
    show Ψ (.tup [.str (Txt.join Str.empty _), tP u]) B.M
    rw [join_rn]
    exact q _ _ tk
  obtain ⟨q1, q2⟩ := q (wR l) u tk
  refine bl_t rfl ?_
  refine ite_t rfl ?_
  try dsimp only [List.set, getS_z, getS_s, bin2, bin2T, ltD, leD, gtD, geD, cmp_i, add_i, sub_i, min2_i, max2_i]
  refine compD_map (xs := l.map rnD) (fun K h => ⟨_, rfl, h⟩) cntB rfl hle (fun d hd Q h => ?_) ?_
  · obtain ⟨p, _, rfl⟩ := List.mem_map.mp hd
    exact h
  rw [cnt_map]
  refine ⟨l.map fun p => (p.2 : Int), rfl, ?_⟩
  rw [sum_rn]
  try dsimp only [List.set, getS_z, getS_s, bin2, bin2T, ltD, leD, gtD, geD, cmp_i, add_i, sub_i, min2_i, max2_i]
  refine bl_c (fun e => ?_) (fun e => ?_)
  · exact ⟨_, .same, q2 (of_decide_eq_true e)⟩
  have hlen : ((wR l).length : Int) ≤ m := by have := of_decide_eq_false e; omega
  refine ite_f rfl ?_
  try dsimp only [List.set, getS_z, getS_s, bin2, bin2T, ltD, leD, gtD, geD, cmp_i, add_i, sub_i, min2_i, max2_i]
  refine ⟨trivial, ?_⟩
  refine compD_map (xs := l.map rnD) (fun K h => ⟨_, rfl, h⟩) repB rfl hle (fun d hd Q h => ?_) ?_
  · obtain ⟨p, hp, rfl⟩ := List.mem_map.mp hd
    have hk := rn_le hp
    refine ⟨IntMulOk.of_left (by decide), ?_⟩
    try dsimp only [List.set, getS_z, getS_s, bin2, bin2T, ltD, leD, gtD, geD, cmp_i, add_i, sub_i, min2_i, max2_i]
    rw [show (if (2 * 4000 + 1 : Int) < (p.2 : Int) then (2 * 4000 + 1 : Int) else (p.2 : Int)) = (p.2 : Int) from if_neg (by omega)]
    exact ⟨mulok_one (by omega), h⟩
  rw [rep_map]
  refine ⟨_, l.map fun p => (⟨(List.replicate p.2 p.1).toArray⟩ : Str), .inl rfl, strsD_map _, ?_, ?_⟩
  · rw [rn_sum, List.length_map]
    show _ + _ * 0 ≤ _
    omega
  refine ⟨ln (n := 2) rfl (by decide), _, _, .same, ?_⟩
  show Ψ (.tup [.str (Txt.join Str.empty _), tP u]) B.M
  rw [join_rn]
  exact q1 hlen
def c_columns_exchanged : Ct := fun ds M Ψ _ => ∃ t, ds = [tD t] ∧ Ψ (tD (swC t)) M
theorem ok_columns_exchanged {f : Addr} {fd : FuncData} {dvs : List V} {kws : List (Str × V)} (T : Txt K mg)  (F : FnZ K "columns_exchanged" "columns_exchanged" s_columns_exchanged dvs kws f fd) : FnOk P w K mg base (L2.CX P w) 2 f fd ["entries"] (spC K (["entries"] : List Str).length (c_columns_exchanged)) := by
  have hnd := sc_columns_exchanged.nd
  refine fnD F sc_columns_exchanged (c_columns_exchanged) fun cdv A outer s H E B Ξ hr z => ⟨_, (dss_cons (ds_asg (de_var (i := 0)) (dg_tup (n := 4) rfl (dgs_cons (dg_name (i := 1) hnd) (dgs_cons (dg_name (i := 2) hnd) (dgs_cons (dg_name (i := 3) hnd) (dgs_cons (dg_name (i := 4) hnd) dgs_nil))))))
    (dss_one (ds_ret (de_tup (da_cons (de_var (i := 2)) (da_cons (de_var (i := 1)) (da_cons (de_var (i := 4)) (da_cons (de_var (i := 3)) da_nil)))))))), fun ds Ψ hl hc => ?_⟩
  obtain ⟨t, rfl, q⟩ := hc
  exact ⟨rfl, rfl, ln (n := 4) rfl (by decide), _, _, .same, q⟩
def c_other_turn : Ct := fun ds M Ψ _ => ∃ c : Nat, ds = [.str ⟨#[c]⟩] ∧ Ψ (.str ⟨#[oc c]⟩) M
theorem ok_other_turn {f : Addr} {fd : FuncData} {dvs : List V} {kws : List (Str × V)} (T : Txt K mg)  (F : FnZ K "other_turn" "other_turn" s_other_turn dvs kws f fd) : FnOk P w K mg base (L2.CX P w) 2 f fd ["turn"] (spC K (["turn"] : List Str).length (c_other_turn)) := by
  have hnd := sc_other_turn.nd
  refine fnD F sc_other_turn (c_other_turn) fun cdv A outer s H E B Ξ hr z => ⟨_, (dss_one (ds_ret (de_if (dt_eq hr (de_var (i := 0)) de_str) de_str de_str))), fun ds Ψ hl hc => ?_⟩
  obtain ⟨c, rfl, q⟩ := hc
  unfold oc at q
  refine eqS ?_
  refine bl_c (fun e => ?_) (fun e => ?_)
  · have e : c = 76 := ch_eq.mp (of_decide_eq_true e)
    rw [if_pos e] at q
    exact ⟨_, _, .same, q⟩
  · have e : ¬ c = 76 := fun z => of_decide_eq_false e (ch_eq.mpr z)
    rw [if_neg e] at q
    exact ⟨_, _, .same, q⟩
def c_product : Ct := fun ds M Ψ _ => ∃ s t n m, ds = [tD s, tD t] ∧ Sm n s ∧ Sm m t ∧ 0 < n ∧ 0 < m ∧ n + m ≤ 1000000 ∧ Ψ (tD (mul4 s t)) M
theorem ok_product {f : Addr} {fd : FuncData} {dvs : List V} {kws : List (Str × V)} (T : Txt K mg)  (F : FnZ K "product" "product" s_product dvs kws f fd) : FnOk P w K mg base (L2.CX P w) 2 f fd ["one", "other"] (spC K (["one", "other"] : List Str).length (c_product)) := by
  have hnd := sc_product.nd
  refine fnD F sc_product (c_product) fun cdv A outer s H E B Ξ hr z => ⟨_, (dss_cons (ds_asg (de_var (i := 0)) (dg_tup (n := 4) rfl (dgs_cons (dg_name (i := 2) hnd) (dgs_cons (dg_name (i := 3) hnd) (dgs_cons (dg_name (i := 4) hnd) (dgs_cons (dg_name (i := 5) hnd) dgs_nil))))))
    (dss_cons (ds_asg (de_var (i := 1)) (dg_tup (n := 4) rfl (dgs_cons (dg_name (i := 6) hnd) (dgs_cons (dg_name (i := 7) hnd) (dgs_cons (dg_name (i := 8) hnd) (dgs_cons (dg_name (i := 9) hnd) dgs_nil))))))
    (dss_one (ds_ret (de_tup (da_cons (de_add (de_mul (de_var (i := 2)) (de_var (i := 6))) (de_mul (de_var (i := 3)) (de_var (i := 8)))) (da_cons (de_add (de_mul (de_var (i := 2)) (de_var (i := 7))) (de_mul (de_var (i := 3)) (de_var (i := 9)))) (da_cons (de_add (de_mul (de_var (i := 4)) (de_var (i := 6))) (de_mul (de_var (i := 5)) (de_var (i := 8)))) (da_cons (de_add (de_mul (de_var (i := 4)) (de_var (i := 7))) (de_mul (de_var (i := 5)) (de_var (i := 9)))) da_nil))))))))), fun ds Ψ hl hc => ?_⟩
  obtain ⟨s, t, n, m, rfl, hs, ht, h0, h1, hz, q⟩ := hc
  have k : ∀ {i j : Int}, i.natAbs < 2 ^ n → j.natAbs < 2 ^ m → IntMulOk i j := fun a b => mok_of a b h0 h1 hz
  exact ⟨rfl, rfl, rfl, rfl, k hs.1 ht.1, k hs.2.1 ht.2.2.1, k hs.1 ht.2.1, k hs.2.1 ht.2.2.2, k hs.2.2.1 ht.1, k hs.2.2.2 ht.2.2.1, k hs.2.2.1 ht.2.1, k hs.2.2.2 ht.2.2.2, ln (n := 4) rfl (by decide), _, _, .same, q⟩
def c_machine_of (CT : Addr) : Ct := fun ds M Ψ Ξ => ∃ t n m, ds = [tD t, m] ∧ Nn t ∧ det4 t ≠ 0 ∧ Sm n t ∧ 0 < n ∧ n ≤ 1900 ∧ (det4 (pr4 t)).natAbs ≤ 60 ∧ (m = .non ∧ sum4 t ≤ 8000 ∨ m = .int 4000) ∧
  (∀ w u l, Tk (mpl t) w u → Bf (mtu t) [u] 0 l → (m = .int 4000 → w.length ≤ 4000) → Ψ (mcD (mtu t) w l) M) ∧
  ∀ w u, Tk (mpl t) w u → m = .int 4000 → 4000 < w.length → Ξ (CT, [("most", .int 4000), ("tag", .str "TooLong")]) M
theorem ok_machine_of {f : Addr} {fd : FuncData} {dvs : List V} {kws : List (Str × V)} (T : Txt K mg) (h_divided : Gf P w K mg base "divided" 3 (c_divided) b_divided) (h_determinant_of : Gf P w K mg base "determinant_of" 2 (c_determinant_of) b_determinant_of) (h_word_taken : Gf P w K mg base "word_taken" 4 (c_word_taken (He.ga K "TooLong")) b_word_taken) (h_columns_exchanged : Gf P w K mg base "columns_exchanged" 2 (c_columns_exchanged) b_columns_exchanged) (h_other_turn : Gf P w K mg base "other_turn" 2 (c_other_turn) b_other_turn) (h_product : Gf P w K mg base "product" 2 (c_product) b_product) (F : FnZ K "machine_of" "machine_of" s_machine_of dvs kws f fd) : FnOk P w K mg base (L2.CX P w) 5 f fd ["entries", "most"] (spC K (["entries", "most"] : List Str).length (c_machine_of (He.ga K "TooLong"))) := by
  have hnd := sc_machine_of.nd
  refine fnD F sc_machine_of (c_machine_of (He.ga K "TooLong")) fun cdv A outer s H E B Ξ hr z => ⟨_, (dss_cons (ds_set (i := 2) hnd (de_call h_divided hr z (List.Mem.head _) (da_cons (de_var (i := 0)) da_nil)))
    (dss_cons (ds_set (i := 3) hnd (de_lt (de_call h_determinant_of hr z (List.Mem.head _) (da_cons (de_var (i := 2)) da_nil)) de_int))
    (dss_cons (ds_asg (de_call h_word_taken hr z (List.Mem.head _) (da_cons (de_ifV (dt_val (de_var (i := 3))) (de_call h_columns_exchanged hr z (List.Mem.head _) (da_cons (de_var (i := 2)) da_nil)) (de_var (i := 2))) (da_cons (de_var (i := 1)) da_nil))) (dg_tup (n := 2) rfl (dgs_cons (dg_name (i := 4) hnd) (dgs_cons (dg_name (i := 5) hnd) dgs_nil))))
    (dss_cons (ds_asg (de_tup (da_cons (de_lstM (da_cons (de_var (i := 5)) da_nil)) (da_cons (de_disp1 hr (de_var (i := 5)) de_int) (da_cons (de_lstM da_nil) (da_cons de_int da_nil))))) (dg_tup (n := 4) rfl (dgs_cons (dg_name (i := 6) hnd) (dgs_cons (dg_name (i := 7) hnd) (dgs_cons (dg_name (i := 8) hnd) (dgs_cons (dg_name (i := 9) hnd) dgs_nil))))))
    (dss_cons (ds_while z.po (dt_lt (de_var (i := 9)) (de_len T.n_len (da_cons (de_var (i := 6)) da_nil))) (dss_cons (ds_set (i := 10) hnd de_dnewK)
    (dss_cons (ds_for z.po rfl (di_str de_str) (dg_name (i := 11) hnd) (dss_cons (ds_set (i := 12) hnd (de_ifV (dt_val (de_var (i := 3))) (de_call h_other_turn hr z (List.Mem.head _) (da_cons (de_var (i := 11)) da_nil)) (de_var (i := 11))))
    (dss_cons (ds_asg (de_call h_word_taken hr z (List.Mem.head _) (da_cons (de_call h_product hr z (List.Mem.head _) (da_cons (de_wk (de_ix (de_var (i := 6)) (de_var (i := 9)))) (da_cons (de_ifV (dt_eq hr (de_var (i := 12)) de_str) (de_gtup T.k_RIGHT) (de_gtup T.k_LEFT)) da_nil))) (da_cons de_non da_nil))) (dg_tup (n := 2) rfl (dgs_cons (dg_name (i := 13) hnd) (dgs_cons (dg_name (i := 14) hnd) dgs_nil))))
    (dss_cons (ds_if (dt_dnin hr (de_var (i := 14)) (de_var (i := 7))) (dss_cons (ds_dput hr (de_len T.n_len (da_cons (de_var (i := 6)) da_nil)) (de_var (i := 7)) (de_var (i := 14)))
    (dss_one (ds_expr (de_append (de_var (i := 6)) (da_cons (de_var (i := 14)) da_nil))))) dss_nil)
    (dss_one (ds_dput hr (de_tup (da_cons (de_var (i := 13)) (da_cons (de_dget hr (de_var (i := 7)) (de_var (i := 14))) da_nil))) (de_var (i := 10)) (de_var (i := 11))))))))
    (dss_cons (ds_expr (de_append (de_var (i := 8)) (da_cons (de_var (i := 10)) da_nil)))
    (dss_one (ds_iadd (i := 9) hnd de_int))))))
    (dss_one (ds_ret (de_tup (da_cons (de_var (i := 3)) (da_cons (de_var (i := 4)) (da_cons (de_var (i := 6)) (da_cons (de_var (i := 8)) da_nil)))))))))))), fun ds Ψ hl hc => ?_⟩
  obtain ⟨t, n, m, rfl, hn, hd, hs, h0, h1, h60, hm, q1, q2⟩ := hc
  obtain ⟨m1, m2, m3, m4⟩ := mpl_ok hn hd
  rw [show ent (["entries", "most", "plain", "is_turned", "lead", "first", "line", "places", "steps", "at", "row", "turn", "taken", "word", "goal"] : List Str).length [tD t, m] = [some (tD t), some m, none, none, none, none, none, none, none, none, none, none, none, none, none] from rfl]
  refine ⟨rfl, rfl, iL t, rfl, (show 4 ≤ 1000000 by decide), dok_gm hs hd (by omega), ?_⟩
  rw [dv_pr4]
  try dsimp only [List.set, getS_z, getS_s, bin2, bin2T, ltD, leD, gtD, geD, cmp_i, add_i, sub_i, min2_i, max2_i]
  refine ⟨rfl, rfl, pr4 t, n, rfl, pr4_sm hd hs, h0, by omega, ?_⟩
  try dsimp only [List.set, getS_z, getS_s, bin2, bin2T, ltD, leD, gtD, geD, cmp_i, add_i, sub_i, min2_i, max2_i]
  rw [show decide (det4 (pr4 t) < 0) = mtu t from rfl]
  refine bl_v ?_
  refine ⟨tD (mpl t), fun e => ?_, fun e => ?_, ?_⟩
  · refine ⟨rfl, rfl, pr4 t, rfl, ?_⟩
    rw [show swC (pr4 t) = mpl t from by unfold mpl; rw [if_pos e]]
    exact ⟨rfl, rfl⟩
  · show isV _ _ _ _
    rw [show pr4 t = mpl t from by unfold mpl; rw [e, if_neg (by simp)]]
    exact ⟨rfl, rfl⟩
  refine ⟨rfl, rfl, mpl t, n + 2, m, rfl, m1, m3, by have := sum_sm hs; omega, by omega, ?_⟩
  refine wt_join (s := sum4 (mpl t)) (by rcases hm with ⟨a, b⟩ | a; exact .inl ⟨a, by omega⟩; exact .inr a) (fun w u tk hw => ?_) (fun w u tk hw hl => ?_)
  rotate_left
  · exact ⟨_, .same, q2 w u tk hw hl⟩
  refine ⟨rfl, rfl, ?_⟩
  try dsimp only [List.set, getS_z, getS_s, bin2, bin2T, ltD, leD, gtD, geD, cmp_i, add_i, sub_i, min2_i, max2_i]
  refine ⟨ln (n := 1) rfl (by decide), fun p1 e1 p2 e2 => ?_⟩
  have n12 : p1 ≠ p2 := fun z => by rw [← z, updM_same] at e2; cases e2
  refine ⟨updM_same, ks_tP u, ln (n := 0) rfl (by decide), fun p3 e3 => ?_⟩
  rw [updM_updM] at e3
  rw [updM_updM]
  have s0 := Ms.start (tu := mtu t) (u := u) e1 (by rw [updM_ne (Ne.symm n12)] at e2 ⊢; exact e2) e3
  refine ⟨ln (n := 4) rfl (by decide), rfl, rfl, ?_⟩
  try dsimp only [List.set, getS_z, getS_s, bin2, bin2T, ltD, leD, gtD, geD, cmp_i, add_i, sub_i, min2_i, max2_i]
  have hru : Rm ((det4 (pr4 t)).natAbs : Nat) u := ⟨tk.nn, tk.bal, by rw [← m2]; exact det_w tk.eq⟩
  have hz0 : (0 : Int) < ((det4 (pr4 t)).natAbs : Nat) := by rw [← m2]; exact m3
  have hz1 : (((det4 (pr4 t)).natAbs : Nat) : Int) ≤ 60 := by omega
  generalize ((det4 (pr4 t)).natAbs : Nat) = dn at *
  refine ⟨fun r M' => ∃ (l : List T4) (k : Nat) (ps : List Addr) (o10 o11 o12 o13 o14 : Option D), ps.length = k ∧ k ≤ l.length ∧ Ms B.M M' (mtu t) p1 p2 p3 l ps ∧ r = [some (tD t), some m, some (tD (pr4 t)), some (.bl (mtu t)), some (.str ⟨w.toArray⟩), some (tP u), some (.ref p1), some (.ref p2), some (.ref p3), some (.int k), o10, o11, o12, o13, o14] ∧ l.Nodup ∧ (∀ x ∈ l, Rm dn x) ∧ ∀ l', Bf (mtu t) l k l' → Bf (mtu t) [u] 0 l',
    fun r _ => 230001 - slotN r 9, .of ⟨[u], 0, [], none, none, none, none, none, rfl, Nat.zero_le _, s0, rfl, by simp, by simpa using hru, fun _ h => h⟩, fun r M' h => ?_⟩
  obtain ⟨l, k, ps, o10, o11, o12, o13, o14, hk, hkl, ms, rfl, hnd, hrm, hbf⟩ := h
  have h23 := rooms_le hz0 hz1 hnd hrm
  try dsimp only [List.set, getS_z, getS_s, bin2, bin2T, ltD, leD, gtD, geD, cmp_i, add_i, sub_i, min2_i, max2_i]
  refine len_at ms.c1 ?_
  try dsimp only [List.set, getS_z, getS_s, bin2, bin2T, ltD, leD, gtD, geD, cmp_i, add_i, sub_i, min2_i, max2_i]
  rw [List.length_map]
  refine bl_c (fun e => ?_) (fun e => ?_)
  rotate_left
  · have e := of_decide_eq_false e
    have hlk : l.length ≤ k := by omega
    refine ite_f rfl ?_
    try dsimp only [List.set, getS_z, getS_s, bin2, bin2T, ltD, leD, gtD, geD, cmp_i, add_i, sub_i, min2_i, max2_i]
    refine ⟨ln (n := 4) rfl (by decide), _, _, .frz 2, ?_⟩
    rw [ms.rs]
    have := q1 w u l tk (hbf l (.stop hlk)) hw
    rw [← ms.fin (by omega) w .non .non] at this
    exact this
  have e := of_decide_eq_true e
  obtain ⟨v, hv⟩ : ∃ v, l[k]? = some v := ⟨_, List.getElem?_eq_getElem (show k < l.length by omega)⟩
  have hrv := hrm v (List.mem_of_getElem? hv)
  refine ite_t rfl ?_
  try dsimp only [List.set, getS_z, getS_s, bin2, bin2T, ltD, leD, gtD, geD, cmp_i, add_i, sub_i, min2_i, max2_i]
  refine fun p4 e4 => ?_
  obtain ⟨f4, g4⟩ := ms.fresh e4
  have ms4 := ms.put4 f4 (.inl e4) g4 (.dic [])
  refine forD_n (xs := [.str ⟨#[76]⟩, .str ⟨#[82]⟩]) (fun K h => h) (fun i r M'' => ∃ (o11 o12 o13 o14 : Option D), Ms B.M M'' (mtu t) p1 p2 p3 (lI (mtu t) l v i) ps ∧ M'' p4 = some (.dic (rI (mtu t) l v i)) ∧ r = [some (tD t), some m, some (tD (pr4 t)), some (.bl (mtu t)), some (.str ⟨w.toArray⟩), some (tP u), some (.ref p1), some (.ref p2), some (.ref p3), some (.int k), some (.ref p4), o11, o12, o13, o14]) ⟨o11, o12, o13, o14, ms4, updM_same, rfl⟩ (fun _ _ _ _ => trivial) (fun i d r M'' hd h => ?_) (fun r M'' h => ?_)
  · obtain ⟨o11, o12, o13, o14, mi, h4, rfl⟩ := h
    have hc2 : i < 2 ∧ d = .str ⟨#[cI i]⟩ := by
      match i, hd with
      | 0, hd => exact ⟨by decide, (Option.some.inj hd).symm⟩
      | 1, hd => exact ⟨by decide, (Option.some.inj hd).symm⟩
      | j + 2, hd => simp at hd
    obtain ⟨hi2, rfl⟩ := hc2
    have hcI : cI i = 76 ∨ cI i = 82 := by unfold cI; split; exact .inl rfl; exact .inr rfl
    obtain ⟨hndi, hrmi, mm, elI⟩ := lI_ok (tu := mtu t) hz0 hrv hnd hrm i
    try dsimp only [List.set, getS_z, getS_s, bin2, bin2T, ltD, leD, gtD, geD, cmp_i, add_i, sub_i, min2_i, max2_i]
    refine bl_v ?_
    refine ⟨.str ⟨#[trn (mtu t) (cI i)]⟩, fun e => ?_, fun e => ?_, ?_⟩
    · refine ⟨rfl, rfl, cI i, rfl, ?_⟩
      rw [show trn (mtu t) (cI i) = oc (cI i) from by unfold trn; rw [if_pos e]; rfl]
      exact ⟨rfl, rfl⟩
    · rw [show trn (mtu t) (cI i) = cI i from by unfold trn; rw [e, if_neg (by simp)]]
      exact ⟨rfl, rfl⟩
    try dsimp only [List.set, getS_z, getS_s, bin2, bin2T, ltD, leD, gtD, geD, cmp_i, add_i, sub_i, min2_i, max2_i]
    have hvi : (lI (mtu t) l v i)[k]? = some v := by rw [elI, List.getElem?_append_left (show k < l.length by omega)]; exact hv
    refine ix_at mi.c1 (by rw [List.getElem?_map, hvi]; rfl) ?_
    refine eqS ?_
    refine bl_v ?_
    refine ⟨tD (turnT (trn (mtu t) (cI i))), fun e => ?_, fun e => ?_, ?_⟩
    · have e : trn (mtu t) (cI i) = 82 := ch_eq.mp (of_decide_eq_true e)
      rw [e, turn_R]
      exact ⟨rfl, rfl⟩
    · rw [show turnT (trn (mtu t) (cI i)) = L4 from by unfold turnT; rw [if_neg (of_decide_eq_false e)]]
      exact ⟨rfl, rfl⟩
    obtain ⟨hst, hsd⟩ := hrv.stp (trn (mtu t) (cI i))
    obtain ⟨htk, hrg⟩ := hrv.gol hz0 (mtu t) (cI i)
    have hvl := hrv.le hz0 hz1
    have hvs : Sm 6 v := by
      obtain ⟨a1, a2, a3, a4⟩ := hrv.nn
      exact ⟨by omega, by omega, by omega, by omega⟩
    refine ⟨rfl, rfl, v, turnT (trn (mtu t) (cI i)), 6, 1, rfl, hvs, sm_turn _, by decide, by decide, by decide, ?_⟩
    refine ⟨rfl, rfl, mul4 v (turnT (trn (mtu t) (cI i))), 100, .non, rfl, hst, by rw [hsd]; exact hz0, ?_, by decide, .inl ⟨rfl, ?_, fun w2 g tk2 => ?_⟩⟩
    · exact Nat.lt_trans (sm_sumT hvs _) (by decide)
    · exact Nat.le_of_lt (Nat.lt_trans (sm_sumT hvs _) (by decide))
    obtain ⟨ew, eg⟩ := wd_lf (by rw [hsd]; exact hz0) tk2
    have ew : w2 = tld (mtu t) v (cI i) := ew.symm
    have eg : g = gol (mtu t) v (cI i) := eg.symm
    subst ew eg
    refine ⟨rfl, rfl, ?_⟩
    try dsimp only [List.set, getS_z, getS_s, bin2, bin2T, ltD, leD, gtD, geD, cmp_i, add_i, sub_i, min2_i, max2_i]
    have hli := rooms_le hz0 hz1 hndi hrmi
    have hps : ps.length ≤ 230000 := by omega
    generalize eli : lI (mtu t) l v i = li at *
    have es : lI (mtu t) l v (i + 1) = insR li (gol (mtu t) v (cI i)) := by rw [← eli]; rfl
    have er : rI (mtu t) l v (i + 1) = dput (rI (mtu t) l v i) (.str ⟨#[cI i]⟩) (stD (mtu t) v (lI (mtu t) l v (i + 1)) (cI i)) := rfl
    refine ⟨p2, _, rfl, .inr ⟨mi.c2, ks_tP _⟩, ?_⟩
    by_cases hg : gol (mtu t) v (cI i) ∈ li
    · have es2 : lI (mtu t) l v (i + 1) = li := by rw [es]; unfold insR; rw [if_pos hg]
      rw [ck_tP, look_in 0 li _ hg]
      refine ite_f rfl ?_
      try dsimp only [List.set, getS_z, getS_s, bin2, bin2T, ltD, leD, gtD, geD, cmp_i, add_i, sub_i, min2_i, max2_i]
      refine ⟨_, _, dic_at mi.c2, look_in 0 li _ hg, .inr (ks_tP _), ln (n := 2) rfl (by decide), ?_⟩
      try dsimp only [List.set, getS_z, getS_s, bin2, bin2T, ltD, leD, gtD, geD, cmp_i, add_i, sub_i, min2_i, max2_i]
      refine ⟨p4, _, rfl, rI_len _ _ _ _ hi2, .inl ⟨h4, ⟨_, rfl⟩, ?_⟩⟩
      refine .of ⟨_, _, _, _, ?_, ?_, rfl⟩
      · rw [es2]; exact mi.put4 f4 (.inr ⟨_, h4⟩) g4 _
      · rw [updM_same, er, es2, Nat.zero_add]; rfl
    · have es2 : lI (mtu t) l v (i + 1) = li ++ [gol (mtu t) v (cI i)] := by rw [es]; unfold insR; rw [if_neg hg]
      rw [ck_tP, look_out 0 li _ hg]
      refine ite_t rfl ?_
      try dsimp only [List.set, getS_z, getS_s, bin2, bin2T, ltD, leD, gtD, geD, cmp_i, add_i, sub_i, min2_i, max2_i]
      refine len_at mi.c1 ?_
      try dsimp only [List.set, getS_z, getS_s, bin2, bin2T, ltD, leD, gtD, geD, cmp_i, add_i, sub_i, min2_i, max2_i]
      rw [List.length_map]
      refine ⟨p2, _, rfl, by rw [plF_len]; exact Nat.lt_of_le_of_lt hli (by decide), .inr ⟨mi.c2, ks_tP _, ?_⟩⟩
      rw [ck_tP, put_out hg]
      try dsimp only [List.set, getS_z, getS_s, bin2, bin2T, ltD, leD, gtD, geD, cmp_i, add_i, sub_i, min2_i, max2_i]
      have n21 : p1 ≠ p2 := fun z => by have := mi.c1; rw [z, mi.c2] at this; cases this
      have c1' : updM M'' p2 (.dit (plF 0 (li ++ [gol (mtu t) v (cI i)]))) p1 = some (.lst (li.map tP)) := by rw [updM_ne n21]; exact mi.c1
      refine ⟨⟨_, lstOf_at c1'⟩, append_of c1' (by rw [List.length_map]; exact Nat.lt_of_le_of_lt hli (by decide)) ?_⟩
      have ma := mi.add (g := gol (mtu t) v (cI i))
      have n41 : p4 ≠ p1 := fun z => by have := mi.c1; rw [← z, h4] at this; cases this
      have n42 : p4 ≠ p2 := fun z => by have := mi.c2; rw [← z, h4] at this; cases this
      have h4' : updM (updM M'' p2 (.dit (plF 0 (li ++ [gol (mtu t) v (cI i)])))) p1 (.lst (li.map tP ++ [tP (gol (mtu t) v (cI i))])) p4 = some (.dic (rI (mtu t) l v i)) := by
        rw [updM_ne n41, updM_ne n42]; exact h4
      try dsimp only [List.set, getS_z, getS_s, bin2, bin2T, ltD, leD, gtD, geD, cmp_i, add_i, sub_i, min2_i, max2_i]
      refine ⟨_, _, dic_at ma.c2, look_in 0 _ _ (List.mem_append_right _ (List.mem_singleton.mpr rfl)), .inr (ks_tP _), ln (n := 2) rfl (by decide), ?_⟩
      try dsimp only [List.set, getS_z, getS_s, bin2, bin2T, ltD, leD, gtD, geD, cmp_i, add_i, sub_i, min2_i, max2_i]
      refine ⟨p4, _, rfl, rI_len _ _ _ _ hi2, .inl ⟨h4', ⟨_, rfl⟩, ?_⟩⟩
      refine .of ⟨_, _, _, _, ?_, ?_, rfl⟩
      · rw [es2]; exact ma.put4 f4 (.inr ⟨_, h4'⟩) g4 _
      · rw [updM_same, er, es2, Nat.zero_add]; rfl
  · obtain ⟨o11, o12, o13, o14, mi, h4, rfl⟩ := h
    try dsimp only [List.set, getS_z, getS_s, bin2, bin2T, ltD, leD, gtD, geD, cmp_i, add_i, sub_i, min2_i, max2_i]
    rw [show ([.str ⟨#[76]⟩, .str ⟨#[82]⟩] : List D).length = 2 from rfl] at mi h4
    obtain ⟨hndi, hrmi, mm, elI⟩ := lI_ok (tu := mtu t) hz0 hrv hnd hrm 2
    have hli := rooms_le hz0 hz1 hndi hrmi
    rw [rI_two] at h4
    refine ⟨⟨_, lstOf_at mi.c3⟩, append_of mi.c3 (by rw [List.length_map]; exact Nat.lt_of_le_of_lt (show ps.length ≤ 230000 by omega) (by decide)) ?_⟩
    have hvi : (lI (mtu t) l v 2)[ps.length]? = some v := by rw [elI, List.getElem?_append_left (show ps.length < l.length by omega), hk]; exact hv
    have mr := mi.row f4 h4 hvi (lI_mem _ _ _).1 (lI_mem _ _ _).2
    try dsimp only [List.set, getS_z, getS_s, bin2, bin2T, ltD, leD, gtD, geD, cmp_i, add_i, sub_i, min2_i, max2_i]
    refine .of ⟨⟨lI (mtu t) l v 2, k + 1, ps ++ [p4], _, _, _, _, _, by rw [List.length_append, hk]; rfl, ?_, mr, rfl, hndi, hrmi, fun l' hb => hbf l' (.step hv hb)⟩, ?_⟩
    · rw [elI, List.length_append]; omega
    · show 230001 - (k + 1) < 230001 - k
      omega
def c_Milld_initd (CT C CI CG CL : Addr) : Ct := fun ds M Ψ Ξ => ∃ p t n, ds = [.ref p, tab CT t] ∧ M p = some (.ins C []) ∧ det4 t ≠ 0 ∧ Sm n t ∧ 0 < n ∧ n ≤ 1900 ∧ (¬ Nn t → Ξ (CI, [("tag", .str "InvalidTable")]) M) ∧
  (Nn t → 60 < (det4 (pr4 t)).natAbs → ∀ fs, Ξ (CG, [("most", .int 60), ("tag", .str "TooGreat")]) (updM M p (.ins C fs))) ∧
  (Nn t → (det4 (pr4 t)).natAbs ≤ 60 → (∀ w u, Tk (mpl t) w u → 4000 < w.length → ∀ fs, Ξ (CL, [("most", .int 4000), ("tag", .str "TooLong")]) (updM M p (.ins C fs))) ∧
    ∀ w u l, Tk (mpl t) w u → Bf (mtu t) [u] 0 l → w.length ≤ 4000 → Ψ .non (updM M p (.ins C (millF CT t w l))))
theorem mk_mill {CT C CI CG CL : Addr} {t : T4} {n : Nat} {e : En} {M : Sto} {Ψ : PD} {Ξ : XD → En → Sto → Prop} (hd : det4 t ≠ 0) (hs : Sm n t) (h0 : 0 < n) (h1 : n ≤ 1900) (q1 : ¬ Nn t → Ξ (CI, [("tag", .str "InvalidTable")]) e M)
    (q2 : Nn t → 60 < (det4 (pr4 t)).natAbs → Ξ (CG, [("most", .int 60), ("tag", .str "TooGreat")]) e M)
    (q3 : Nn t → (det4 (pr4 t)).natAbs ≤ 60 → ∀ w u, Tk (mpl t) w u → 4000 < w.length → Ξ (CL, [("most", .int 4000), ("tag", .str "TooLong")]) e M)
    (q4 : Nn t → (det4 (pr4 t)).natAbs ≤ 60 → ∀ w u l, Tk (mpl t) w u → Bf (mtu t) [u] 0 l → w.length ≤ 4000 → Ψ (mill C CT t w l) M) :
    mkD 1 0 (fun ds _ => ds) C (c_Milld_initd CT C CI CG CL) Ξ [tab CT t] [] e M Ψ :=
  ⟨rfl, rfl, fun p hp => ⟨p, t, n, rfl, updM_same, hd, hs, h0, h1, fun z => ⟨_, rfl, q1 z⟩, fun z a fs => ⟨fs, updM_updM, q2 z a⟩, fun z a => ⟨fun w u tk hw fs => ⟨fs, updM_updM, q3 z a w u tk hw⟩, fun w u l tk hb hw => ⟨rfl, _, updM_updM, q4 z a w u l tk hb hw⟩⟩⟩⟩
theorem ok_Milld_initd {f : Addr} {fd : FuncData} {dvs : List V} {kws : List (Str × V)} (T : Txt K mg) (h_Table_is_mill : Pf P w K mg base (He.ga K "Table") "is_mill" 2 (c_Table_is_mill (He.ga K "Table"))) (h_need_size : Gf P w K mg base "need_size" 4 (c_need_size (He.ga K "TooGreat")) b_need_size) (h_Table_entries : Mf P w K mg base (He.ga K "Table") "entries" 2 (c_Table_entries (He.ga K "Table")) b_Table_entries) (h_machine_of : Gf P w K mg base "machine_of" 5 (c_machine_of (He.ga K "TooLong")) b_machine_of) (x_InvalidTable : Xf P w K mg base "InvalidTable" (He.ga K "InvalidTable") 0 (tag1 "InvalidTable")) (F : FnZ K "__init__" "Mill.__init__" s_Milld_initd dvs kws f fd) : FnOk P w K mg base (L2.CX P w) 6 f fd ["self", "table"] (spC K (["self", "table"] : List Str).length (c_Milld_initd (He.ga K "Table") (He.ga K "Mill") (He.ga K "InvalidTable") (He.ga K "TooGreat") (He.ga K "TooLong"))) := by
  have hnd := sc_Milld_initd.nd
  refine fnD F sc_Milld_initd (c_Milld_initd (He.ga K "Table") (He.ga K "Mill") (He.ga K "InvalidTable") (He.ga K "TooGreat") (He.ga K "TooLong")) fun cdv A outer s H E B Ξ hr z => ⟨_, (dss_cons (ds_if (dt_not (dt_val (de_prop h_Table_is_mill T.cl_Table hr (de_var (i := 1))))) (dss_one (ds_raise0 x_InvalidTable hr z rfl)) dss_nil)
    (dss_cons (ds_fld T.cl_Mill T.na_Mill_given (de_var (i := 1)) (de_var (i := 0)))
    (dss_cons (ds_fld T.cl_Mill T.na_Mill_own_size (de_call h_need_size hr z (List.Mem.head _) (da_cons (de_meth0 h_Table_entries T.cl_Table hr z (List.Mem.head _) (de_var (i := 1))) da_nil)) (de_var (i := 0)))
    (dss_cons (ds_fld T.cl_Mill T.na_Mill_machine (de_call h_machine_of hr z (List.Mem.head _) (da_cons (de_meth0 h_Table_entries T.cl_Table hr z (List.Mem.head _) (de_var (i := 1))) (da_cons (de_gint T.k_MOST_TURNS) da_nil))) (de_var (i := 0)))
    (dss_one (ds_fld T.cl_Mill T.na_Mill_same (de_slice (de_fld T.cl_Mill T.na_Mill_machine (de_var (i := 0))) do_none (do_some de_int)) (de_var (i := 0)))))))), fun ds Ψ hl hc => ?_⟩
  obtain ⟨p, t, n, rfl, hp, hd, hs, h0, h1, q1, q2, q3⟩ := hc
  rw [show ent (["self", "table"] : List Str).length [D.ref p, tab (He.ga K "Table") t] = [some (.ref p), some (tab (He.ga K "Table") t)] from rfl]
  try dsimp only [List.set, getS_z, getS_s, bin2, bin2T, ltD, leD, gtD, geD, cmp_i, add_i, sub_i, min2_i, max2_i]
  refine ⟨rfl, t, rfl, ?_⟩
  refine bl_c (fun e => ?_) (fun e => ?_)
  rotate_left
  · refine ite_t rfl ?_
    exact ⟨_, .same, q1 fun z => by rw [(mnB_iff t).mpr z] at e; cases e⟩
  have hn := (mnB_iff t).mp e
  refine ite_f rfl ?_
  rw [hp]
  refine ⟨rfl, (show 0 < 1000 by decide), rfl, no_entries, rfl, rfl, t, rfl, rfl, rfl, t, n, rfl, hs, h0, by omega, hd, fun hle => ?_, fun hgt => ⟨_, .same, ?_⟩⟩
  rotate_left
  · exact q2 hn hgt _
  obtain ⟨q4, q5⟩ := q3 hn hle
  try dsimp only
  rw [updM_same]
  refine ⟨rfl, (show 1 < 1000 by decide), ?_⟩
  rw [updM_updM]
  refine ⟨rfl, no_entries, rfl, rfl, t, rfl, rfl, rfl, t, n, .int 4000, rfl, hn, hd, hs, h0, h1, hle, .inr rfl, fun w u l tk hb hw => ?_, fun w u tk _ hw => ⟨_, .same, ?_⟩⟩
  rotate_left
  · exact q4 w u tk hw _
  try dsimp only
  rw [updM_same]
  refine ⟨rfl, (show 2 < 1000 by decide), ?_⟩
  rw [updM_updM]
  refine isO_in updM_same ?_
  refine optK_of (d := mcD (mtu t) w l) (by rfl) ?_
  refine sl3 (mtu t) w l ?_
  rw [updM_same]
  refine ⟨rfl, (show 3 < 1000 by decide), ?_⟩
  rw [updM_updM]
  refine ⟨_, _, .same, ?_⟩
  exact q5 w u l tk hb (hw rfl)
def c_is_integer : Ct := fun ds M Ψ _ => ∃ d t, ds = [d] ∧ tyN M d = some t ∧ Ψ (.bl (isIn M d)) M
theorem ok_is_integer {f : Addr} {fd : FuncData} {dvs : List V} {kws : List (Str × V)} (T : Txt K mg)  (F : FnZ K "is_integer" "is_integer" s_is_integer dvs kws f fd) : FnOk P w K mg base (L2.CX P w) 2 f fd ["value"] (spC K (["value"] : List Str).length (c_is_integer)) := by
  have hnd := sc_is_integer.nd
  refine fnD F sc_is_integer (c_is_integer) fun cdv A outer s H E B Ξ hr z => ⟨_, (dss_one (ds_ret (de_and (de_isi T.n_isinstance (da_cons (de_var (i := 0)) (da_cons (de_ty (n := "int") T.n_int (by decide +kernel)) da_nil))) (de_and1 (de_not (de_isi T.n_isinstance (da_cons (de_var (i := 0)) (da_cons (de_ty (n := "bool") T.n_bool (by decide +kernel)) da_nil)))))))), fun ds Ψ hl hc => ?_⟩
  obtain ⟨d, t, rfl, ht, q⟩ := hc
  refine ⟨by decide, t, ht, ?_⟩
  unfold isIn at q
  rw [ht] at q
  have h7 := tyN_ok ht
  simp only [okTy, List.mem_cons, List.not_mem_nil, or_false] at h7
  rcases h7 with rfl | rfl | rfl | rfl | rfl | rfl | rfl
  all_goals first
    | exact bl_f rfl ⟨_, _, .same, q⟩
    | exact bl_t rfl ⟨by decide, _, ht, bl_t rfl ⟨_, _, .same, q⟩⟩
    | exact bl_t rfl ⟨by decide, _, ht, bl_f rfl ⟨_, _, .same, q⟩⟩
def c_Tabled_initd (C CI : Addr) : Ct := fun ds M Ψ Ξ => ∃ p a b c d, ds = [.ref p, a, b, c, d] ∧ M p = some (.ins C []) ∧ (∀ e ∈ [a, b, c, d], ∃ t, tyN M e = some t) ∧
  (∀ t : T4, [a, b, c, d] = tL t → (∃ n, 0 < n ∧ n ≤ 500000 ∧ Sm n t) ∧ (det4 t ≠ 0 → Ψ .non (updM M p (.ins C [("whole", tD t)]))) ∧ (det4 t = 0 → Ξ (CI, [("tag", .str "InvalidTable")]) M)) ∧
  ((∃ e ∈ [a, b, c, d], isIn M e = false) → Ξ (CI, [("tag", .str "InvalidTable")]) M)
theorem mk_tab {C CI : Addr} {t : T4} {r : En} {M : Sto} {Ψ : PD} {Ξ : XD → En → Sto → Prop} {n : Nat} (h0 : 0 < n) (hn : n ≤ 500000) (hs : Sm n t) (hd : det4 t ≠ 0) (q : Ψ (tab C t) M) : mkD 4 0 (fun ds _ => ds) C (c_Tabled_initd C CI) Ξ (tL t) [] r M Ψ := by
  refine ⟨rfl, rfl, fun p hp => ⟨p, _, _, _, _, rfl, updM_same, fun e he => ?_, fun t' e => ?_, fun ⟨e, he, hi⟩ => ?_⟩⟩
  · simp only [List.mem_cons, List.not_mem_nil, or_false] at he
    rcases he with rfl | rfl | rfl | rfl <;> exact ⟨_, rfl⟩
  · have et : t = t' := by
      unfold tL at e
      simp only [List.cons.injEq, D.int.injEq, and_true] at e
      obtain ⟨e1, e2, e3, e4⟩ := e
      exact Prod.ext e1 (Prod.ext e2 (Prod.ext e3 e4))
    subst et
    exact ⟨⟨n, h0, hn, hs⟩, fun _ => ⟨rfl, _, updM_updM, q⟩, fun z => absurd z hd⟩
  · simp only [List.mem_cons, List.not_mem_nil, or_false] at he
    rcases he with rfl | rfl | rfl | rfl <;> (unfold isIn at hi; simp [tyN] at hi)
theorem ok_Tabled_initd {f : Addr} {fd : FuncData} {dvs : List V} {kws : List (Str × V)} (T : Txt K mg) (h_is_integer : Gf P w K mg base "is_integer" 2 (c_is_integer) b_is_integer) (x_InvalidTable : Xf P w K mg base "InvalidTable" (He.ga K "InvalidTable") 0 (tag1 "InvalidTable")) (F : FnZ K "__init__" "Table.__init__" s_Tabled_initd dvs kws f fd) : FnOk P w K mg base (L2.CX P w) 3 f fd ["self", "a", "b", "c", "d"] (spC K (["self", "a", "b", "c", "d"] : List Str).length (c_Tabled_initd (He.ga K "Table") (He.ga K "InvalidTable"))) := by
  have hnd := sc_Tabled_initd.nd
  refine fnD F sc_Tabled_initd (c_Tabled_initd (He.ga K "Table") (He.ga K "InvalidTable")) fun cdv A outer s H E B Ξ hr z => ⟨_, (dss_cons (ds_if (dw_or (dt_not (dt_val (de_all1 rfl T.n_all (da_cons (de_lc rfl hnd (di_tup (de_tup (da_cons (de_var (i := 1)) (da_cons (de_var (i := 2)) (da_cons (de_var (i := 3)) (da_cons (de_var (i := 4)) da_nil)))))) (blkOk_by (own := [("entry", 5)]) (by rfl)) (tg_name (i := 5) (by decide)) (fun _ _ _ _ _ => (pg_name (i := 5) hnd rfl (by first | exact Or.inl rfl | exact Or.inr rfl) (by first | exact .inl rfl | exact .inr rfl))) (fun _ _ _ _ _ _ => dts_nil) (fun _ _ _ _ _ _ => (de_call h_is_integer hr zx_blk (List.Mem.head _) (da_cons (de_var (i := 5)) da_nil)))) da_nil)))) (dw_or1 (dt_eq hr (de_mul (de_var (i := 1)) (de_var (i := 4))) (de_mul (de_var (i := 2)) (de_var (i := 3)))))).pt (dss_one (ds_raise0 x_InvalidTable hr z rfl)) dss_nil)
    (dss_one (ds_fld T.cl_Table T.na_Table_whole (de_tup (da_cons (de_var (i := 1)) (da_cons (de_var (i := 2)) (da_cons (de_var (i := 3)) (da_cons (de_var (i := 4)) da_nil))))) (de_var (i := 0))))), fun ds Ψ hl hc => ?_⟩
  obtain ⟨p, a, b, c, d, rfl, hp, hty, q1, q2⟩ := hc
  refine compD_map (xs := [a, b, c, d]) (S := fun _ => True) (fun K h => ⟨ln (n := 4) rfl (by decide), [a, b, c, d], rfl, h⟩) (fun d => .bl (isIn B.M d)) trivial (ln (n := 4) rfl (by decide)) (fun d hd Q q => ?_) ?_
  · obtain ⟨t, ht⟩ := hty d hd
    exact ⟨rfl, rfl, d, t, rfl, ht, q⟩
  · refine ⟨[a, b, c, d].map fun d => isIn B.M d, rfl, ?_⟩
    refine bl_c (fun e2 => ?_) (fun e2 => ?_)
    rotate_left
    · refine ⟨_, .same, q2 ?_⟩
      rw [List.all_map] at e2
      obtain ⟨x, hx, hn⟩ := List.all_eq_false.mp e2
      exact ⟨x, hx, by simpa using hn⟩
    · rw [List.all_map] at e2
      have hi : ∀ e ∈ [a, b, c, d], ∃ i, e = .int i := fun x hx => ty_int (of_decide_eq_true (List.all_eq_true.mp e2 x hx))
      obtain ⟨i, rfl⟩ := hi a (by simp)
      obtain ⟨j, rfl⟩ := hi b (by simp)
      obtain ⟨k, rfl⟩ := hi c (by simp)
      obtain ⟨l, rfl⟩ := hi d (by simp)
      obtain ⟨⟨n, h0, hn, s1, s2, s3, s4⟩, q3, q4⟩ := q1 (i, j, k, l) rfl
      refine ⟨mok_of s1 s4 h0 h0 (by omega), mok_of s2 s3 h0 h0 (by omega), ?_⟩
      refine eqI ?_
      refine bl_c (fun e => ?_) (fun e => ?_)
      · exact ⟨_, .same, q4 (by have := of_decide_eq_true e; unfold det4; simp only; omega)⟩
      · have hd : det4 (i, j, k, l) ≠ 0 := by have := of_decide_eq_false e; unfold det4; simp only; omega
        refine ⟨ln (n := 4) rfl (by decide), ?_⟩
        have hq := q3 hd
        show (match B.M p with | some (.ins C' fs) => _ | _ => False)
        rw [hp]
        exact ⟨rfl, by decide, _, _, .same, hq⟩
def c__law_made (C : Addr) : Ct := fun ds M Ψ _ => ∃ x t n, ds = [x] ∧ (x = tD t ∨ x = .lst (tL t)) ∧ 0 < n ∧ n ≤ 500000 ∧ Sm n t ∧ det4 t ≠ 0 ∧ Ψ (tab C t) M
theorem ok__law_made {f : Addr} {fd : FuncData} {dvs : List V} {kws : List (Str × V)} (T : Txt K mg) (c_Table : Cf P w K mg base "Table" (He.ga K "Table") 3 (c_Tabled_initd (He.ga K "Table") (He.ga K "InvalidTable")) b_Tabled_initd) (F : FnZ K "_law_made" "_law_made" s__law_made dvs kws f fd) : FnOk P w K mg base (L2.CX P w) 5 f fd ["_law_entries"] (spC K (["_law_entries"] : List Str).length (c__law_made (He.ga K "Table"))) := by
  have hnd := sc__law_made.nd
  refine fnD F sc__law_made (c__law_made (He.ga K "Table")) fun cdv A outer s H E B Ξ hr z => ⟨_, (dss_one (ds_ret (de_make c_Table hr z (List.Mem.head _) (da_cons (de_ix (de_var (i := 0)) de_int) (da_cons (de_ix (de_var (i := 0)) de_int) (da_cons (de_ix (de_var (i := 0)) de_int) (da_cons (de_ix (de_var (i := 0)) de_int) da_nil))))))), fun ds Ψ hl hc => ?_⟩
  obtain ⟨x, t, n, rfl, hx, h0, hn, hs, hd, q⟩ := hc
  rcases hx with rfl | rfl
  · exact mk_tab h0 hn hs hd ⟨_, _, .same, q⟩
  · exact mk_tab h0 hn hs hd ⟨_, _, .same, q⟩
def c__law_prod : Ct := fun ds M Ψ _ => ∃ s t n m, ds = [tD s, tD t] ∧ Sm n s ∧ Sm m t ∧ 0 < n ∧ 0 < m ∧ n + m ≤ 1000000 ∧ Ψ (tD (mul4 s t)) M
theorem ok__law_prod {f : Addr} {fd : FuncData} {dvs : List V} {kws : List (Str × V)} (T : Txt K mg)  (F : FnZ K "_law_prod" "_law_prod" s__law_prod dvs kws f fd) : FnOk P w K mg base (L2.CX P w) 2 f fd ["_law_one", "_law_rival"] (spC K (["_law_one", "_law_rival"] : List Str).length (c__law_prod)) := by
  have hnd := sc__law_prod.nd
  refine fnD F sc__law_prod (c__law_prod) fun cdv A outer s H E B Ξ hr z => ⟨_, (dss_one (ds_ret (de_tup (da_cons (de_add (de_mul (de_ix (de_var (i := 0)) de_int) (de_ix (de_var (i := 1)) de_int)) (de_mul (de_ix (de_var (i := 0)) de_int) (de_ix (de_var (i := 1)) de_int))) (da_cons (de_add (de_mul (de_ix (de_var (i := 0)) de_int) (de_ix (de_var (i := 1)) de_int)) (de_mul (de_ix (de_var (i := 0)) de_int) (de_ix (de_var (i := 1)) de_int))) (da_cons (de_add (de_mul (de_ix (de_var (i := 0)) de_int) (de_ix (de_var (i := 1)) de_int)) (de_mul (de_ix (de_var (i := 0)) de_int) (de_ix (de_var (i := 1)) de_int))) (da_cons (de_add (de_mul (de_ix (de_var (i := 0)) de_int) (de_ix (de_var (i := 1)) de_int)) (de_mul (de_ix (de_var (i := 0)) de_int) (de_ix (de_var (i := 1)) de_int))) da_nil))))))), fun ds Ψ hl hc => ?_⟩
  obtain ⟨s, t, n, m, rfl, hs, ht, h0, h1, hz, q⟩ := hc
  have k : ∀ {i j : Int}, i.natAbs < 2 ^ n → j.natAbs < 2 ^ m → IntMulOk i j := fun a b => mok_of a b h0 h1 hz
  exact ⟨k hs.1 ht.1, k hs.2.1 ht.2.2.1, k hs.1 ht.2.1, k hs.2.1 ht.2.2.2, k hs.2.2.1 ht.1, k hs.2.2.2 ht.2.2.1, k hs.2.2.1 ht.2.1, k hs.2.2.2 ht.2.2.2, ln (n := 4) rfl (by decide), _, _, .same, q⟩
def c__law_grid : Ct := fun ds M Ψ _ => ∃ x, ds = [.str x] ∧ x.cps.size ≤ 400000 ∧ Ψ (tD (wL x.cps.toList)) M
theorem ok__law_grid {f : Addr} {fd : FuncData} {dvs : List V} {kws : List (Str × V)} (T : Txt K mg) (h__law_prod : Gf P w K mg base "_law_prod" 2 (c__law_prod) b__law_prod) (F : FnZ K "_law_grid" "_law_grid" s__law_grid dvs kws f fd) : FnOk P w K mg base (L2.CX P w) 3 f fd ["_law_token"] (spC K (["_law_token"] : List Str).length (c__law_grid)) := by
  have hnd := sc__law_grid.nd
  refine fnD F sc__law_grid (c__law_grid) fun cdv A outer s H E B Ξ hr z => ⟨_, (dss_cons (ds_set (i := 1) hnd (de_tup (da_cons de_int (da_cons de_int (da_cons de_int (da_cons de_int da_nil))))))
    (dss_cons (ds_for z.po rfl (di_str (de_var (i := 0))) (dg_name (i := 2) hnd) (dss_one (ds_set (i := 1) hnd (de_call h__law_prod hr z (List.Mem.head _) (da_cons (de_var (i := 1)) (da_cons (de_if (dt_eq hr (de_var (i := 2)) de_str) (de_tup (da_cons de_int (da_cons de_int (da_cons de_int (da_cons de_int da_nil))))) (de_tup (da_cons de_int (da_cons de_int (da_cons de_int (da_cons de_int da_nil)))))) da_nil))))))
    (dss_one (ds_ret (de_var (i := 1)))))), fun ds Ψ hl hc => ?_⟩
  obtain ⟨x, rfl, hz, q⟩ := hc
  refine ⟨ln (n := 4) rfl (by decide), ?_⟩
  refine forD_n (xs := Z.signs x) (fun K h => h) (fun i r M' => M' = B.M ∧ ∃ o, r = [some (.str x), some (tD (wL (x.cps.toList.take i))), o]) ⟨rfl, none, rfl⟩ (fun _ _ _ _ => trivial) (fun i d r M' hd h => ?_) (fun r M' h => ?_)
  · obtain ⟨rfl, o, rfl⟩ := h
    obtain ⟨c, hi, rfl⟩ := signs_get hd
    have hl : (x.cps.toList.take i).length ≤ 400000 := by rw [List.length_take, Array.length_toList]; omega
    have fin : c__law_prod [tD (wL (x.cps.toList.take i)), tD (turnT c)] B.M (fun d M' => Cl B.M (fun r M' => M' = B.M ∧ ∃ o, r = [some (.str x), some (tD (wL (x.cps.toList.take (i + 1)))), o]) [some (.str x), some d, some (.str ⟨#[c]⟩)] M') (fun y M' => exF B.M Ξ y [some (.str x), some (tD (wL (x.cps.toList.take i))), some (.str ⟨#[c]⟩)] M') :=
      ⟨_, _, _, _, rfl, sm_wL _, sm_turn c, by omega, by omega, by omega, .of ⟨rfl, _, by rw [wL_take hi]⟩⟩
    unfold turnT at fin
    refine eqS ?_
    refine bl_c (fun e => ?_) (fun e => ?_)
    · rw [if_pos (of_decide_eq_true e)] at fin
      exact ⟨ln (n := 4) rfl (by decide), rfl, rfl, fin⟩
    · rw [if_neg (of_decide_eq_false e)] at fin
      exact ⟨ln (n := 4) rfl (by decide), rfl, rfl, fin⟩
  · obtain ⟨rfl, o, rfl⟩ := h
    refine ⟨_, _, .same, ?_⟩
    rw [signs_len, List.take_of_length_le (by rw [Array.length_toList]; exact Nat.le_refl _)]
    exact q
def c__law_pick : Ct := fun ds M Ψ _ => ∃ (p : Addr) (n : Int), ds = [.ref p, .int n] ∧ HandAt M p ∧ 0 < n ∧ n < 2 ^ 39 ∧ ∀ k M', 0 ≤ k → k < n → Dr p M M' → Ψ (.int k) M'
theorem ok__law_pick {f : Addr} {fd : FuncData} {dvs : List V} {kws : List (Str × V)} (T : Txt K mg)  (F : FnZ K "_law_pick" "_law_pick" s__law_pick dvs kws f fd) : FnOk P w K mg base (L2.CX P w) 2 f fd ["_law_hand_here", "_law_many"] (spC K (["_law_hand_here", "_law_many"] : List Str).length (c__law_pick)) := by
  have hnd := sc__law_pick.nd
  refine fnD F sc__law_pick (c__law_pick) fun cdv A outer s H E B Ξ hr z => ⟨_, (dss_cons (ds_if (dt_lt (de_ix (de_var (i := 0)) de_int) de_int) (dss_cons (ds_setix (de_add (de_ix (de_var (i := 0)) de_int) de_int) (de_var (i := 0)) de_int)
    (dss_cons (ds_set (i := 2) hnd (de_add (de_ix (de_var (i := 0)) de_int) (de_mul (de_ix (de_var (i := 0)) de_int) de_int)))
    (dss_cons (ds_if (dt_le (de_ix (de_var (i := 0)) de_int) (de_len T.n_len (da_cons (de_ix (de_var (i := 0)) de_int) da_nil))) (dss_one (ds_set (i := 2) hnd (de_ix (de_ix (de_var (i := 0)) de_int) (de_sub (de_ix (de_var (i := 0)) de_int) de_int)))) dss_nil)
    (dss_cons (ds_if (dw_or (dt_gt (de_ix (de_var (i := 0)) de_int) (de_len T.n_len (da_cons (de_ix (de_var (i := 0)) de_int) da_nil))) (dw_or1 (dt_lt (de_var (i := 2)) (de_pow de_int de_int)))).pt (dss_cons (ds_set (i := 3) hnd (de_fmod (de_int1 T.n_int (da_cons (de_add (de_add (de_mul (de_var (i := 2)) de_int) (de_mul (de_ix (de_var (i := 0)) de_int) de_int)) (de_ix (de_var (i := 0)) de_int)) da_nil)) de_int))
    (dss_cons (ds_set (i := 4) hnd (de_fmod (de_int1 T.n_int (da_cons (de_add (de_mul (de_var (i := 3)) (de_var (i := 3))) (de_mul (de_ix (de_var (i := 0)) de_int) de_int)) da_nil)) de_int))
    (dss_one (ds_ret (de_fmod (de_fdiv (de_fmod (de_int1 T.n_int (da_cons (de_add (de_mul (de_var (i := 4)) de_int) (de_var (i := 3))) da_nil)) de_int) de_int) (de_var (i := 1))))))) dss_nil)
    (dss_one (ds_setix (de_var (i := 2)) (de_var (i := 0)) de_int)))))) dss_nil)
    (dss_cons (ds_set (i := 5) hnd (de_fmod (de_int1 T.n_int (da_cons (de_ix (de_var (i := 0)) de_int) da_nil)) (de_var (i := 1))))
    (dss_cons (ds_setix (de_fdiv (de_int1 T.n_int (da_cons (de_ix (de_var (i := 0)) de_int) da_nil)) (de_var (i := 1))) (de_var (i := 0)) de_int)
    (dss_one (ds_ret (de_var (i := 5))))))), fun ds Ψ hl hc => ?_⟩
  obtain ⟨p, n, rfl, ⟨h, e0, hcl, hi⟩, n0, n1, q⟩ := hc
  have nz : n ≠ 0 := by omega
  refine ix_ref e0 ?_
  refine bl_c (fun _ => ?_) (fun _ => ?_)
  rotate_left
  · refine ix_ref e0 ?_
    refine ⟨nz, ?_⟩
    refine ix_ref e0 ?_
    refine ⟨dok_s n0 (by omega), ?_⟩
    refine set_ref e0 rfl ?_
    exact ⟨_, _, .same, q _ _ (fm0 n0) (fm1 n0) ⟨handAt_of updM_same hcl hi, fun b hb => updM_ne hb⟩⟩
  refine ix_ref e0 ?_
  refine set_gen e0 rfl fun M1 e1 f1 => ?_
  have e1 : M1 p = some (hd ⟨h.cs, h.i + 1, h.r, h.m⟩) := e1
  have hi1 : 0 ≤ h.i + 1 := by omega
  refine ix_ref e1 ?_
  refine ix_ref e1 ?_
  refine ⟨IntMulOk.of_right (by decide), ?_⟩
  refine ix_ref e1 ?_
  refine ix_ref e1 ?_
  refine bl_c (fun h1 => ?_) (fun h1 => ?_)
  · refine ix_ref e1 ?_
    refine ix_ref e1 ?_
    have h1' : h.i + 1 ≤ ((h.cs.map D.int).length : Int) := of_decide_eq_true h1
    obtain ⟨d, hd, hm⟩ := at_some (xs := h.cs.map D.int) (i := h.i + 1 - 1) (by omega) (by omega)
    obtain ⟨c, _, rfl⟩ := List.mem_map.mp hm
    refine optK_of (d := .int (h.i + 1)) rfl ?_
    refine optK_of hd ?_
    refine ix_ref e1 ?_
    refine ix_ref e1 ?_
    refine bl_c (fun h2 => ?_) (fun h2 => ?_)
    rotate_left
    · refine ⟨⟨by decide, by decide, by decide⟩, ?_⟩
      refine bl_c (fun h3 => ?_) (fun h3 => ?_)
      rotate_left
      · refine set_ref e1 rfl ?_
        refine ix_ref updM_same ?_
        refine ⟨nz, ?_⟩
        refine ix_ref updM_same ?_
        refine ⟨dok_s n0 (by omega), ?_⟩
        refine set_ref updM_same rfl ?_
        exact ⟨_, _, .same, q _ _ (fm0 n0) (fm1 n0) ⟨handAt_of updM_same hcl hi1, fun b hb => (updM_ne hb).trans ((updM_ne hb).trans (f1 b hb))⟩⟩
      refine ⟨IntMulOk.of_right (by decide), ?_⟩
      refine ix_ref e1 ?_
      refine ⟨IntMulOk.of_right (by decide), ?_⟩
      refine ix_ref e1 ?_
      refine ⟨by decide, ?_⟩
      refine ⟨mok_s (fm_small (by decide) (by decide)), ?_⟩
      refine ix_ref e1 ?_
      refine ⟨IntMulOk.of_right (by decide), ?_⟩
      refine ⟨by decide, ?_⟩
      refine ⟨IntMulOk.of_right (by decide), by decide, dok_s (by decide) (by decide), nz, ?_⟩
      exact ⟨_, _, .same, q _ _ (fm0 n0) (fm1 n0) ⟨handAt_of e1 hcl hi1, f1⟩⟩
    refine ⟨IntMulOk.of_right (by decide), ?_⟩
    refine ix_ref e1 ?_
    refine ⟨IntMulOk.of_right (by decide), ?_⟩
    refine ix_ref e1 ?_
    refine ⟨by decide, ?_⟩
    refine ⟨mok_s (fm_small (by decide) (by decide)), ?_⟩
    refine ix_ref e1 ?_
    refine ⟨IntMulOk.of_right (by decide), ?_⟩
    refine ⟨by decide, ?_⟩
    refine ⟨IntMulOk.of_right (by decide), by decide, dok_s (by decide) (by decide), nz, ?_⟩
    exact ⟨_, _, .same, q _ _ (fm0 n0) (fm1 n0) ⟨handAt_of e1 hcl hi1, f1⟩⟩
  · refine ix_ref e1 ?_
    refine ix_ref e1 ?_
    refine bl_c (fun h2 => ?_) (fun h2 => ?_)
    rotate_left
    · refine ⟨⟨by decide, by decide, by decide⟩, ?_⟩
      refine bl_c (fun h3 => ?_) (fun h3 => ?_)
      rotate_left
      · refine set_ref e1 rfl ?_
        refine ix_ref updM_same ?_
        refine ⟨nz, ?_⟩
        refine ix_ref updM_same ?_
        refine ⟨dok_s n0 (by omega), ?_⟩
        refine set_ref updM_same rfl ?_
        exact ⟨_, _, .same, q _ _ (fm0 n0) (fm1 n0) ⟨handAt_of updM_same hcl hi1, fun b hb => (updM_ne hb).trans ((updM_ne hb).trans (f1 b hb))⟩⟩
      refine ⟨IntMulOk.of_right (by decide), ?_⟩
      refine ix_ref e1 ?_
      refine ⟨IntMulOk.of_right (by decide), ?_⟩
      refine ix_ref e1 ?_
      refine ⟨by decide, ?_⟩
      refine ⟨mok_s (fm_small (by decide) (by decide)), ?_⟩
      refine ix_ref e1 ?_
      refine ⟨IntMulOk.of_right (by decide), ?_⟩
      refine ⟨by decide, ?_⟩
      refine ⟨IntMulOk.of_right (by decide), by decide, dok_s (by decide) (by decide), nz, ?_⟩
      exact ⟨_, _, .same, q _ _ (fm0 n0) (fm1 n0) ⟨handAt_of e1 hcl hi1, f1⟩⟩
    refine ⟨IntMulOk.of_right (by decide), ?_⟩
    refine ix_ref e1 ?_
    refine ⟨IntMulOk.of_right (by decide), ?_⟩
    refine ix_ref e1 ?_
    refine ⟨by decide, ?_⟩
    refine ⟨mok_s (fm_small (by decide) (by decide)), ?_⟩
    refine ix_ref e1 ?_
    refine ⟨IntMulOk.of_right (by decide), ?_⟩
    refine ⟨by decide, ?_⟩
    refine ⟨IntMulOk.of_right (by decide), by decide, dok_s (by decide) (by decide), nz, ?_⟩
    exact ⟨_, _, .same, q _ _ (fm0 n0) (fm1 n0) ⟨handAt_of e1 hcl hi1, f1⟩⟩
def c__law_of : Ct := fun ds M Ψ _ => ∃ (p : Addr) (x : D) (l : List D), ds = [.ref p, x] ∧ HandAt M p ∧ itm x = some l ∧ 0 < l.length ∧ l.length ≤ 1000000 ∧ ∀ d M', d ∈ l → Dr p M M' → Ψ d M'
theorem ok__law_of {f : Addr} {fd : FuncData} {dvs : List V} {kws : List (Str × V)} (T : Txt K mg) (h__law_pick : Gf P w K mg base "_law_pick" 2 (c__law_pick) b__law_pick) (F : FnZ K "_law_of" "_law_of" s__law_of dvs kws f fd) : FnOk P w K mg base (L2.CX P w) 3 f fd ["_law_hand_here", "_law_items"] (spC K (["_law_hand_here", "_law_items"] : List Str).length (c__law_of)) := by
  have hnd := sc__law_of.nd
  refine fnD F sc__law_of (c__law_of) fun cdv A outer s H E B Ξ hr z => ⟨_, (dss_one (ds_ret (de_ix (de_var (i := 1)) (de_call h__law_pick hr z (List.Mem.head _) (da_cons (de_var (i := 0)) (da_cons (de_len T.n_len (da_cons (de_var (i := 1)) da_nil)) da_nil)))))), fun ds Ψ hl hc => ?_⟩
  obtain ⟨p, x, l, rfl, hh, hx, l0, l1, q⟩ := hc
  cases x with
  | str x =>
    cases hx
    rw [signs_len] at l0 l1
    have hz : x.length ≤ sizeLine := Nat.le_trans l1 big_ok
    refine ⟨hz, rfl, rfl, p, _, rfl, hh, (show (0 : Int) < (x.cps.size : Int) by omega), (show (x.cps.size : Int) < 2 ^ 39 by omega), fun k M' k0 k1 dr => ⟨hz, ?_⟩⟩
    obtain ⟨c, hc, hm⟩ := at_some (xs := x.cps.toList) k0 (by rw [Array.length_toList]; exact k1)
    exact optK_of hc ⟨_, _, .same, q _ _ (List.mem_map.mpr ⟨c, hm, rfl⟩) dr⟩
  | tup l =>
    cases hx
    refine ⟨rfl, rfl, p, _, rfl, hh, by omega, by omega, fun k M' k0 k1 dr => ?_⟩
    obtain ⟨c, hc, hm⟩ := at_some k0 k1
    exact optK_of hc ⟨_, _, .same, q _ _ hm dr⟩
  | lst l =>
    cases hx
    refine ⟨rfl, rfl, p, _, rfl, hh, by omega, by omega, fun k M' k0 k1 dr => ?_⟩
    obtain ⟨c, hc, hm⟩ := at_some k0 k1
    exact optK_of hc ⟨_, _, .same, q _ _ hm dr⟩
  | _ => cases hx
def c__law_word : Ct := fun ds M Ψ _ => ∃ (p : Addr) (n : Int), ds = [.ref p, .int n] ∧ HandAt M p ∧ 0 ≤ n ∧ n ≤ 100000 ∧ ∀ w M', LR w → (w.length : Int) ≤ n → Dr p M M' → Ψ (.str ⟨w.toArray⟩) M'
theorem ok__law_word {f : Addr} {fd : FuncData} {dvs : List V} {kws : List (Str × V)} (T : Txt K mg) (h__law_pick : Gf P w K mg base "_law_pick" 2 (c__law_pick) b__law_pick) (h__law_of : Gf P w K mg base "_law_of" 3 (c__law_of) b__law_of) (F : FnZ K "_law_word" "_law_word" s__law_word dvs kws f fd) : FnOk P w K mg base (L2.CX P w) 4 f fd ["_law_hand_here", "_law_peak"] (spC K (["_law_hand_here", "_law_peak"] : List Str).length (c__law_word)) := by
  have hnd := sc__law_word.nd
  refine fnD F sc__law_word (c__law_word) fun cdv A outer s H E B Ξ hr z => ⟨_, (dss_one (ds_ret (de_join de_str (de_lc rfl hnd (di_range1 T.n_range (da_cons (de_call h__law_pick hr z (List.Mem.head _) (da_cons (de_var (i := 0)) (da_cons (de_add (de_var (i := 1)) de_int) da_nil))) da_nil)) (blkOk_by (own := [("_law_k", 2)]) (by rfl)) (tg_name (i := 2) (by decide)) (fun _ _ _ _ _ => (pg_name (i := 2) hnd rfl (by first | exact Or.inl rfl | exact Or.inr rfl) (by first | exact .inl rfl | exact .inr rfl))) (fun _ _ _ _ _ _ => dts_nil) (fun _ _ _ _ _ _ => (de_call h__law_of hr zx_blk (List.Mem.head _) (da_cons (de_var (i := 0)) (da_cons de_str da_nil)))))))), fun ds Ψ hl hc => ?_⟩
  obtain ⟨p, n, rfl, hh, n0, n1, q⟩ := hc
  refine ⟨trivial, ?_⟩
  refine compD_of (fun xs S M1 => ∃ k : Int, 0 ≤ k ∧ k ≤ n ∧ xs = rngD 0 k.toNat ∧ S = (fun _ => True) ∧ Dr p B.M M1) (fun K h => ?_) (fun xs S M1 ⟨k, k0, k1, e1, e2, dr⟩ => ?_)
  · exact ⟨rfl, rfl, p, _, rfl, hh, by omega, by omega, fun k M' k0 k1 dr => ⟨⟨by omega, by omega⟩, h _ _ _ ⟨k, k0, by omega, rfl, rfl, dr⟩⟩⟩
  subst e1 e2
  refine comp_st (Dr p B.M) (fun _ y => ∃ c : Nat, (c = 76 ∨ c = 82) ∧ y = .str ⟨#[c]⟩) dr (fun _ _ => trivial) (by rw [rng_len]; exact Nat.le_trans (by omega) big_ok) (fun d hd M' I Q hQ => ?_) (fun acc M' I hl hy => ?_)
  · refine ⟨rfl, rfl, p, _, _, rfl, I.1, rfl, by decide, by decide, fun d M4 hd dr' => hQ _ _ (I.trans dr') ?_⟩
    obtain ⟨c, hc, rfl⟩ := signs_mem hd
    exact ⟨c, lr_mem.mp hc, rfl⟩
  · have hall : ∀ y ∈ acc, ∃ c : Nat, (c = 76 ∨ c = 82) ∧ y = .str ⟨#[c]⟩ := fun y hm => by
      obtain ⟨i, hi, e⟩ := List.getElem_of_mem hm
      have hi2 : i < (rngD 0 k.toNat).length := hl ▸ hi
      exact hy i _ y (List.getElem?_eq_getElem hi2) (by rw [List.getElem?_eq_getElem hi, e])
    obtain ⟨w, hw, rfl⟩ := chars_of hall
    rw [rng_len, List.length_map] at hl
    refine ⟨_, w.map fun c => (⟨#[c]⟩ : Str), .inl rfl, strsD_chars w, ?_, ?_⟩
    · rw [chars_sum, List.length_map]
      show _ + _ * 0 ≤ _
      omega
    · refine ⟨_, _, .same, ?_⟩
      show Ψ (.str (Txt.join Str.empty _)) M'
      rw [join_chars]
      exact q w M' hw (by omega) I
def c__law_core : Ct := fun ds M Ψ _ => ∃ (p : Addr) (cap : Int), ds = [.ref p, .int cap] ∧ HandAt M p ∧ 0 < cap ∧ cap ≤ 1000 ∧ ∀ t M', Sm 10 t → Nn t → 0 < det4 t → det4 t ≤ cap → Le4 cap t → Dr p M M' → Ψ (tD t) M'
def dvd (s : Int) (d : D) : Bool := match d with
  | .int j => decide (s.fmod j = 0)
  | _ => false
theorem fdiv_dvd {s j : Int} (h : 0 < j) (hd : s.fmod j = 0) : j * s.fdiv j = s := by
  have := Int.mul_fdiv_add_fmod s j
  omega
theorem ok__law_core {f : Addr} {fd : FuncData} {dvs : List V} {kws : List (Str × V)} (T : Txt K mg) (h__law_pick : Gf P w K mg base "_law_pick" 2 (c__law_pick) b__law_pick) (h__law_of : Gf P w K mg base "_law_of" 3 (c__law_of) b__law_of) (F : FnZ K "_law_core" "_law_core" s__law_core dvs kws f fd) : FnOk P w K mg base (L2.CX P w) 4 f fd ["_law_hand_here", "_law_cap"] (spC K (["_law_hand_here", "_law_cap"] : List Str).length (c__law_core)) := by
  have hnd := sc__law_core.nd
  refine fnD F sc__law_core (c__law_core) fun cdv A outer s H E B Ξ hr z => ⟨_, (dss_cons (ds_set (i := 2) hnd (de_add de_int (de_call h__law_pick hr z (List.Mem.head _) (da_cons (de_var (i := 0)) (da_cons (de_var (i := 1)) da_nil)))))
    (dss_cons (ds_set (i := 3) hnd (de_call h__law_of hr z (List.Mem.head _) (da_cons (de_var (i := 0)) (da_cons (de_lc rfl hnd (di_range2 T.n_range (da_cons de_int (da_cons (de_add (de_var (i := 2)) de_int) da_nil))) (blkOk_by (own := [("_law_part", 4)]) (by rfl)) (tg_name (i := 4) (by decide)) (fun _ _ _ _ _ => (pg_name (i := 4) hnd rfl (by first | exact Or.inl rfl | exact Or.inr rfl) (by first | exact .inl rfl | exact .inr rfl))) (fun _ _ _ _ _ _ => (dts_one (dt_eq hr (de_fmod (de_int1 T.n_int (da_cons (de_var (i := 2)) da_nil)) (de_var (i := 4))) de_int))) (fun _ _ _ _ _ _ => (de_var (i := 4)))) da_nil))))
    (dss_one (ds_ret (de_tup (da_cons (de_var (i := 3)) (da_cons (de_call h__law_pick hr z (List.Mem.head _) (da_cons (de_var (i := 0)) (da_cons (de_fdiv (de_var (i := 2)) (de_var (i := 3))) da_nil))) (da_cons de_int (da_cons (de_fdiv (de_var (i := 2)) (de_var (i := 3))) da_nil))))))))), fun ds Ψ hl hc => ?_⟩
  obtain ⟨p, cap, rfl, hh, c0, c1, q⟩ := hc
  refine ⟨rfl, rfl, p, cap, rfl, hh, c0, by omega, fun k M1 k0 k1 d1 => ?_⟩
  have s0 : 0 < (1 + k) := by omega
  have s1 : (1 + k) ≤ 1000 := by omega
  refine compD_fm (xs := rngD 1 ((1 + k) + 1 - 1).toNat) (S := fun _ => True) (fun K h => ⟨⟨⟨by omega, by omega⟩, ⟨by omega, by omega⟩⟩, h⟩) (dvd (1 + k)) (fun d => d) trivial (by rw [rng_len]; exact Nat.le_trans (by omega) big_ok) (fun d hd Q R h => ?_) ?_
  · obtain ⟨j, hj, rfl⟩ := rng_mem hd
    refine ⟨by omega, ?_⟩
    refine eqI ?_
    refine bl_c (fun e => ?_) (fun e => ?_)
    · rw [if_pos (show dvd (1 + k) (.int (1 + j)) = true from e)] at h
      exact h
    · rw [if_neg (by rw [show dvd (1 + k) (.int (1 + j)) = false from e]; simp)] at h
      exact h
  rw [List.map_id']
  have key : ∀ d ∈ (rngD 1 ((1 + k) + 1 - 1).toNat).filter (dvd (1 + k)), ∃ j : Int, 0 < j ∧ j ≤ (1 + k) ∧ (1 + k).fmod j = 0 ∧ d = .int j := fun d hd => by
    obtain ⟨h1, h2⟩ := List.mem_filter.mp hd
    obtain ⟨j, hj, rfl⟩ := rng_mem h1
    exact ⟨1 + j, by omega, by omega, of_decide_eq_true h2, rfl⟩
  have len0 : 0 < ((rngD 1 ((1 + k) + 1 - 1).toNat).filter (dvd (1 + k))).length := by
    refine List.length_pos_of_mem (a := .int 1) (List.mem_filter.mpr ⟨?_, ?_⟩)
    · exact List.mem_map.mpr ⟨0, List.mem_range.mpr (by omega), rfl⟩
    · exact decide_eq_true (by rw [Int.fmod_eq_emod_of_nonneg _ (by decide)]; omega)
  have len1 : ((rngD 1 ((1 + k) + 1 - 1).toNat).filter (dvd (1 + k))).length ≤ 1000000 := by
    refine Nat.le_trans (List.length_filter_le _ _) ?_
    rw [rng_len]
    omega
  refine ⟨rfl, rfl, p, _, _, rfl, d1.1, rfl, len0, len1, fun d M2 hd d2 => ?_⟩
  obtain ⟨j, j0, j1, jd, rfl⟩ := key d hd
  have em := fdiv_dvd j0 jd
  have f0 : 0 < (1 + k).fdiv j := by
    rcases Int.lt_or_le 0 ((1 + k).fdiv j) with h | h
    · exact h
    · have : j * (1 + k).fdiv j ≤ 0 := Int.mul_nonpos_of_nonneg_of_nonpos (Int.le_of_lt j0) h
      omega
  have f1 : (1 + k).fdiv j ≤ (1 + k) := by
    have : 1 * (1 + k).fdiv j ≤ j * (1 + k).fdiv j := Int.mul_le_mul_of_nonneg_right (by omega) (Int.le_of_lt f0)
    omega
  refine ⟨dok_s j0 (by omega), ?_⟩
  refine ⟨rfl, rfl, p, (1 + k).fdiv j, rfl, d2.1, f0, by omega, fun r M3 r0 r1 d3 => ?_⟩
  refine ⟨dok_s j0 (by omega), ln (n := 4) rfl (by decide), ?_⟩
  refine ⟨_, _, .same, q (j, r, 0, (1 + k).fdiv j) M3 ⟨?_, ?_, ?_, ?_⟩ ⟨?_, ?_, ?_, ?_⟩ ?_ ?_ ⟨?_, ?_, ?_, ?_⟩ ((d1.trans d2).trans d3)⟩
  · show j.natAbs < 1024; omega
  · show r.natAbs < 1024; omega
  · show (0 : Int).natAbs < 1024; decide
  · show ((1 + k).fdiv j).natAbs < 1024; omega
  · show 0 ≤ j; omega
  · exact r0
  · exact Int.le_refl 0
  · show 0 ≤ (1 + k).fdiv j; omega
  · show 0 < j * (1 + k).fdiv j - r * 0
    omega
  · show j * (1 + k).fdiv j - r * 0 ≤ cap
    omega
  · show j ≤ cap; omega
  · show r ≤ cap; omega
  · show (0 : Int) ≤ cap; omega
  · show (1 + k).fdiv j ≤ cap; omega
def c__law_mill : Ct := fun ds M Ψ _ => ∃ (p : Addr) (cap : Nat), ds = [.ref p, .int cap] ∧ HandAt M p ∧ 0 < cap ∧ cap ≤ 60 ∧ ∀ t M', Mil1 cap t → Dr p M M' → Ψ (tD t) M'
def mulB (m : Int) (d : D) : D := match d with
  | .int j => .int (m * j)
  | d => d
theorem ok__law_mill {f : Addr} {fd : FuncData} {dvs : List V} {kws : List (Str × V)} (T : Txt K mg) (h__law_prod : Gf P w K mg base "_law_prod" 2 (c__law_prod) b__law_prod) (h__law_grid : Gf P w K mg base "_law_grid" 3 (c__law_grid) b__law_grid) (h__law_word : Gf P w K mg base "_law_word" 4 (c__law_word) b__law_word) (h__law_core : Gf P w K mg base "_law_core" 4 (c__law_core) b__law_core) (h__law_of : Gf P w K mg base "_law_of" 3 (c__law_of) b__law_of) (h__law_pick : Gf P w K mg base "_law_pick" 2 (c__law_pick) b__law_pick) (F : FnZ K "_law_mill" "_law_mill" s__law_mill dvs kws f fd) : FnOk P w K mg base (L2.CX P w) 5 f fd ["_law_hand_here", "_law_cap"] (spC K (["_law_hand_here", "_law_cap"] : List Str).length (c__law_mill)) := by
  have hnd := sc__law_mill.nd
  refine fnD F sc__law_mill (c__law_mill) fun cdv A outer s H E B Ξ hr z => ⟨_, (dss_cons (ds_set (i := 2) hnd (de_call h__law_prod hr z (List.Mem.head _) (da_cons (de_call h__law_grid hr z (List.Mem.head _) (da_cons (de_call h__law_word hr z (List.Mem.head _) (da_cons (de_var (i := 0)) (da_cons de_int da_nil))) da_nil)) (da_cons (de_call h__law_prod hr z (List.Mem.head _) (da_cons (de_call h__law_core hr z (List.Mem.head _) (da_cons (de_var (i := 0)) (da_cons (de_var (i := 1)) da_nil))) (da_cons (de_call h__law_grid hr z (List.Mem.head _) (da_cons (de_call h__law_word hr z (List.Mem.head _) (da_cons (de_var (i := 0)) (da_cons de_int da_nil))) da_nil)) da_nil))) da_nil))))
    (dss_cons (ds_set (i := 3) hnd (de_call h__law_of hr z (List.Mem.head _) (da_cons (de_var (i := 0)) (da_cons (de_lst (da_cons de_int (da_cons de_int (da_cons de_int (da_cons de_int (da_cons de_int da_nil)))))) da_nil))))
    (dss_cons (ds_set (i := 2) hnd (de_tuple1 T.n_tuple (da_cons (de_lc rfl hnd (di_tup (de_var (i := 2))) (blkOk_by (own := [("_law_entry", 4)]) (by rfl)) (tg_name (i := 4) (by decide)) (fun _ _ _ _ _ => (pg_name (i := 4) hnd rfl (by first | exact Or.inl rfl | exact Or.inr rfl) (by first | exact .inl rfl | exact .inr rfl))) (fun _ _ _ _ _ _ => dts_nil) (fun _ _ _ _ _ _ => (de_mul (de_var (i := 3)) (de_var (i := 4))))) da_nil)))
    (dss_one (ds_ret (de_if (dt_eq hr (de_call h__law_pick hr z (List.Mem.head _) (da_cons (de_var (i := 0)) (da_cons de_int da_nil))) de_int) (de_tup (da_cons (de_ix (de_var (i := 2)) de_int) (da_cons (de_ix (de_var (i := 2)) de_int) (da_cons (de_ix (de_var (i := 2)) de_int) (da_cons (de_ix (de_var (i := 2)) de_int) da_nil))))) (de_var (i := 2)))))))), fun ds Ψ hl hc => ?_⟩
  obtain ⟨p, cap, rfl, hh, c0, c1, q⟩ := hc
  refine ⟨rfl, rfl, p, 3, rfl, hh, by decide, by decide, fun w1 M1 hw1 hl1 d1 => ?_⟩
  have hz1 : w1.length ≤ 3 := by omega
  refine ⟨rfl, rfl, _, rfl, (show w1.length ≤ 400000 by omega), ?_⟩
  refine ⟨rfl, rfl, p, cap, rfl, d1.1, by omega, by omega, fun t0 M2 sm0 nn0 dt0 dc0 le0 d2 => ?_⟩
  refine ⟨rfl, rfl, p, 3, rfl, d2.1, by decide, by decide, fun w2 M3 hw2 hl2 d3 => ?_⟩
  have hz2 : w2.length ≤ 3 := by omega
  refine ⟨rfl, rfl, _, rfl, (show w2.length ≤ 400000 by omega), ?_⟩
  have sw1 : Sm 7 (wL w1) := (sm_wL w1).mono (by omega)
  have sw2 : Sm 7 (wL w2) := (sm_wL w2).mono (by omega)
  refine ⟨rfl, rfl, t0, wL w2, 10, 7, rfl, sm0, sw2, by decide, by decide, by decide, ?_⟩
  refine ⟨rfl, rfl, wL w1, _, 7, _, rfl, sw1, sm0.mul sw2, by decide, by decide, by decide, ?_⟩
  have smt := sw1.mul (sm0.mul sw2)
  have nnt := (nn_wL w1).mul (nn0.mul (nn_wL w2))
  have dtt : 0 < det4 (mul4 (wL w1) (mul4 t0 (wL w2))) := by
    rw [det_mul, det_mul, det_wL, det_wL, Int.one_mul, Int.mul_one]
    exact dt0
  have hc1 : Le4 ((6 * cap : Nat) : Int) (mul4 t0 (wL w2)) := by
    obtain ⟨b1, b2, b3, b4⟩ := w3_le hw2 hz2
    have k1 : Le4 (2 * cap * 3) (mul4 t0 (wL w2)) := Le4.mul nn0 le0 ⟨b1, b2, b3, b4⟩ (by decide)
    rw [show (2 * (cap : Int) * 3) = ((6 * cap : Nat) : Int) by omega] at k1
    exact k1
  have hc2 := hc1.sum (nn0.mul (nn_wL w2))
  have hdc : det4 (mul4 t0 (wL w2)) = det4 t0 := by rw [det_mul, det_wL, Int.mul_one]
  have ml : ∀ (m : Int) t, 1 ≤ m → m ≤ 3 → (t = sc m (mul4 (wL w1) (mul4 t0 (wL w2))) ∨ t = sw4' (sc m (mul4 (wL w1) (mul4 t0 (wL w2))))) → Mil1 cap t := fun m t a b e => by
    refine mil1_mk hw1 hz1 (nn0.mul (nn_wL w2)) (by omega) (by omega) (by omega) ?_ c1 a b e
    obtain ⟨a1, a2, a3, a4⟩ := w3_le hw1 hz1
    have k2 : Le4 (2 * 3 * ((6 * cap : Nat) : Int)) (mul4 (wL w1) (mul4 t0 (wL w2))) := Le4.mul (nn_wL w1) ⟨a1, a2, a3, a4⟩ hc1 (by omega)
    rw [show (2 * 3 * ((6 * cap : Nat) : Int)) = 36 * cap by omega] at k2
    exact k2
  generalize mul4 (wL w1) (mul4 t0 (wL w2)) = t at smt ml ⊢
  refine ⟨ln (n := 5) rfl (by decide), ?_⟩
  refine ⟨rfl, rfl, p, _, _, rfl, d3.1, rfl, by decide, by decide, fun d M4 hd d4 => ?_⟩
  obtain ⟨m, m0, m1, rfl⟩ : ∃ m : Int, 0 < m ∧ m ≤ 3 ∧ d = .int m := by
    simp only [List.mem_cons, List.not_mem_nil, or_false] at hd
    rcases hd with rfl | rfl | rfl | rfl | rfl
    · exact ⟨1, by decide, by decide, rfl⟩
    · exact ⟨1, by decide, by decide, rfl⟩
    · exact ⟨1, by decide, by decide, rfl⟩
    · exact ⟨2, by decide, by decide, rfl⟩
    · exact ⟨3, by decide, by decide, rfl⟩
  refine compD_map (xs := tL t) (S := fun _ => True) (fun K h => ⟨_, rfl, h⟩) (mulB m) trivial (ln (n := 4) rfl (by decide)) (fun d hd Q h => ?_) ?_
  · unfold tL at hd
    simp only [List.mem_cons, List.not_mem_nil, or_false] at hd
    have hm : m.natAbs < 2 ^ 40 := by omega
    rcases hd with rfl | rfl | rfl | rfl <;> exact ⟨mok_l hm, h⟩
  have e4 : (tL t).map (mulB m) = tL (sc m t) := rfl
  rw [e4]
  have ml1 : Mil1 cap (sc m t) := ml m _ (by omega) m1 (.inl rfl)
  have ml2 : Mil1 cap (sw4' (sc m t)) := ml m _ (by omega) m1 (.inr rfl)
  generalize sc m t = u at ml1 ml2 ⊢
  have dr4 := ((d1.trans d2).trans d3).trans d4
  refine ⟨_, rfl, ?_⟩
  refine ⟨rfl, rfl, p, 3, rfl, d4.1, by decide, by decide, fun k M5 k0 k1 d5 => ?_⟩
  refine eqI ?_
  refine bl_c (fun _ => ?_) (fun _ => ?_)
  · exact ⟨ln (n := 4) rfl (by decide), _, _, .same, q (sw4' u) M5 ml2 (dr4.trans d5)⟩
  · exact ⟨_, _, .same, q u M5 ml1 (dr4.trans d5)⟩
def c_table_with (C : Addr) : Ct := fun ds M Ψ _ => ∃ t n, ds = [tD t] ∧ 0 < n ∧ n ≤ 500000 ∧ Sm n t ∧ det4 t ≠ 0 ∧ Ψ (tab C t) M
theorem ok_table_with {f : Addr} {fd : FuncData} {dvs : List V} {kws : List (Str × V)} (T : Txt K mg) (c_Table : Cf P w K mg base "Table" (He.ga K "Table") 3 (c_Tabled_initd (He.ga K "Table") (He.ga K "InvalidTable")) b_Tabled_initd) (F : FnZ K "table_with" "table_with" s_table_with dvs kws f fd) : FnOk P w K mg base (L2.CX P w) 5 f fd ["entries"] (spC K (["entries"] : List Str).length (c_table_with (He.ga K "Table"))) := by
  have hnd := sc_table_with.nd
  refine fnD F sc_table_with (c_table_with (He.ga K "Table")) fun cdv A outer s H E B Ξ hr z => ⟨_, (dss_cons (ds_asg (de_var (i := 0)) (dg_tup (n := 4) rfl (dgs_cons (dg_name (i := 1) hnd) (dgs_cons (dg_name (i := 2) hnd) (dgs_cons (dg_name (i := 3) hnd) (dgs_cons (dg_name (i := 4) hnd) dgs_nil))))))
    (dss_one (ds_ret (de_make c_Table hr z (List.Mem.head _) (da_cons (de_var (i := 1)) (da_cons (de_var (i := 2)) (da_cons (de_var (i := 3)) (da_cons (de_var (i := 4)) da_nil)))))))), fun ds Ψ hl hc => ?_⟩
  obtain ⟨t, n, rfl, h0, hn, hs, hd, q⟩ := hc
  refine ⟨rfl, rfl, ?_⟩
  exact mk_tab h0 hn hs hd ⟨_, _, .same, q⟩
def c_Mill_rooms (C CT : Addr) : Ct := fun ds M Ψ _ => ∃ t w l, ds = [mill C CT t w l] ∧ l.length ≤ 230000 ∧ (∀ v ∈ l, Sm 6 v ∧ det4 v ≠ 0) ∧ ∀ p, M p = none → Ψ (.ref p) (updM M p (.lst (l.map (tab CT))))
def tbB (CT : Addr) (d : D) : D := match d with
  | .tpl l => .obj CT [("whole", .tup l)]
  | d => d
theorem tbB_map (CT : Addr) (l : List T4) : (l.map tP).map (tbB CT) = l.map (tab CT) := by rw [List.map_map]; rfl
theorem ok_Mill_rooms {f : Addr} {fd : FuncData} {dvs : List V} {kws : List (Str × V)} (T : Txt K mg) (h_table_with : Gf P w K mg base "table_with" 5 (c_table_with (He.ga K "Table")) b_table_with) (F : FnZ K "rooms" "Mill.rooms" s_Mill_rooms dvs kws f fd) : FnOk P w K mg base (L2.CX P w) 6 f fd ["self"] (spC K (["self"] : List Str).length (c_Mill_rooms (He.ga K "Mill") (He.ga K "Table"))) := by
  have hnd := sc_Mill_rooms.nd
  refine fnD F sc_Mill_rooms (c_Mill_rooms (He.ga K "Mill") (He.ga K "Table")) fun cdv A outer s H E B Ξ hr z => ⟨_, (dss_one (ds_ret (de_lcM rfl hnd (di_list (de_ix (de_fld T.cl_Mill T.na_Mill_machine (de_var (i := 0))) de_int)) (blkOk_by (own := [("entries", 1)]) (by rfl)) (tg_name (i := 1) (by decide)) (fun _ _ _ _ _ => (pg_name (i := 1) hnd rfl (by first | exact Or.inl rfl | exact Or.inr rfl) (by first | exact .inl rfl | exact .inr rfl))) (fun _ _ _ _ _ _ => dts_nil) (fun _ _ _ _ _ _ => (de_call h_table_with hr zx_blk (List.Mem.head _) (da_cons (de_wk (de_var (i := 1))) da_nil)))))), fun ds Ψ hl hc => ?_⟩
  obtain ⟨t, w, l, rfl, hl, hv, q⟩ := hc
  refine compD_map (xs := l.map tP) (S := fun M => lstOf M (.lst (l.map tP)) = some (l.map tP)) (fun K h => ⟨rfl, optK_of (d := mcD (mtu t) w l) (by rfl) (mc_2 ⟨_, rfl, h⟩)⟩) (tbB (He.ga K "Table")) rfl (by rw [List.length_map]; exact Nat.le_trans (show l.length ≤ 1000000 by omega) big_ok) (fun d hd Q h => ?_) ?_
  · obtain ⟨v, hm, rfl⟩ := List.mem_map.mp hd
    obtain ⟨a, b⟩ := hv v hm
    exact ⟨rfl, rfl, v, 6, rfl, by decide, by decide, a, b, h⟩
  rw [tbB_map]
  intro p hp
  refine ⟨_, _, .same, q p hp⟩
def c__law_all : Ct := fun ds M Ψ _ => ∃ n : Nat, ds = [.int (n : Nat)] ∧ n ≤ 10 ∧ Ψ (.lst ((allW n).map wdD)) M
theorem ok__law_all {f : Addr} {fd : FuncData} {dvs : List V} {kws : List (Str × V)} (T : Txt K mg)  (F : FnZ K "_law_all" "_law_all" s__law_all dvs kws f fd) : FnOk P w K mg base (L2.CX P w) 2 f fd ["_law_length"] (spC K (["_law_length"] : List Str).length (c__law_all)) := by
  have hnd := sc__law_all.nd
  refine fnD F sc__law_all (c__law_all) fun cdv A outer s H E B Ξ hr z => ⟨_, (dss_cons (ds_set (i := 1) hnd (de_lst (da_cons de_str da_nil)))
    (dss_cons (ds_for z.po rfl (di_range1 T.n_range (da_cons (de_var (i := 0)) da_nil)) (dg_name (i := 2) hnd) (dss_cons (ds_set (i := 3) hnd (de_lst da_nil))
    (dss_cons (ds_for z.po rfl (di_list (de_var (i := 1))) (dg_name (i := 4) hnd) (dss_one (ds_set (i := 3) hnd (de_add (de_var (i := 3)) (de_lc rfl hnd (di_str de_str) (blkOk_by (own := [("_law_side", 5)]) (by rfl)) (tg_name (i := 5) (by decide)) (fun _ _ _ _ _ => (pg_name (i := 5) hnd rfl (by first | exact Or.inl rfl | exact Or.inr rfl) (by first | exact .inl rfl | exact .inr rfl))) (fun _ _ _ _ _ _ => dts_nil) (fun _ _ _ _ _ _ => (de_add (de_var (i := 4)) (de_var (i := 5)))))))))
    (dss_one (ds_set (i := 1) hnd (de_var (i := 3)))))))
    (dss_one (ds_ret (de_var (i := 1)))))), fun ds Ψ hl hc => ?_⟩
  obtain ⟨n, rfl, hn, q⟩ := hc
  rw [show ent (["_law_length", "_law_found", "_law_step", "_law_more", "_law_token", "_law_side"] : List Str).length [.int (n : Nat)] = [some (.int (n : Nat)), none, none, none, none, none] from rfl]
  try dsimp only [List.set, getS_z, getS_s, bin2, bin2T, ltD, leD, gtD, geD, cmp_i, add_i, sub_i, min2_i, max2_i]
  have big1 : ∀ n : Nat, n ≤ 1000000 → n ≤ sizeLine := fun n h => Nat.le_trans h big_ok
  have al : ∀ i, i ≤ 10 → (allW i).length ≤ 1024 := fun i hi => by
    rw [allW_len]
    exact Nat.le_trans (Nat.pow_le_pow_right (by decide) hi) (by decide)
  refine ⟨ln (n := 1) rfl (by decide), ?_⟩
  refine forD_n (xs := rngD 0 n) (S := fun _ => True) (fun K h => ⟨⟨by omega, by omega⟩, h⟩) (fun i r M' => M' = B.M ∧ i ≤ n ∧ ∃ o2 o3 o4 o5 : Option D, r = [some (.int (n : Nat)), some (.lst ((allW i).map wdD)), o2, o3, o4, o5]) ⟨rfl, Nat.zero_le _, _, _, _, _, rfl⟩ (fun _ _ _ _ => trivial) (fun i d r M' hd hI => ?_) (fun r M' hI => ?_)
  · obtain ⟨rfl, hi, o2, o3, o4, o5, rfl⟩ := hI
    have hi : i < n := by
      have := (List.getElem?_eq_some_iff.mp hd).1
      rwa [rng_len] at this
    try dsimp only [List.set, getS_z, getS_s, bin2, bin2T, ltD, leD, gtD, geD, cmp_i, add_i, sub_i, min2_i, max2_i]
    have ai := al i (by omega)
    refine ⟨ln (n := 0) rfl (by decide), ?_⟩
    refine forD_n (xs := (allW i).map wdD) (S := fun M => lstOf M (.lst ((allW i).map wdD)) = some ((allW i).map wdD)) (fun K h => ⟨_, rfl, h⟩) (fun j r M' => M' = B.M ∧ ∃ o4 o5 : Option D, r = [some (.int (n : Nat)), some (.lst ((allW i).map wdD)), some d, some (.lst ((((allW i).take j).flatMap fun w => [w ++ [76], w ++ [82]]).map wdD)), o4, o5]) ⟨rfl, _, _, rfl⟩ (fun _ _ _ _ => rfl) (fun j d2 r M' hd2 hI => ?_) (fun r M' hI => ?_)
    · obtain ⟨rfl, o4, o5, rfl⟩ := hI
      rw [List.getElem?_map] at hd2
      obtain ⟨w, hw, rfl⟩ := Option.map_eq_some_iff.mp hd2
      have hwl := allW_mem.mp (List.mem_of_getElem? hw)
      have tl : (((allW i).take j).flatMap fun w => [w ++ [76], w ++ [82]]).length ≤ 2048 := by
        have gen : ∀ l : List (List Nat), (l.flatMap fun w => [w ++ [76], w ++ [82]]).length = 2 * l.length := by
          intro l
          induction l with
          | nil => rfl
          | cons a l ih => rw [List.flatMap_cons, List.length_append, ih, List.length_cons]; simp; omega
        rw [gen, List.length_take]
        omega
      try dsimp only [List.set, getS_z, getS_s, bin2, bin2T, ltD, leD, gtD, geD, cmp_i, add_i, sub_i, min2_i, max2_i]
      refine compD_two (xs := [76, 82].map fun c => D.str ⟨#[c]⟩) (ys := ([76, 82].map fun c => wdD (w ++ [c]))) (S := fun _ => True) (fun K h => h) trivial (big1 _ (by decide)) ?_ ?_
      · refine two_map fun c hc Q hQ => ?_
        dsimp only [asN, wipeD, List.map, List.set]
        try dsimp only [List.set, getS_z, getS_s, bin2, bin2T, ltD, leD, gtD, geD, cmp_i, add_i, sub_i, min2_i, max2_i]
        exact add_w (u := [c]) (by omega) (by simp) hQ
      refine add_LL rfl rfl (by rw [List.length_map, List.length_map]; exact big1 _ (by have : ([76, 82] : List Nat).length = 2 := rfl; omega)) ?_
      have e2 : (((allW i).take (j + 1)).flatMap fun w => [w ++ [76], w ++ [82]]) = (((allW i).take j).flatMap fun w => [w ++ [76], w ++ [82]]) ++ [w ++ [76], w ++ [82]] := by
        rw [List.take_add_one, hw, List.flatMap_append]
        simp
      refine .of ⟨rfl, some (wdD w), o5, ?_⟩
      rw [e2, List.map_append]
      rfl
    · obtain ⟨rfl, o4, o5, rfl⟩ := hI
      rw [List.length_map, List.take_length]
      try dsimp only [List.set, getS_z, getS_s, bin2, bin2T, ltD, leD, gtD, geD, cmp_i, add_i, sub_i, min2_i, max2_i]
      exact .of ⟨rfl, hi, _, _, _, _, rfl⟩
  · obtain ⟨rfl, hi, o2, o3, o4, o5, rfl⟩ := hI
    rw [rng_len]
    try dsimp only [List.set, getS_z, getS_s, bin2, bin2T, ltD, leD, gtD, geD, cmp_i, add_i, sub_i, min2_i, max2_i]
    exact ⟨_, _, .same, q⟩
def c_is_within : Ct := fun ds M Ψ _ => ∃ d t a b, ds = [d, .int a, .int b] ∧ tyN M d = some t ∧ Ψ (.bl (inB d a b)) M
theorem ok_is_within {f : Addr} {fd : FuncData} {dvs : List V} {kws : List (Str × V)} (T : Txt K mg) (h_is_integer : Gf P w K mg base "is_integer" 2 (c_is_integer) b_is_integer) (F : FnZ K "is_within" "is_within" s_is_within dvs kws f fd) : FnOk P w K mg base (L2.CX P w) 3 f fd ["value", "least", "most"] (spC K (["value", "least", "most"] : List Str).length (c_is_within)) := by
  have hnd := sc_is_within.nd
  refine fnD F sc_is_within (c_is_within) fun cdv A outer s H E B Ξ hr z => ⟨_, (dss_one (ds_ret (de_and (de_call h_is_integer hr z (List.Mem.head _) (da_cons (de_var (i := 0)) da_nil)) (de_and1 (de_chain oc_le oc_le (de_var (i := 1)) (de_var (i := 0)) (de_var (i := 2))))))), fun ds Ψ hl hc => ?_⟩
  obtain ⟨d, t, a, b, rfl, ht, q⟩ := hc
  refine ⟨rfl, rfl, d, t, rfl, ht, ?_⟩
  by_cases e : t = "int"
  · subst e
    obtain ⟨i, rfl⟩ := ty_int ht
    refine bl_t (decide_eq_true ht) ?_
    by_cases h1 : a ≤ i
    · have e : inB (.int i) a b = decide (i ≤ b) := by show (decide (a ≤ i) && decide (i ≤ b)) = _; rw [decide_eq_true h1]; rfl
      refine bl_t (decide_eq_true h1) ?_
      refine bl_c (fun h2 => ?_) (fun h2 => ?_)
      · rw [e, show decide (i ≤ b) = true from h2] at q
        exact ⟨_, _, .same, q⟩
      · rw [e, show decide (i ≤ b) = false from h2] at q
        exact ⟨_, _, .same, q⟩
    · refine bl_f (decide_eq_false h1) ?_
      refine ⟨_, _, .same, ?_⟩
      have e : inB (.int i) a b = false := by show (decide (a ≤ i) && decide (i ≤ b)) = _; rw [decide_eq_false h1]; rfl
      rw [e] at q
      exact q
  · have e0 : isIn B.M d = false := decide_eq_false (by rw [ht]; simp [e])
    refine bl_f e0 ?_
    refine ⟨_, _, .same, ?_⟩
    have e2 : inB d a b = false := by
      cases d <;> first | rfl | (cases ht; exact absurd rfl e)
    rw [e2] at q
    exact q
def c_is_word : Ct := fun ds M Ψ _ => ∃ d t, ds = [d] ∧ tyN M d = some t ∧ (∀ x, d = .str x → x.cps.size ≤ 1000000) ∧ Ψ (.bl (wB d)) M
theorem ok_is_word {f : Addr} {fd : FuncData} {dvs : List V} {kws : List (Str × V)} (T : Txt K mg)  (F : FnZ K "is_word" "is_word" s_is_word dvs kws f fd) : FnOk P w K mg base (L2.CX P w) 2 f fd ["value"] (spC K (["value"] : List Str).length (c_is_word)) := by
  have hnd := sc_is_word.nd
  refine fnD F sc_is_word (c_is_word) fun cdv A outer s H E B Ξ hr z => ⟨_, (dss_one (ds_ret (de_and (de_isi T.n_isinstance (da_cons (de_var (i := 0)) (da_cons (de_ty (n := "str") T.n_str (by decide +kernel)) da_nil))) (de_and1 (de_all1 rfl T.n_all (da_cons (de_lc rfl hnd (di_str (de_var (i := 0))) (blkOk_by (own := [("turn", 1)]) (by rfl)) (tg_name (i := 1) (by decide)) (fun _ _ _ _ _ => (pg_name (i := 1) hnd rfl (by first | exact Or.inl rfl | exact Or.inr rfl) (by first | exact .inl rfl | exact .inr rfl))) (fun _ _ _ _ _ _ => dts_nil) (fun _ _ _ _ _ _ => (de_in hr (de_var (i := 1)) (de_gstr T.k_TURNS)))) da_nil)))))), fun ds Ψ hl hc => ?_⟩
  obtain ⟨d, t, rfl, ht, hz, q⟩ := hc
  refine ⟨by decide, t, ht, ?_⟩
  by_cases e : t = "str"
  · subst e
    obtain ⟨x, rfl⟩ := ty_str ht
    refine bl_t (by rfl) ?_
    refine compD_map (xs := Z.signs x) (fun K h => h) (fun d => match d with | .str z => .bl (decide ((z.cps.toList.headD 0) ∈ ("LR" : Str).cps.toList)) | _ => .non) trivial (by rw [signs_len]; exact Nat.le_trans (hz x rfl) big_ok) (fun d hd Q q => ?_) ?_
    · obtain ⟨c, _, rfl⟩ := signs_mem hd
      exact ⟨c, rfl, q⟩
    · refine ⟨x.cps.toList.map fun c => decide (c ∈ ("LR" : Str).cps.toList), ?_, _, _, .same, ?_⟩
      · show some _ = some _
        unfold Z.signs
        rw [List.map_map, List.map_map]
        rfl
      · rw [List.all_map]
        exact q
  · have e0 : isB t "str" = false := by
      have h7 := tyN_ok ht
      simp only [okTy, List.mem_cons, List.not_mem_nil, or_false] at h7
      rcases h7 with rfl | rfl | rfl | rfl | rfl | rfl | rfl
      all_goals first
        | rfl
        | exact absurd rfl e
    refine bl_f e0 ?_
    refine ⟨_, _, .same, ?_⟩
    have e2 : wB d = false := by
      cases d <;> first | rfl | (cases ht; exact absurd rfl e)
    rw [e2] at q
    exact q
def tuB (d : D) : Bool := match d with
  | .str x => wB (.str x) && decide ((x.length : Int) = 1)
  | _ => false
def c_is_turn : Ct := fun ds M Ψ _ => ∃ d t, ds = [d] ∧ tyN M d = some t ∧ (∀ x, d = .str x → x.cps.size ≤ 1000000) ∧ Ψ (.bl (tuB d)) M
theorem ok_is_turn {f : Addr} {fd : FuncData} {dvs : List V} {kws : List (Str × V)} (T : Txt K mg) (h_is_word : Gf P w K mg base "is_word" 2 (c_is_word) b_is_word) (F : FnZ K "is_turn" "is_turn" s_is_turn dvs kws f fd) : FnOk P w K mg base (L2.CX P w) 3 f fd ["value"] (spC K (["value"] : List Str).length (c_is_turn)) := by
  have hnd := sc_is_turn.nd
  refine fnD F sc_is_turn (c_is_turn) fun cdv A outer s H E B Ξ hr z => ⟨_, (dss_one (ds_ret (de_and (de_call h_is_word hr z (List.Mem.head _) (da_cons (de_var (i := 0)) da_nil)) (de_and1 (de_eq hr (de_len T.n_len (da_cons (de_var (i := 0)) da_nil)) de_int))))), fun ds Ψ hl hc => ?_⟩
  obtain ⟨d, t, rfl, ht, hz, q⟩ := hc
  refine ⟨rfl, rfl, d, t, rfl, ht, hz, ?_⟩
  refine bl_c (fun e => ?_) (fun e => ?_)
  · match d, e, hz, q with
    | .str x, e, hz, q =>
      refine ⟨one_le_size (hz x rfl), ?_⟩
      have et : tuB (.str x) = decide ((x.length : Int) = 1) := by
        show (wB (.str x) && decide ((x.length : Int) = 1)) = _
        rw [e, Bool.true_and]
      rw [et] at q
      refine eqI ?_
      exact ⟨_, _, .same, q⟩
  · have : tuB d = false := by
      unfold tuB
      split
      · rw [e]; rfl
      · rfl
    rw [this] at q
    refine ite_f rfl ?_
    exact ⟨_, _, .same, q⟩
def c_check_turn (CW : Addr) : Ct := fun ds M Ψ Ξ => ∃ d t, ds = [d] ∧ tyN M d = some t ∧ (∀ x, d = .str x → x.cps.size ≤ 1000000) ∧ (tuB d = true → Ψ .non M) ∧ (tuB d = false → Ξ (CW, [("given", d), ("tag", .str "InvalidWord")]) M)
theorem ok_check_turn {f : Addr} {fd : FuncData} {dvs : List V} {kws : List (Str × V)} (T : Txt K mg) (h_is_turn : Gf P w K mg base "is_turn" 3 (c_is_turn) b_is_turn) (x_InvalidWord : Xf P w K mg base "InvalidWord" (He.ga K "InvalidWord") 1 (tag2 "InvalidWord" "given")) (F : FnZ K "check_turn" "check_turn" s_check_turn dvs kws f fd) : FnOk P w K mg base (L2.CX P w) 4 f fd ["value"] (spC K (["value"] : List Str).length (c_check_turn (He.ga K "InvalidWord"))) := by
  have hnd := sc_check_turn.nd
  refine fnD F sc_check_turn (c_check_turn (He.ga K "InvalidWord")) fun cdv A outer s H E B Ξ hr z => ⟨_, (dss_one (ds_if (dt_not (dt_val (de_call h_is_turn hr z (List.Mem.head _) (da_cons (de_var (i := 0)) da_nil)))) (dss_one (ds_raise1 x_InvalidWord hr z rfl (da_cons (de_var (i := 0)) da_nil))) dss_nil)), fun ds Ψ hl hc => ?_⟩
  obtain ⟨d, t, rfl, ht, hz, q1, q2⟩ := hc
  refine ⟨rfl, rfl, d, t, rfl, ht, hz, ?_⟩
  refine bl_c (fun e => ?_) (fun e => ?_)
  · exact ⟨_, _, .same, q1 e⟩
  · exact ⟨_, .same, q2 e⟩
theorem in_nat {d : D} {n : Nat} (h : inB d 0 ((n : Int) - 1) = true) : ∃ i : Nat, d = .int i ∧ i < n := by
  unfold inB at h
  split at h
  · rename_i j
    obtain ⟨a, b⟩ := Bool.and_eq_true_iff.mp h
    have a := of_decide_eq_true a
    have b := of_decide_eq_true b
    exact ⟨j.toNat, by rw [Int.toNat_of_nonneg a], by omega⟩
  · cases h
theorem tu_sign {e : D} (h : tuB e = true) : ∃ c, (c = 76 ∨ c = 82) ∧ e = .str ⟨#[c]⟩ := by
  unfold tuB at h
  split at h
  · rename_i x
    obtain ⟨a, b⟩ := Bool.and_eq_true_iff.mp h
    have b := of_decide_eq_true b
    obtain ⟨⟨cs⟩⟩ := x
    have hl : cs.length = 1 := by
      have : ((⟨⟨cs⟩⟩ : Str).length : Int) = 1 := b
      have : (cs.length : Int) = 1 := this
      omega
    match cs, hl with
    | [c], _ =>
      refine ⟨c, ?_, rfl⟩
      unfold wB at a
      have a2 := List.all_eq_true.mp a c (by simp)
      have a3 := of_decide_eq_true a2
      have e3 : (("LR" : Str)).cps.toList = [76, 82] := by decide +kernel
      rw [e3] at a3
      simpa using a3
  · cases h
def c_Mill_step (C CR CW : Addr) : Ct := fun ds M Ψ Ξ => ∃ CT t w l d e td te, ds = [mill C CT t w l, d, e] ∧ l.length ≤ 230000 ∧ tyN M d = some td ∧ tyN M e = some te ∧ (∀ x, e = .str x → x.cps.size ≤ 1000000) ∧
  (inB d 0 ((l.length : Int) - 1) = false → Ξ (CR, [("given", d), ("tag", .str "InvalidRoom")]) M) ∧ (inB d 0 ((l.length : Int) - 1) = true → tuB e = false → Ξ (CW, [("given", e), ("tag", .str "InvalidWord")]) M) ∧
  ∀ (i : Nat) u c, d = .int i → l[i]? = some u → c = 76 ∨ c = 82 → e = .str ⟨#[c]⟩ → Ψ (stD (mtu t) u l c) M
theorem ok_Mill_step {f : Addr} {fd : FuncData} {dvs : List V} {kws : List (Str × V)} (T : Txt K mg) (h_is_within : Gf P w K mg base "is_within" 3 (c_is_within) b_is_within) (h_check_turn : Gf P w K mg base "check_turn" 4 (c_check_turn (He.ga K "InvalidWord")) b_check_turn) (x_InvalidRoom : Xf P w K mg base "InvalidRoom" (He.ga K "InvalidRoom") 1 (tag2 "InvalidRoom" "given")) (F : FnZ K "step" "Mill.step" s_Mill_step dvs kws f fd) : FnOk P w K mg base (L2.CX P w) 5 f fd ["self", "room", "turn"] (spC K (["self", "room", "turn"] : List Str).length (c_Mill_step (He.ga K "Mill") (He.ga K "InvalidRoom") (He.ga K "InvalidWord"))) := by
  have hnd := sc_Mill_step.nd
  refine fnD F sc_Mill_step (c_Mill_step (He.ga K "Mill") (He.ga K "InvalidRoom") (He.ga K "InvalidWord")) fun cdv A outer s H E B Ξ hr z => ⟨_, (dss_cons (ds_if (dt_not (dt_val (de_call h_is_within hr z (List.Mem.head _) (da_cons (de_var (i := 1)) (da_cons de_int (da_cons (de_sub (de_len T.n_len (da_cons (de_ix (de_fld T.cl_Mill T.na_Mill_machine (de_var (i := 0))) de_int) da_nil)) de_int) da_nil)))))) (dss_one (ds_raise1 x_InvalidRoom hr z rfl (da_cons (de_var (i := 1)) da_nil))) dss_nil)
    (dss_cons (ds_expr (de_call h_check_turn hr z (List.Mem.head _) (da_cons (de_var (i := 2)) da_nil)))
    (dss_one (ds_ret (de_dget hr (de_ix (de_ix (de_fld T.cl_Mill T.na_Mill_machine (de_var (i := 0))) de_int) (de_var (i := 1))) (de_var (i := 2))))))), fun ds Ψ hl hc => ?_⟩
  obtain ⟨CT, t, w, l, d, e, td, te, rfl, hl, hd, he, hz, q1, q2, q3⟩ := hc
  refine ⟨rfl, optK_of (d := mcD (mtu t) w l) (by rfl) ?_⟩
  refine mc_2 ?_
  unfold lenD
  dsimp only
  rw [List.length_map]
  try dsimp only [List.set, getS_z, getS_s, bin2, bin2T, ltD, leD, gtD, geD, cmp_i, add_i, sub_i, min2_i, max2_i]
  refine ⟨rfl, rfl, d, td, 0, (l.length : Int) - 1, rfl, hd, ?_⟩
  refine bl_c (fun h => ?_) (fun h => ?_)
  rotate_left
  · refine ite_t rfl ?_
    exact ⟨_, .same, q1 h⟩
  refine ite_f rfl ?_
  refine ⟨rfl, rfl, e, te, rfl, he, hz, fun h2 => ?_, fun h2 => ⟨_, .same, q2 h h2⟩⟩
  obtain ⟨i, rfl, hi⟩ := in_nat h
  obtain ⟨c, hc2, rfl⟩ := tu_sign h2
  obtain ⟨u, hu⟩ : ∃ u, l[i]? = some u := ⟨_, List.getElem?_eq_getElem hi⟩
  refine ⟨rfl, optK_of (d := mcD (mtu t) w l) (by rfl) ?_⟩
  refine mc_3 ?_
  refine ix_ln (M := B.M) (l := l.map (rwD (mtu t) l)) (x := rwD (mtu t) l u) (by rw [List.getElem?_map, hu]; rfl) ?_
  refine ⟨_, stD (mtu t) u l c, rfl, ?_, .inl ⟨_, rfl⟩, _, _, .same, q3 i u c rfl hu hc2 rfl⟩
  exact rw_look hc2
def c__law_walk (C : Addr) : Ct := fun ds M Ψ _ => ∃ (n : Nat) (CT : Addr) (t : T4) (w : List Nat) (l : List T4) (u v : T4) (i : Nat) (x : List Nat), ds = [mill C CT t w l, .int i, .str ⟨x.toArray⟩] ∧ Fd (n : Int) (mtu t) w l u ∧ n ≤ 20 ∧ l[i]? = some v ∧ l.Nodup ∧ LR x ∧ x.length ≤ 40 ∧ Ψ (.tup [.str ⟨(tlS (mtu t) v x).toArray⟩, .int (l.idxOf (goS (mtu t) v x) : Nat)]) M
theorem ok__law_walk {f : Addr} {fd : FuncData} {dvs : List V} {kws : List (Str × V)} (T : Txt K mg) (h_Mill_step : Mf P w K mg base (He.ga K "Mill") "step" 5 (c_Mill_step (He.ga K "Mill") (He.ga K "InvalidRoom") (He.ga K "InvalidWord")) b_Mill_step) (F : FnZ K "_law_walk" "_law_walk" s__law_walk dvs kws f fd) : FnOk P w K mg base (L2.CX P w) 6 f fd ["_law_wheel", "_law_place", "_law_token"] (spC K (["_law_wheel", "_law_place", "_law_token"] : List Str).length (c__law_walk (He.ga K "Mill"))) := by
  have hnd := sc__law_walk.nd
  refine fnD F sc__law_walk (c__law_walk (He.ga K "Mill")) fun cdv A outer s H E B Ξ hr z => ⟨_, (dss_cons (ds_set (i := 3) hnd de_str)
    (dss_cons (ds_for z.po rfl (di_str (de_var (i := 2))) (dg_name (i := 4) hnd) (dss_cons (ds_asg (de_meth h_Mill_step T.cl_Mill hr z (List.Mem.head _) (de_var (i := 0)) (da_cons (de_var (i := 1)) (da_cons (de_var (i := 4)) da_nil))) (dg_tup (n := 2) rfl (dgs_cons (dg_name (i := 5) hnd) (dgs_cons (dg_name (i := 1) hnd) dgs_nil))))
    (dss_one (ds_set (i := 3) hnd (de_add (de_var (i := 3)) (de_var (i := 5)))))))
    (dss_one (ds_ret (de_tup (da_cons (de_var (i := 3)) (da_cons (de_var (i := 1)) da_nil))))))), fun ds Ψ hl hc => ?_⟩
  obtain ⟨n, CT, t, w, l, u, v, i, x, rfl, fd0, hn, hv, nd, lx, hx, q⟩ := hc
  rw [show ent (["_law_wheel", "_law_place", "_law_token", "_law_told", "_law_side", "_law_part"] : List Str).length [mill (He.ga K "Mill") CT t w l, .int i, .str ⟨x.toArray⟩] = [some (mill (He.ga K "Mill") CT t w l), some (.int i), some (.str ⟨x.toArray⟩), none, none, none] from rfl]
  try dsimp only [List.set, getS_z, getS_s, bin2, bin2T, ltD, leD, gtD, geD, cmp_i, add_i, sub_i, min2_i, max2_i]
  have hi : l.idxOf v = i := by
    obtain ⟨h1, h2⟩ := List.getElem?_eq_some_iff.mp hv
    rw [← h2]
    exact nd.idxOf_getElem i h1
  have hvl : v ∈ l := List.mem_of_getElem? hv
  have n0 : 0 < n := by have := fd0.pos; omega
  have few := fd0.few
  have sgl : (Z.signs ⟨x.toArray⟩).length = x.length := by rw [signs_len]; exact List.size_toArray
  have mem : ∀ i, goS (mtu t) v (x.take i) ∈ l := fun i => goS_mem fd0.cl (fun c hc => lx c (List.mem_of_mem_take hc)) hvl
  have pre : ∀ i, (tlS (mtu t) v (x.take i)).length ≤ 800 := fun i => by
    have h1 := tlS_n (tu := mtu t) n0 hn (x.take i) (fd0.rm v hvl)
    have h2 : (x.take i).length * n ≤ 40 * 20 := Nat.mul_le_mul (by rw [List.length_take]; omega) hn
    omega
  rw [← hi]
  refine forD_n (xs := Z.signs ⟨x.toArray⟩) (S := fun _ => True) (fun K h => h) (fun i e M' => M' = B.M ∧ ∃ (o4 o5 : Option D), e = [some (mill (He.ga K "Mill") CT t w l), some (.int (l.idxOf (goS (mtu t) v (x.take i)) : Nat)), some (.str ⟨x.toArray⟩), some (.str ⟨(tlS (mtu t) v (x.take i)).toArray⟩), o4, o5]) ⟨rfl, none, none, rfl⟩ (fun _ _ _ _ => trivial) (fun i d e M' hd' hI => ?_) (fun e M' hI => ?_)
  · obtain ⟨rfl, o4, o5, rfl⟩ := hI
    obtain ⟨c, hc, rfl⟩ := signs_get hd'
    have hc : x[i]? = some c := hc
    have hlr := lx c (List.mem_of_getElem? hc)
    have hg := mem i
    obtain ⟨g1, _⟩ := idx_at hg
    have hin : inB (.int (l.idxOf (goS (mtu t) v (x.take i)) : Nat)) 0 ((l.length : Int) - 1) = true := by
      have := List.idxOf_lt_length_iff.mpr hg
      unfold inB
      simp
      omega
    have st : tuB (.str ⟨#[c]⟩) = true := by rcases hlr with rfl | rfl <;> decide +kernel
    try dsimp only [List.set, getS_z, getS_s, bin2, bin2T, ltD, leD, gtD, geD, cmp_i, add_i, sub_i, min2_i, max2_i]
    refine ⟨rfl, no_mill, rfl, rfl, _, _, _, _, .int (l.idxOf (goS (mtu t) v (x.take i)) : Nat), .str ⟨#[c]⟩, "int", "str", rfl, by omega, rfl, rfl, (fun x e => by cases e; show (1 : Nat) ≤ 1000000; decide), (fun z => by rw [hin] at z; cases z), (fun _ z => by rw [st] at z; cases z), fun j u2 c2 ej hj hc2 ec => ?_⟩
    have ej : j = l.idxOf (goS (mtu t) v (x.take i)) := by injection ej with ej; omega
    subst ej
    rw [g1] at hj
    cases hj
    have ec : c2 = c := by injection ec with ec; injection ec with ec; simpa using ec.symm
    subst ec
    refine ⟨rfl, rfl, ?_⟩
    try dsimp only [List.set, getS_z, getS_s, bin2, bin2T, ltD, leD, gtD, geD, cmp_i, add_i, sub_i, min2_i, max2_i]
    have e1 : tlS (mtu t) v (x.take (i + 1)) = tlS (mtu t) v (x.take i) ++ tld (mtu t) (goS (mtu t) v (x.take i)) c2 := by
      rw [take_sn hc, tlS_app]
      show _ ++ (_ ++ []) = _
      rw [List.append_nil]
    have p1 := pre (i + 1)
    rw [e1, List.length_append] at p1
    refine add_w (by omega) (by omega) ?_
    refine .of ⟨rfl, some (.str ⟨#[c2]⟩), some (.str ⟨(tld (mtu t) (goS (mtu t) v (x.take i)) c2).toArray⟩), ?_⟩
    rw [e1, take_sn hc, go_snoc]
  obtain ⟨rfl, o4, o5, rfl⟩ := hI
  rw [sgl, List.take_length]
  exact ⟨ln (n := 2) rfl (by decide), _, _, .same, q⟩
def c_Table_plain (C : Addr) : Ct := fun ds M Ψ _ => ∃ t n, ds = [tab C t] ∧ 0 < n ∧ n ≤ 8000 ∧ Sm n t ∧ det4 t ≠ 0 ∧ Ψ (tab C (pl4 t)) M
theorem gN_small {t : T4} {n : Nat} (hs : Sm n t) (hd : det4 t ≠ 0) : gN (iL t) ≠ 0 ∧ gN (iL t) < 2 ^ n := by
  obtain ⟨x, hx, h0⟩ := det_ne hd
  have h1 := gN_dvd hx
  have h2 : gN (iL t) ≠ 0 := fun z => h0 (gN_zero z x hx)
  have h3 := Nat.le_of_dvd (by omega) h1
  have h4 : x.natAbs < 2 ^ n := by
    unfold iL at hx
    simp only [List.mem_cons, List.not_mem_nil, or_false] at hx
    rcases hx with rfl | rfl | rfl | rfl
    · exact hs.1
    · exact hs.2.1
    · exact hs.2.2.1
    · exact hs.2.2.2
  exact ⟨h2, Nat.lt_of_le_of_lt h3 h4⟩
theorem dok_g {t : T4} {n : Nat} (hs : Sm n t) (hd : det4 t ≠ 0) (hn : n ≤ 8000) : Dok (gN (iL t)) := by
  obtain ⟨h1, h2⟩ := gN_small hs hd
  exact dok_of (n := n) (by omega) (by rw [Int.natAbs_natCast]; exact h2) (by omega)
theorem dv_ne {t : T4} (hd : det4 t ≠ 0) : ∃ x ∈ dvL (gN (iL t)) (iL t), x ≠ 0 := by
  obtain ⟨x, hx, h0⟩ := det_ne hd
  have hg : 0 < gN (iL t) := Nat.pos_of_ne_zero fun z => h0 (gN_zero z x hx)
  refine ⟨x.fdiv (gN (iL t)), List.mem_map.mpr ⟨x, hx, rfl⟩, fun z => h0 ?_⟩
  have := fdiv_ex hg (gN_dvd hx)
  rw [z, Int.mul_zero] at this
  exact this.symm
def ngB (d : D) : D := match d with
  | .int j => .int (-j)
  | d => d
theorem ngB_map (l : List Int) : (l.map D.int).map ngB = (ngL l).map D.int := by unfold ngL; rw [List.map_map, List.map_map]; rfl
theorem pl_pos {t : T4} (h : 0 < lead (dvL (gN (iL t)) (iL t))) : D.tup ((dvL (gN (iL t)) (iL t)).map .int) = tD (pl4 t) := by
  have e : plL (iL t) = dvL (gN (iL t)) (iL t) := by unfold plL; rw [if_pos h]
  rw [← e, ← iL_pl]; rfl
theorem pl_neg {t : T4} (h : ¬ 0 < lead (dvL (gN (iL t)) (iL t))) : D.tup ((ngL (dvL (gN (iL t)) (iL t))).map .int) = tD (pl4 t) := by
  have e : plL (iL t) = ngL (dvL (gN (iL t)) (iL t)) := by unfold plL; rw [if_neg h]
  rw [← e, ← iL_pl]; rfl
theorem ok_Table_plain {f : Addr} {fd : FuncData} {dvs : List V} {kws : List (Str × V)} (T : Txt K mg) (h_divided : Gf P w K mg base "divided" 3 (c_divided) b_divided) (h_table_with : Gf P w K mg base "table_with" 5 (c_table_with (He.ga K "Table")) b_table_with) (F : FnZ K "plain" "Table.plain" s_Table_plain dvs kws f fd) : FnOk P w K mg base (L2.CX P w) 6 f fd ["self"] (spC K (["self"] : List Str).length (c_Table_plain (He.ga K "Table"))) := by
  have hnd := sc_Table_plain.nd
  refine fnD F sc_Table_plain (c_Table_plain (He.ga K "Table")) fun cdv A outer s H E B Ξ hr z => ⟨_, (dss_cons (ds_set (i := 1) hnd (de_call h_divided hr z (List.Mem.head _) (da_cons (de_fld T.cl_Table T.na_Table_whole (de_var (i := 0))) da_nil)))
    (dss_cons (ds_set (i := 2) hnd (de_ix (de_lc rfl hnd (di_tup (de_var (i := 1))) (blkOk_by (own := [("entry", 3)]) (by rfl)) (tg_name (i := 3) (by decide)) (fun _ _ _ _ _ => (pg_name (i := 3) hnd rfl (by first | exact Or.inl rfl | exact Or.inr rfl) (by first | exact .inl rfl | exact .inr rfl))) (fun _ _ _ _ _ _ => (dts_one (dt_ne hr (de_var (i := 3)) de_int))) (fun _ _ _ _ _ _ => (de_var (i := 3)))) de_int))
    (dss_one (ds_ret (de_call h_table_with hr z (List.Mem.head _) (da_cons (de_if (dt_gt (de_var (i := 2)) de_int) (de_var (i := 1)) (de_tuple1 T.n_tuple (da_cons (de_lc rfl hnd (di_tup (de_var (i := 1))) (blkOk_by (own := [("entry", 3)]) (by rfl)) (tg_name (i := 3) (by decide)) (fun _ _ _ _ _ => (pg_name (i := 3) hnd rfl (by first | exact Or.inl rfl | exact Or.inr rfl) (by first | exact .inl rfl | exact .inr rfl))) (fun _ _ _ _ _ _ => dts_nil) (fun _ _ _ _ _ _ => (de_neg (de_var (i := 3))))) da_nil))) da_nil)))))), fun ds Ψ hl hc => ?_⟩
  obtain ⟨t, n, rfl, h0, hn, hs, hd, q⟩ := hc
  refine ⟨rfl, fld_hd ⟨rfl, rfl, iL t, rfl, (show 4 ≤ 1000000 by decide), dok_g hs hd hn, ?_⟩⟩
  have hl4 : (dvL (gN (iL t)) (iL t)).length = 4 := by unfold dvL; rw [List.length_map]; rfl
  refine compD_fm (xs := (dvL (gN (iL t)) (iL t)).map .int) (S := fun _ => True) (fun K h => ⟨_, rfl, h⟩) nzB (fun d => d) trivial (ln (n := 4) ((List.length_map _).trans hl4) (by decide)) (fun d hd Q R h => ?_) ?_
  · obtain ⟨x, hx, rfl⟩ := List.mem_map.mp hd
    refine neI ?_
    refine bl_c (fun e => ?_) (fun e => ?_)
    · rw [if_pos (show nzB (.int x) = true from by simpa [nzB] using e)] at h
      exact h
    · rw [if_neg (by simpa [nzB] using e)] at h
      exact h
  rw [List.map_id', filt_nz]
  refine optK_of (at0_lead (dv_ne hd)) ?_
  refine bl_c (fun e => ?_) (fun e => ?_)
  · rw [pl_pos (of_decide_eq_true e)]
    exact ⟨rfl, rfl, pl4 t, n, rfl, h0, by omega, sm_pl hd hs, det_pl hd, _, _, .same, q⟩
  · refine compD_map (xs := (dvL (gN (iL t)) (iL t)).map .int) (S := fun _ => True) (fun K h => ⟨_, rfl, h⟩) ngB trivial (ln (n := 4) ((List.length_map _).trans hl4) (by decide)) (fun d hd Q h => ?_) ?_
    · obtain ⟨x, hx, rfl⟩ := List.mem_map.mp hd
      exact h
    rw [ngB_map]
    refine ⟨_, rfl, ?_⟩
    rw [pl_neg (of_decide_eq_false e)]
    exact ⟨rfl, rfl, pl4 t, n, rfl, h0, by omega, sm_pl hd hs, det_pl hd, _, _, .same, q⟩
def c_Tabled_eqd (C : Addr) : Ct := fun ds M Ψ _ => ∃ s y, ds = [tab C s, y] ∧ ((∃ t, y = tab C t ∧ Ψ (.bl (decide (s = t))) M) ∨ ((∃ t, tyN M y = some t) ∧ Ψ (.bl false) M))
theorem mono_Tabled_eqd {C : Addr} : Mono (c_Tabled_eqd C) := fun ds M Ψ Ψ' Ξ Ξ' h _ ⟨s, y, e, q⟩ => ⟨s, y, e, q.imp (fun ⟨t, e, q⟩ => ⟨t, e, h _ _ q⟩) fun ⟨a, q⟩ => ⟨a, h _ _ q⟩⟩
theorem ok_Tabled_eqd {f : Addr} {fd : FuncData} {dvs : List V} {kws : List (Str × V)} (T : Txt K mg)  (F : FnZ K "__eq__" "Table.__eq__" s_Tabled_eqd dvs kws f fd) : FnOk P w K mg base (L2.CX P w) 2 f fd ["self", "other"] (spC K (["self", "other"] : List Str).length (c_Tabled_eqd (He.ga K "Table"))) := by
  have hnd := sc_Tabled_eqd.nd
  refine fnD F sc_Tabled_eqd (c_Tabled_eqd (He.ga K "Table")) fun cdv A outer s H E B Ξ hr z => ⟨_, (dss_one (ds_ret (de_and (de_isio T.n_isinstance T.io_Table (da_cons (de_var (i := 1)) (da_cons (de_glob T.gl_Table (v := .ref (He.ga _ "Table")) rfl (fun _ => .ref)) da_nil))) (de_and1 (de_eq hr (de_fld T.cl_Table T.na_Table_whole (de_var (i := 0))) (de_fld T.cl_Table T.na_Table_whole (de_var (i := 1)))))))), fun ds Ψ hl hc => ?_⟩
  obtain ⟨s, y, rfl, q⟩ := hc
  rcases q with ⟨t, rfl, q⟩ | ⟨⟨t, ht⟩, q⟩
  · refine ⟨rfl, .inl ⟨_, rfl, ?_⟩⟩
    refine bl_t rfl ?_
    exact ⟨rfl, fld_hd ⟨rfl, fld_hd (eqT ⟨_, _, .same, q⟩)⟩⟩
  · refine ⟨rfl, .inr ⟨t, ht, ?_⟩⟩
    refine bl_f rfl ?_
    exact ⟨_, _, .same, q⟩
def c_Table_alike (C : Addr) : Ct := fun ds M Ψ _ => ∃ s t n, ds = [tab C s, tab C t] ∧ 0 < n ∧ n ≤ 8000 ∧ Sm n s ∧ Sm n t ∧ det4 s ≠ 0 ∧ det4 t ≠ 0 ∧ Ψ (.bl (decide (pl4 s = pl4 t))) M
theorem ok_Table_alike {f : Addr} {fd : FuncData} {dvs : List V} {kws : List (Str × V)} (T : Txt K mg) (h_Table_plain : Mf P w K mg base (He.ga K "Table") "plain" 6 (c_Table_plain (He.ga K "Table")) b_Table_plain) (h_Tabled_eqd : Mf P w K mg base (He.ga K "Table") "__eq__" 2 (c_Tabled_eqd (He.ga K "Table")) b_Tabled_eqd) (F : FnZ K "alike" "Table.alike" s_Table_alike dvs kws f fd) : FnOk P w K mg base (L2.CX P w) 7 f fd ["self", "other"] (spC K (["self", "other"] : List Str).length (c_Table_alike (He.ga K "Table"))) := by
  have hnd := sc_Table_alike.nd
  refine fnD F sc_Table_alike (c_Table_alike (He.ga K "Table")) fun cdv A outer s H E B Ξ hr z => ⟨_, (dss_one (ds_ret (de_ownEq h_Tabled_eqd mono_Tabled_eqd hr (List.Mem.head _) (de_meth0 h_Table_plain T.cl_Table hr z (List.Mem.head _) (de_var (i := 0))) (de_meth0 h_Table_plain T.cl_Table hr z (List.Mem.head _) (de_var (i := 1)))))), fun ds Ψ hl hc => ?_⟩
  obtain ⟨s, t, n, rfl, h0, hn, hs, ht, ds, dt, q⟩ := hc
  refine ⟨rfl, no_plain, rfl, rfl, s, n, rfl, h0, hn, hs, ds, ?_⟩
  refine ⟨rfl, no_plain, rfl, rfl, t, n, rfl, h0, hn, ht, dt, ?_⟩
  refine ⟨rfl, .inl ⟨_, rfl⟩, _, _, rfl, .inl ⟨_, rfl, ?_⟩⟩
  exact bl_c (fun e => ⟨_, _, .same, by rw [e] at q; exact q⟩) (fun e => ⟨_, _, .same, by rw [e] at q; exact q⟩)
def c_Milld_lend (C : Addr) : Ct := fun ds M Ψ _ => ∃ CT t w l, ds = [mill C CT t w l] ∧ Ψ (.int l.length) M
theorem ok_Milld_lend {f : Addr} {fd : FuncData} {dvs : List V} {kws : List (Str × V)} (T : Txt K mg)  (F : FnZ K "__len__" "Mill.__len__" s_Milld_lend dvs kws f fd) : FnOk P w K mg base (L2.CX P w) 2 f fd ["self"] (spC K (["self"] : List Str).length (c_Milld_lend (He.ga K "Mill"))) := by
  have hnd := sc_Milld_lend.nd
  refine fnD F sc_Milld_lend (c_Milld_lend (He.ga K "Mill")) fun cdv A outer s H E B Ξ hr z => ⟨_, (dss_one (ds_ret (de_len T.n_len (da_cons (de_ix (de_fld T.cl_Mill T.na_Mill_machine (de_var (i := 0))) de_int) da_nil)))), fun ds Ψ hl hc => ?_⟩
  obtain ⟨CT, t, w, l, rfl, q⟩ := hc
  refine ⟨rfl, optK_of (d := mcD (mtu t) w l) (by rfl) ?_⟩
  refine mc_2 ?_
  unfold lenD
  dsimp only
  rw [List.length_map]
  exact ⟨_, _, .same, q⟩
noncomputable def wkB (tu : Bool) (v : T4) (d : D) : D := match d with
  | .str s => .str ⟨(tlS tu v s.cps.toList).toArray⟩
  | d => d
def stB1 (c : Nat) (d : D) : D := match d with
  | .str s => .bl (decide (s.cps.toList.take 1 = [c]))
  | d => d
theorem tl_le {n : Nat} {tu : Bool} {v : T4} {x : List Nat} (n0 : 0 < n) (hn : n ≤ 20) (h : Rm n v) (hx : x.length ≤ 40) : (tlS tu v x).length ≤ 800 := by
  have h1 := tlS_n (tu := tu) n0 hn x h
  have h2 : x.length * n ≤ 40 * 20 := Nat.mul_le_mul hx hn
  omega
def lenB (d : D) : D := match d with
  | .int 1 => .int 1
  | .int 2 => .int 4
  | .int 3 => .int 7
  | d => d
noncomputable def stpB (l : List T4) (tu : Bool) (v : T4) (d : D) : D := match d with
  | .str s => .int (l.idxOf (gol tu v (s.cps.toList.headD 0)) : Nat)
  | d => d
def wds4 : List (List Nat) := allW 4 ++ [List.replicate 40 76, List.replicate 40 82]
def wds3 : List (List Nat) := allW 1 ++ allW 2 ++ allW 3 ++ [List.replicate 12 76, List.replicate 12 82]
theorem wds4_ok {w : List Nat} (h : w ∈ wds4) : LR w ∧ w.length ≤ 40 := by
  unfold wds4 at h
  rcases List.mem_append.mp h with h | h
  · obtain ⟨a, b⟩ := allW_mem.mp h
    exact ⟨a, by omega⟩
  · simp only [List.mem_cons, List.not_mem_nil, or_false] at h
    rcases h with rfl | rfl
    · exact ⟨fun c hc => .inl (List.eq_of_mem_replicate hc), by rw [List.length_replicate]; decide⟩
    · exact ⟨fun c hc => .inr (List.eq_of_mem_replicate hc), by rw [List.length_replicate]; decide⟩
theorem wds3_ok {w : List Nat} (h : w ∈ wds3) : LR w ∧ w.length ≤ 40 ∧ w ≠ [] := by
  unfold wds3 at h
  rcases List.mem_append.mp h with h | h
  · rcases List.mem_append.mp h with h | h
    · rcases List.mem_append.mp h with h | h <;> obtain ⟨a, b⟩ := allW_mem.mp h <;> exact ⟨a, by omega, fun z => by rw [z] at b; cases b⟩
    · obtain ⟨a, b⟩ := allW_mem.mp h
      exact ⟨a, by omega, fun z => by rw [z] at b; cases b⟩
  · simp only [List.mem_cons, List.not_mem_nil, or_false] at h
    rcases h with rfl | rfl
    · exact ⟨fun c hc => .inl (List.eq_of_mem_replicate hc), by rw [List.length_replicate]; decide, by decide⟩
    · exact ⟨fun c hc => .inr (List.eq_of_mem_replicate hc), by rw [List.length_replicate]; decide, by decide⟩
def c_law : Ct := fun ds M Ψ _ => ∃ ns, ds = [scr ns] ∧ ns.length ≤ 63 ∧ M = noM ∧ ∀ M', Ψ (.bl true) M'
theorem ok_law {f : Addr} {fd : FuncData} {dvs : List V} {kws : List (Str × V)} (T : Txt K mg) (h__law_hand : Gf P w K mg base "_law_hand" 2 (c__law_hand) b__law_hand) (c_Mill : Cf P w K mg base "Mill" (He.ga K "Mill") 6 (c_Milld_initd (He.ga K "Table") (He.ga K "Mill") (He.ga K "InvalidTable") (He.ga K "TooGreat") (He.ga K "TooLong")) b_Milld_initd) (h__law_made : Gf P w K mg base "_law_made" 5 (c__law_made (He.ga K "Table")) b__law_made) (h__law_mill : Gf P w K mg base "_law_mill" 5 (c__law_mill) b__law_mill) (h_Mill_rooms : Mf P w K mg base (He.ga K "Mill") "rooms" 6 (c_Mill_rooms (He.ga K "Mill") (He.ga K "Table")) b_Mill_rooms) (h__law_all : Gf P w K mg base "_law_all" 2 (c__law_all) b__law_all) (h__law_walk : Gf P w K mg base "_law_walk" 6 (c__law_walk (He.ga K "Mill")) b__law_walk) (h_Table_alike : Mf P w K mg base (He.ga K "Table") "alike" 7 (c_Table_alike (He.ga K "Table")) b_Table_alike) (h_Mill_step : Mf P w K mg base (He.ga K "Mill") "step" 5 (c_Mill_step (He.ga K "Mill") (He.ga K "InvalidRoom") (He.ga K "InvalidWord")) b_Mill_step) (h_Milld_lend : Mf P w K mg base (He.ga K "Mill") "__len__" 2 (c_Milld_lend (He.ga K "Mill")) b_Milld_lend) (c_Table : Cf P w K mg base "Table" (He.ga K "Table") 3 (c_Tabled_initd (He.ga K "Table") (He.ga K "InvalidTable")) b_Tabled_initd) (F : FnZ K "law" "law" s_law dvs kws f fd) : FnOk P w K mg base (L2.CX P w) 8 f fd ["_law_script"] (spC K (["_law_script"] : List Str).length (c_law)) := by
  have hnd := sc_law.nd
  refine fnD F sc_law (c_law) fun cdv A outer s H E B Ξ hr z => ⟨_, (dss_cons (ds_set (i := 1) hnd (de_call h__law_hand hr z (List.Mem.head _) (da_cons (de_var (i := 0)) da_nil)))
    (dss_cons (ds_for z.po rfl (di_range1 T.n_range (da_cons de_int da_nil)) (dg_name (i := 2) hnd) (dss_cons (ds_set (i := 3) hnd (de_make c_Mill hr z (List.Mem.head _) (da_cons (de_call h__law_made hr z (List.Mem.head _) (da_cons (de_call h__law_mill hr z (List.Mem.head _) (da_cons (de_var (i := 1)) (da_cons de_int da_nil))) da_nil)) da_nil)))
    (dss_cons (ds_set (i := 4) hnd (de_meth0 h_Mill_rooms T.cl_Mill hr z (List.Mem.head _) (de_var (i := 3))))
    (dss_cons (ds_for z.po rfl (di_range1 T.n_range (da_cons (de_len T.n_len (da_cons (de_var (i := 4)) da_nil)) da_nil)) (dg_name (i := 5) hnd) (dss_cons (ds_setLc (i := 6) rfl hnd (sw_true rfl rfl rfl rfl) (di_list (de_add (de_call h__law_all hr z (List.Mem.head _) (da_cons de_int da_nil)) (de_lst (da_cons (de_mulS de_str de_int) (da_cons (de_mulS de_str de_int) da_nil))))) (blkOk_by (own := [("_law_token", 7)]) (by rfl)) (tg_name (i := 7) (by decide)) (fun _ _ _ _ _ => (pg_name (i := 7) hnd rfl (by first | exact Or.inl rfl | exact Or.inr rfl) (by first | exact .inl rfl | exact .inr rfl))) (fun _ _ _ _ _ _ => dts_nil) (fun _ _ _ _ _ _ => (de_ix (de_call h__law_walk hr zx_blk (List.Mem.head _) (da_cons (de_var (i := 3)) (da_cons (de_var (i := 5)) (da_cons (de_var (i := 7)) da_nil)))) de_int)))
    (dss_cons (ds_cutJ (ds_if (dw_or (dt_not (dt_val (de_any1 rfl T.n_any (da_cons (de_lc rfl hnd (di_list (de_var (i := 6))) (blkOk_by (own := [("_law_one", 14)]) (by rfl)) (tg_name (i := 14) (by decide)) (fun _ _ _ _ _ => (pg_name (i := 14) hnd rfl (by first | exact Or.inl rfl | exact Or.inr rfl) (by first | exact .inl rfl | exact .inr rfl))) (fun _ _ _ _ _ _ => dts_nil) (fun _ _ _ _ _ _ => (de_eq hr (de_slice (de_var (i := 14)) do_none (do_some de_int)) de_str))) da_nil)))) (dw_or1 (dt_not (dt_val (de_any1 rfl T.n_any (da_cons (de_lc rfl hnd (di_list (de_var (i := 6))) (blkOk_by (own := [("_law_one", 14)]) (by rfl)) (tg_name (i := 14) (by decide)) (fun _ _ _ _ _ => (pg_name (i := 14) hnd rfl (by first | exact Or.inl rfl | exact Or.inr rfl) (by first | exact .inl rfl | exact .inr rfl))) (fun _ _ _ _ _ _ => dts_nil) (fun _ _ _ _ _ _ => (de_eq hr (de_slice (de_var (i := 14)) do_none (do_some de_int)) de_str))) da_nil)))))).pt (dss_one (ds_ret de_bl)) dss_nil))
    (dss_cons (ds_if (dt_val (de_any1 rfl T.n_any (da_cons (de_lc rfl hnd (di_range1 T.n_range (da_cons (de_var (i := 5)) da_nil)) (blkOk_by (own := [("_law_late", 13)]) (by rfl)) (tg_name (i := 13) (by decide)) (fun _ _ _ _ _ => (pg_name (i := 13) hnd rfl (by first | exact Or.inl rfl | exact Or.inr rfl) (by first | exact .inl rfl | exact .inr rfl))) (fun _ _ _ _ _ _ => dts_nil) (fun _ _ _ _ _ _ => (de_meth h_Table_alike T.cl_Table hr zx_blk (List.Mem.head _) (de_ix (de_var (i := 4)) (de_var (i := 5))) (da_cons (de_ix (de_var (i := 4)) (de_var (i := 13))) da_nil)))) da_nil))) (dss_one (ds_ret de_bl)) dss_nil)
    (dss_one (ds_for z.po rfl (di_list (de_add (de_add (de_add (de_call h__law_all hr z (List.Mem.head _) (da_cons de_int da_nil)) (de_call h__law_all hr z (List.Mem.head _) (da_cons de_int da_nil))) (de_call h__law_all hr z (List.Mem.head _) (da_cons de_int da_nil))) (de_lst (da_cons (de_mulS de_str de_int) (da_cons (de_mulS de_str de_int) da_nil))))) (dg_name (i := 7) hnd) (dss_cons (ds_asg (de_call h__law_walk hr z (List.Mem.head _) (da_cons (de_var (i := 3)) (da_cons (de_var (i := 5)) (da_cons (de_var (i := 7)) da_nil)))) (dg_tup (n := 2) rfl (dgs_cons (dg_name (i := 8) hnd) (dgs_cons (dg_name (i := 9) hnd) dgs_nil))))
    (dss_one (ds_if (dw_and (dt_eq hr (de_var (i := 9)) (de_var (i := 5))) (dw_and1 (dt_eq hr (de_var (i := 8)) de_str))).pt (dss_one (ds_ret de_bl)) dss_nil)))))))))
    (dss_cons (ds_set (i := 10) hnd (de_lst (da_cons de_int da_nil)))
    (dss_cons (ds_for z.po rfl (di_range1 T.n_range (da_cons (de_mul de_int (de_len T.n_len (da_cons (de_var (i := 4)) da_nil))) da_nil)) (dg_name (i := 11) hnd) (dss_one (ds_if (dt_lt (de_var (i := 11)) (de_len T.n_len (da_cons (de_var (i := 10)) da_nil))) (dss_one (ds_set (i := 10) hnd (de_add (de_var (i := 10)) (de_lc rfl hnd (di_list (de_lc rfl hnd (di_str de_str) (blkOk_by (own := [("_law_side", 15)]) (by rfl)) (tg_name (i := 15) (by decide)) (fun _ _ _ _ _ => (pg_name (i := 15) hnd rfl (by first | exact Or.inl rfl | exact Or.inr rfl) (by first | exact .inl rfl | exact .inr rfl))) (fun _ _ _ _ _ _ => dts_nil) (fun _ _ _ _ _ _ => (de_ix (de_meth h_Mill_step T.cl_Mill hr zx_blk (List.Mem.head _) (de_var (i := 3)) (da_cons (de_ix (de_var (i := 10)) (de_var (i := 11))) (da_cons (de_var (i := 15)) da_nil))) de_int)))) (blkOk_by (own := [("_law_goal", 9)]) (by rfl)) (tg_name (i := 9) (by decide)) (fun _ _ _ _ _ => (pg_name (i := 9) hnd rfl (by first | exact Or.inl rfl | exact Or.inr rfl) (by first | exact .inl rfl | exact .inr rfl))) (fun _ _ _ _ _ _ => (dts_one (dt_nin hr (de_var (i := 9)) (de_var (i := 10))))) (fun _ _ _ _ _ _ => (de_var (i := 9))))))) dss_nil)))
    (dss_one (ds_if (dt_ne hr (de_sortSetI rfl hr T.n_sorted T.n_set (da_cons (de_var (i := 10)) da_nil)) (de_listRg rfl T.n_list T.n_range (de_len T.n_len (da_cons (de_var (i := 4)) da_nil)))) (dss_one (ds_ret de_bl)) dss_nil))))))))
    (dss_one (ds_ret (de_eq hr (de_lc rfl hnd (di_tup (de_tup (da_cons de_int (da_cons de_int (da_cons de_int da_nil))))) (blkOk_by (own := [("_law_size", 12)]) (by rfl)) (tg_name (i := 12) (by decide)) (fun _ _ _ _ _ => (pg_name (i := 12) hnd rfl (by first | exact Or.inl rfl | exact Or.inr rfl) (by first | exact .inl rfl | exact .inr rfl))) (fun _ _ _ _ _ _ => dts_nil) (fun _ _ _ _ _ _ => (de_lenO h_Milld_lend T.n_len hr (List.Mem.head _) (da_cons (de_make c_Mill hr zx_blk (List.Mem.head _) (da_cons (de_make c_Table hr zx_blk (List.Mem.head _) (da_cons (de_var (i := 12)) (da_cons de_int (da_cons de_int (da_cons de_int da_nil))))) da_nil)) da_nil)))) (de_lst (da_cons de_int (da_cons de_int (da_cons de_int da_nil))))))))), fun ds Ψ hl hc => ?_⟩
  obtain ⟨ns, rfl, hl, hM, q⟩ := hc
  classical
  refine ⟨rfl, rfl, ns, rfl, hl, fun p h hp hc0 hi0 => ?_⟩
  have h0 : HandAt (updM B.M p (hd h)) p := ⟨h, updM_same, hc0, hi0⟩
  have eR : ("R" : Str) = ⟨[82].toArray⟩ := by decide +kernel
  have eL : ("L" : Str) = ⟨[76].toArray⟩ := by decide +kernel
  have eE : ("" : Str) = ⟨([] : List Nat).toArray⟩ := by decide +kernel
  try dsimp only [List.set, getS_z, getS_s, bin2, bin2T, ltD, leD, gtD, geD, cmp_i, add_i, sub_i, min2_i, max2_i]
  refine forD_n (xs := rngD 0 4) (S := fun _ => True) (fun K h => ⟨⟨by decide, by decide⟩, h⟩) (fun i r M' => HandAt M' p ∧ ∃ o2 o3 o4 o5 o6 o7 o8 o9 o10 o11 o12 o13 o14 o15, r = [some (scr ns), some (.ref p), o2, o3, o4, o5, o6, o7, o8, o9, o10, o11, o12, o13, o14, o15]) ⟨h0, _, _, _, _, _, _, _, _, _, _, _, _, _, _, rfl⟩ (fun _ _ _ _ => trivial) (fun i d r Mz hd' hI => ?_) (fun r M' hI => ?_)
  · obtain ⟨hh, o2, o3, o4, o5, o6, o7, o8, o9, o10, o11, o12, o13, o14, o15, rfl⟩ := hI
    try dsimp only [List.set, getS_z, getS_s, bin2, bin2T, ltD, leD, gtD, geD, cmp_i, add_i, sub_i, min2_i, max2_i]
    refine ⟨rfl, rfl, p, 12, rfl, hh, by decide, by decide, fun t M1 ml d1 => ?_⟩
    have h60 : (det4 (pr4 t)).natAbs ≤ 60 := by have := ml.size; omega
    have hn12 := ml.size
    refine ⟨rfl, rfl, _, t, 20, rfl, .inl rfl, by decide, by decide, ml.sm, ml.det, ?_⟩
    refine mk_mill ml.det ml.sm (by decide) (by decide) (fun z => absurd ml.nn z) (fun _ z => by omega) (fun _ _ w' u' tk' hw => absurd hw (by have := ml.lead w' u' tk'; omega)) (fun _ _ w u l tk hb _ => ?_)
    have fd0 := fd_of ml.nn ml.det h60 tk hb
    have n0 : 0 < (det4 (pr4 t)).natAbs := by have := fd0.pos; omega
    obtain ⟨nd, _, _, l0, _, hl0⟩ := bf_ok ml.nn ml.det h60 tk hb
    have few := fd0.few
    have sm6 : ∀ v ∈ l, Sm 6 v ∧ det4 v ≠ 0 := fun v hv => by
      have hr := fd0.rm v hv
      obtain ⟨a1, a2, a3, a4⟩ := hr.le (by omega) (by omega)
      obtain ⟨m1, m2, m3, m4⟩ := hr.nn
      exact ⟨⟨by show _ < 2 ^ 6; omega, by show _ < 2 ^ 6; omega, by show _ < 2 ^ 6; omega, by show _ < 2 ^ 6; omega⟩, by rw [hr.det]; omega⟩
    refine ⟨rfl, no_mill, rfl, rfl, t, w, l, rfl, by omega, sm6, fun p2 hp2 => ?_⟩
    have hh2 : HandAt (updM M1 p2 (.lst (l.map (tab (He.ga K "Table"))))) p := d1.1.upd hp2
    have at2 : updM M1 p2 (.lst (l.map (tab (He.ga K "Table")))) p2 = some (.lst (l.map (tab (He.ga K "Table")))) := updM_same
    generalize updM M1 p2 (.lst (l.map (tab (He.ga K "Table")))) = M2 at hh2 at2 ⊢
    try dsimp only [List.set, getS_z, getS_s, bin2, bin2T, ltD, leD, gtD, geD, cmp_i, add_i, sub_i, min2_i, max2_i]
    have lenP : ∀ {M : Sto} {φ : PD}, M p2 = some (.lst (l.map (tab (He.ga K "Table")))) → φ (.int (l.length : Nat)) M → lenD M [.ref p2] φ := fun {M φ} ha hq => ⟨_, lstOf_at ha, by rw [List.length_map]; exact hq⟩
    have l400 : l.length ≤ 400 := rooms_400 n0 hn12 nd fd0.rm
    have wk : ∀ {M : Sto} {Φ : PD} {Ξ : XD → Sto → Prop} (at' : Nat) (v : T4) (x : List Nat), l[at']? = some v → LR x → x.length ≤ 40 → Φ (.tup [.str ⟨(tlS (mtu t) v x).toArray⟩, .int (l.idxOf (goS (mtu t) v x) : Nat)]) M → c__law_walk (He.ga K "Mill") [mill (He.ga K "Mill") (He.ga K "Table") t w l, .int (at' : Nat), .str ⟨x.toArray⟩] M Φ Ξ := fun at' v x hv lx hx hq => ⟨_, _, t, w, l, u, v, at', x, rfl, fd0, by omega, hv, nd, lx, hx, hq⟩
    refine forD_n (xs := rngD 0 l.length) (S := fun _ => True) (fun K h => ?_) (fun i r M' => M' = M2 ∧ ∃ o5 o6 o7 o8 o9 o10 o11 o12 o13 o14 o15, r = [some (scr ns), some (.ref p), some d, some (mill (He.ga K "Mill") (He.ga K "Table") t w l), some (.ref p2), o5, o6, o7, o8, o9, o10, o11, o12, o13, o14, o15]) ⟨rfl, _, _, _, _, _, _, _, _, _, _, _, rfl⟩ (fun _ _ _ _ => trivial) (fun i d2 r M' hd2 hI => ?_) (fun r M' hI => ?_)
    · try dsimp only [List.set, getS_z, getS_s, bin2, bin2T, ltD, leD, gtD, geD, cmp_i, add_i, sub_i, min2_i, max2_i]
      exact lenP at2 ⟨⟨by omega, by omega⟩, h⟩
    · obtain ⟨rfl, o5, o6, o7, o8, o9, o10, o11, o12, o13, o14, o15, rfl⟩ := hI
      obtain ⟨hi, rfl⟩ := rng_at hd2
      rw [show ((0 : Int) + (i : Nat)) = (i : Int) by omega]
      obtain ⟨v, hv⟩ : ∃ v, l[i]? = some v := ⟨_, List.getElem?_eq_getElem hi⟩
      have hvl : v ∈ l := List.mem_of_getElem? hv
      have hrv := fd0.rm v hvl
      try dsimp only [List.set, getS_z, getS_s, bin2, bin2T, ltD, leD, gtD, geD, cmp_i, add_i, sub_i, min2_i, max2_i]
      refine compD_map (xs := wds4.map wdD) (S := fun M => lstOf M (.lst (wds4.map wdD)) = some (wds4.map wdD)) (fun K h => ?_) (wkB (mtu t) v) rfl (Nat.le_trans (show (wds4.map wdD).length ≤ 1000000 by decide) big_ok) (fun dd hdd Q h => ?_) ?_
      · refine ⟨rfl, rfl, 4, rfl, by decide, ?_⟩
        rw [eL, eR]
        refine mul_w (k := 40) (by decide) (by decide) (by decide) ?_
        refine mul_w (k := 40) (by decide) (by decide) (by decide) ?_
        refine ⟨ln (n := 2) rfl (by decide), add_LL rfl rfl (Nat.le_trans (show ((allW 4).map wdD).length + 2 ≤ 1000000 by decide) big_ok) ?_⟩
        exact ⟨_, rfl, h⟩
      · obtain ⟨x, hx, rfl⟩ := List.mem_map.mp hdd
        obtain ⟨lx, sx⟩ := wds4_ok hx
        dsimp only [asN, wipeD, List.map, List.set]
        try dsimp only [List.set, getS_z, getS_s, bin2, bin2T, ltD, leD, gtD, geD, cmp_i, add_i, sub_i, min2_i, max2_i]
        exact ⟨rfl, rfl, wk i v x hv lx sx (ix_t rfl h)⟩
      have anyT : ∀ c, c = 76 ∨ c = 82 → (wds4.map fun x => decide ((tlS (mtu t) v x).take 1 = [c])).any id = true := fun c hc => by
        obtain ⟨r, hr⟩ := first_told (tu := mtu t) n0 (by omega) hrv hc
        refine List.any_eq_true.mpr ⟨true, List.mem_map.mpr ⟨List.replicate 40 (trn (mtu t) c), ?_, ?_⟩, rfl⟩
        · unfold wds4
          refine List.mem_append_right _ ?_
          rcases trn_lr (tu := mtu t) hc with z | z <;> rw [z] <;> simp
        · rw [hr]
          exact decide_eq_true rfl
      refine jnS_of (fun r' M9 => M9 = M' ∧ r' = [some (scr ns), some (.ref p), some d, some (mill (He.ga K "Mill") (He.ga K "Table") t w l), some (.ref p2), some (.int (i : Int)), some (.lst ((wds4.map wdD).map (wkB (mtu t) v))), o7, o8, o9, o10, o11, o12, o13, o14, o15]) ?_ ?_
      · try dsimp only [List.set, getS_z, getS_s, bin2, bin2T, ltD, leD, gtD, geD, cmp_i, add_i, sub_i, min2_i, max2_i]
        refine compD_map (xs := (wds4.map wdD).map (wkB (mtu t) v)) (S := fun M => lstOf M (.lst ((wds4.map wdD).map (wkB (mtu t) v))) = some ((wds4.map wdD).map (wkB (mtu t) v))) (fun K h => ⟨_, rfl, h⟩) (stB1 76) rfl (by rw [List.length_map]; exact Nat.le_trans (show (wds4.map wdD).length ≤ 1000000 by decide) big_ok) (fun dd hdd Q h => ?_) ?_
        · obtain ⟨d0, hd0, rfl⟩ := List.mem_map.mp hdd
          obtain ⟨x, hx, rfl⟩ := List.mem_map.mp hd0
          obtain ⟨lx, sx⟩ := wds4_ok hx
          have tl := tl_le (tu := mtu t) n0 (by omega) hrv sx
          dsimp only [asN, wipeD, List.map, List.set]
          try dsimp only [List.set, getS_z, getS_s, bin2, bin2T, ltD, leD, gtD, geD, cmp_i, add_i, sub_i, min2_i, max2_i]
          show inK (.int 1) fun i => slD _ (.str ⟨(tlS (mtu t) v x).toArray⟩) none (some i) _
          refine inKI (sl_take (k := 1) (by omega) ?_)
          rw [eL]
          refine eq_w ?_
          exact h
        refine ⟨wds4.map fun x => decide ((tlS (mtu t) v x).take 1 = [76]), by rw [List.map_map, List.map_map, List.map_map]; rfl, ?_⟩
        rw [anyT 76 (.inl rfl)]
        refine bl_t rfl (ite_f rfl ?_)
        refine compD_map (xs := (wds4.map wdD).map (wkB (mtu t) v)) (S := fun M => lstOf M (.lst ((wds4.map wdD).map (wkB (mtu t) v))) = some ((wds4.map wdD).map (wkB (mtu t) v))) (fun K h => ⟨_, rfl, h⟩) (stB1 82) rfl (by rw [List.length_map]; exact Nat.le_trans (show (wds4.map wdD).length ≤ 1000000 by decide) big_ok) (fun dd hdd Q h => ?_) ?_
        · obtain ⟨d0, hd0, rfl⟩ := List.mem_map.mp hdd
          obtain ⟨x, hx, rfl⟩ := List.mem_map.mp hd0
          obtain ⟨lx, sx⟩ := wds4_ok hx
          have tl := tl_le (tu := mtu t) n0 (by omega) hrv sx
          dsimp only [asN, wipeD, List.map, List.set]
          try dsimp only [List.set, getS_z, getS_s, bin2, bin2T, ltD, leD, gtD, geD, cmp_i, add_i, sub_i, min2_i, max2_i]
          show inK (.int 1) fun i => slD _ (.str ⟨(tlS (mtu t) v x).toArray⟩) none (some i) _
          refine inKI (sl_take (k := 1) (by omega) ?_)
          rw [eR]
          refine eq_w ?_
          exact h
        refine ⟨wds4.map fun x => decide ((tlS (mtu t) v x).take 1 = [82]), by rw [List.map_map, List.map_map, List.map_map]; rfl, ?_⟩
        rw [anyT 82 (.inr rfl)]
        exact bl_t rfl (ite_f rfl ⟨rfl, rfl⟩)
      rintro _ Mx ⟨e9, rfl⟩
      rw [e9]
      clear e9 Mx
      try dsimp only [List.set, getS_z, getS_s, bin2, bin2T, ltD, leD, gtD, geD, cmp_i, add_i, sub_i, min2_i, max2_i]
      have hiv : l.idxOf v = i := by
        obtain ⟨h1, h2⟩ := List.getElem?_eq_some_iff.mp hv
        rw [← h2]
        exact nd.idxOf_getElem i h1
      refine compD_map (xs := rngD 0 i) (S := fun _ => True) (fun K h => ⟨⟨by omega, by omega⟩, h⟩) (fun _ => .bl false) trivial (by rw [rng_len]; exact Nat.le_trans (show i ≤ 1000000 by omega) big_ok) (fun dd hdd Q h => ?_) ?_
      · obtain ⟨j, hj, rfl⟩ := List.mem_map.mp hdd
        have hj := List.mem_range.mp hj
        rw [show ((0 : Int) + (j : Nat)) = (j : Int) by omega]
        obtain ⟨s, hs⟩ : ∃ s, l[j]? = some s := ⟨_, List.getElem?_eq_getElem (by omega)⟩
        have hsl : s ∈ l := List.mem_of_getElem? hs
        have hne : pl4 v ≠ pl4 s := fun z => by
          have e := pl_room (n := (((det4 (pr4 t)).natAbs : Nat) : Int)) (by omega) hrv (fd0.rm s hsl) z
          obtain ⟨h1, h2⟩ := List.getElem?_eq_some_iff.mp hs
          have h3 := nd.idxOf_getElem j h1
          rw [h2, ← e, hiv] at h3
          omega
        dsimp only [asN, wipeD, List.map, List.set]
        try dsimp only [List.set, getS_z, getS_s, bin2, bin2T, ltD, leD, gtD, geD, cmp_i, add_i, sub_i, min2_i, max2_i]
        refine ix_at at2 (x := tab (He.ga K "Table") v) (by rw [List.getElem?_map, hv]; rfl) ?_
        refine ⟨rfl, no_w, ?_⟩
        refine ix_at at2 (x := tab (He.ga K "Table") s) (by rw [List.getElem?_map, hs]; rfl) ?_
        refine ⟨rfl, rfl, v, s, 6, rfl, by decide, by decide, (sm6 v hvl).1, (sm6 s hsl).1, (sm6 v hvl).2, (sm6 s hsl).2, ?_⟩
        rw [decide_eq_false hne]
        exact h
      refine ⟨(rngD 0 i).map fun _ => false, by rw [List.map_map]; rfl, ?_⟩
      rw [show ((rngD 0 i).map fun _ => false).any id = false by rw [List.any_map]; exact List.any_eq_false.mpr fun _ _ => by simp]
      refine bl_f rfl (ite_f rfl ?_)
      refine forD_n (xs := wds3.map wdD) (S := fun M => lstOf M (.lst (wds3.map wdD)) = some (wds3.map wdD)) (fun K h => ?_) (fun j r M'' => M'' = M' ∧ ∃ o7 o8 o9 o10 o11 o12 o13 o14 o15, r = [some (scr ns), some (.ref p), some d, some (mill (He.ga K "Mill") (He.ga K "Table") t w l), some (.ref p2), some (.int (i : Int)), some (.lst ((wds4.map wdD).map (wkB (mtu t) v))), o7, o8, o9, o10, o11, o12, o13, o14, o15]) ⟨rfl, _, _, _, _, _, _, _, _, _, rfl⟩ (fun _ _ _ _ => rfl) (fun j d3 r M'' hd3 hI => ?_) (fun r M'' hI => ?_)
      · refine ⟨rfl, rfl, 1, rfl, by decide, ?_⟩
        refine ⟨rfl, rfl, 2, rfl, by decide, ?_⟩
        refine add_LL rfl rfl (Nat.le_trans (show ((allW 1).map wdD).length + ((allW 2).map wdD).length ≤ 1000000 by decide) big_ok) ?_
        refine ⟨rfl, rfl, 3, rfl, by decide, ?_⟩
        refine add_LL rfl rfl (Nat.le_trans (show ((allW 1).map wdD ++ (allW 2).map wdD).length + ((allW 3).map wdD).length ≤ 1000000 by decide) big_ok) ?_
        rw [eL, eR]
        refine mul_w (k := 12) (by decide) (by decide) (by decide) ?_
        refine mul_w (k := 12) (by decide) (by decide) (by decide) ?_
        refine ⟨ln (n := 2) rfl (by decide), add_LL rfl rfl (Nat.le_trans (show ((allW 1).map wdD ++ (allW 2).map wdD ++ (allW 3).map wdD).length + 2 ≤ 1000000 by decide) big_ok) ?_⟩
        exact ⟨_, rfl, h⟩
      · obtain ⟨rfl, o7, o8, o9, o10, o11, o12, o13, o14, o15, rfl⟩ := hI
        rw [List.getElem?_map] at hd3
        obtain ⟨x, hx, rfl⟩ := Option.map_eq_some_iff.mp hd3
        obtain ⟨lx, sx, x0⟩ := wds3_ok (List.mem_of_getElem? hx)
        have hg : goS (mtu t) v x ∈ l := goS_mem fd0.cl lx hvl
        obtain ⟨g1, _⟩ := idx_at hg
        try dsimp only [List.set, getS_z, getS_s, bin2, bin2T, ltD, leD, gtD, geD, cmp_i, add_i, sub_i, min2_i, max2_i]
        refine ⟨rfl, rfl, wk i v x hv lx sx ?_⟩
        refine ⟨rfl, rfl, ?_⟩
        try dsimp only [List.set, getS_z, getS_s, bin2, bin2T, ltD, leD, gtD, geD, cmp_i, add_i, sub_i, min2_i, max2_i]
        refine eqI ?_
        refine bl_c (fun e1 => ite_t rfl ?_) (fun e1 => ite_f rfl (ite_f rfl (.of ⟨rfl, _, _, _, _, _, _, _, _, _, rfl⟩)))
        rw [eE]
        refine eq_w ?_
        refine bl_c (fun e2 => ?_) (fun e2 => ite_f rfl (.of ⟨rfl, _, _, _, _, _, _, _, _, _, rfl⟩))
        exfalso
        have e1 := of_decide_eq_true e1
        have e1 : l.idxOf (goS (mtu t) v x) = i := by omega
        rw [e1, hv] at g1
        exact _root_.Z.no_back (tu := mtu t) n0 lx hrv x0 (of_decide_eq_true e2) (Option.some.inj g1).symm
      · obtain ⟨rfl, o7, o8, o9, o10, o11, o12, o13, o14, o15, rfl⟩ := hI
        exact .of ⟨rfl, _, _, _, _, _, _, _, _, _, _, _, rfl⟩
    · obtain ⟨rfl, o5, o6, o7, o8, o9, o10, o11, o12, o13, o14, o15, rfl⟩ := hI
      try dsimp only [List.set, getS_z, getS_s, bin2, bin2T, ltD, leD, gtD, geD, cmp_i, add_i, sub_i, min2_i, max2_i]
      have lg : ∀ i, i < l.length → gI l (mtu t) i 76 < l.length ∧ gI l (mtu t) i 82 < l.length := fun i hi => by
        have hm : l.getD i O4 ∈ l := by
          rw [List.getD_eq_getElem?_getD, List.getElem?_eq_getElem hi]
          exact List.getElem_mem hi
        obtain ⟨c1, c2⟩ := fd0.cl _ hm
        exact ⟨List.idxOf_lt_length_iff.mpr c1, List.idxOf_lt_length_iff.mpr c2⟩
      refine ⟨ln (n := 1) rfl (by decide), ?_⟩
      refine forD_n (xs := rngD 0 (2 * l.length)) (S := fun _ => True) (fun K h => ?_) (fun i r M'' => M'' = M' ∧ ∃ (ph : List Nat) (o5 o6 o7 o8 o9 o11 o12 o13 o14 o15 : Option D), PhI l.length (gI l (mtu t)) i ph ∧ r = [some (scr ns), some (.ref p), some d, some (mill (He.ga K "Mill") (He.ga K "Table") t w l), some (.ref p2), o5, o6, o7, o8, o9, some (.lst (ph.map fun j : Nat => D.int (j : Int))), o11, o12, o13, o14, o15]) ⟨rfl, [0], o5, o6, o7, o8, o9, o11, o12, o13, o14, o15, PhI.start l0, rfl⟩ (fun _ _ _ _ => trivial) (fun i d2 r M'' hd2 hI => ?_) (fun r M'' hI => ?_)
      · try dsimp only [List.set, getS_z, getS_s, bin2, bin2T, ltD, leD, gtD, geD, cmp_i, add_i, sub_i, min2_i, max2_i]
        refine lenP at2 ⟨IntMulOk.of_left (by decide), ?_⟩
        rw [show (2 : Int) * (l.length : Nat) = ((2 * l.length : Nat) : Int) by omega]
        exact ⟨⟨by omega, by omega⟩, h⟩
      · obtain ⟨rfl, ph, o5, o6, o7, o8, o9, o11, o12, o13, o14, o15, hP, rfl⟩ := hI
        obtain ⟨hi, rfl⟩ := rng_at hd2
        rw [show ((0 : Int) + (i : Nat)) = (i : Int) by omega]
        try dsimp only [List.set, getS_z, getS_s, bin2, bin2T, ltD, leD, gtD, geD, cmp_i, add_i, sub_i, min2_i, max2_i]
        have hphl : ph.length ≤ 2 * l.length := by
          obtain ⟨ds, nd1, md, hl1⟩ := hP.ds
          have h1 := ndp_len ds (List.range l.length) nd1 fun x hx => List.mem_range.mpr (hP.lt x ((md x).mp hx))
          rw [List.length_range] at h1
          omega
        refine bl_c (fun e1 => ite_t rfl ?_) (fun e1 => ite_f rfl ?_)
        · have e1 := of_decide_eq_true e1
          rw [List.length_map] at e1
          obtain ⟨j, hj⟩ : ∃ j, ph[i]? = some j := ⟨_, List.getElem?_eq_getElem (by omega)⟩
          have jl := hP.lt j (List.mem_of_getElem? hj)
          obtain ⟨v, hv⟩ : ∃ v, l[j]? = some v := ⟨_, List.getElem?_eq_getElem jl⟩
          have ev : l.getD j O4 = v := by rw [List.getD_eq_getElem?_getD, hv]; rfl
          have hvl : v ∈ l := List.mem_of_getElem? hv
          have g76 : gI l (mtu t) j 76 = l.idxOf (gol (mtu t) v 76) := by unfold gI; rw [ev]
          have g82 : gI l (mtu t) j 82 = l.idxOf (gol (mtu t) v 82) := by unfold gI; rw [ev]
          have hin : inB (.int (j : Nat)) 0 ((l.length : Int) - 1) = true := by
            unfold inB
            simp
            omega
          have eS : Z.signs ("LR" : Str) = [.str ⟨#[76]⟩, .str ⟨#[82]⟩] := by
            unfold Z.signs
            rfl
          have hstep := hP.step hj (lg j jl)
          rw [g76, g82] at hstep
          generalize hA : l.idxOf (gol (mtu t) v 76) = A at hstep
          generalize hB : l.idxOf (gol (mtu t) v 82) = C at hstep
          refine compD_fm (xs := [.int (A : Nat), .int (C : Nat)]) (S := fun M => lstOf M (.lst [.int (A : Nat), .int (C : Nat)]) = some [.int (A : Nat), .int (C : Nat)]) (fun K h => ?_) (fun d => decide (d ∉ ph.map fun j : Nat => D.int (j : Int))) (fun d => d) rfl (ln (n := 2) rfl (by decide)) (fun dd hdd Q R h => ?_) ?_
          · refine compD_map (xs := Z.signs ("LR" : Str)) (S := fun _ => True) (fun K h => h) (stpB l (mtu t) v) trivial (by rw [eS]; exact ln (n := 2) rfl (by decide)) (fun dd hdd Q h => ?_) ?_
            · rw [eS] at hdd
              obtain ⟨c, hc, rfl⟩ : ∃ c, (c = 76 ∨ c = 82) ∧ dd = .str ⟨#[c]⟩ := by
                simp only [List.mem_cons, List.not_mem_nil, or_false] at hdd
                rcases hdd with rfl | rfl
                · exact ⟨76, .inl rfl, rfl⟩
                · exact ⟨82, .inr rfl, rfl⟩
              have st : tuB (.str ⟨#[c]⟩) = true := by rcases hc with rfl | rfl <;> decide +kernel
              dsimp only [asN, wipeD, List.map, List.set]
              try dsimp only [List.set, getS_z, getS_s, bin2, bin2T, ltD, leD, gtD, geD, cmp_i, add_i, sub_i, min2_i, max2_i]
              refine ⟨rfl, no_mill, ?_⟩
              refine ix_ln (x := .int (j : Nat)) (by rw [List.getElem?_map, hj]; rfl) ?_
              refine ⟨rfl, rfl, _, _, _, _, .int (j : Nat), .str ⟨#[c]⟩, "int", "str", rfl, by omega, rfl, rfl, (fun x e => by cases e; show (1 : Nat) ≤ 1000000; decide), (fun z => by rw [hin] at z; cases z), (fun _ z => by rw [st] at z; cases z), fun j2 u2 c2 ej hj2 hc2 ec => ?_⟩
              have ej : j2 = j := by injection ej with ej; omega
              subst ej
              rw [hv] at hj2
              cases hj2
              have ec : c2 = c := by injection ec with ec; injection ec with ec; simpa using ec.symm
              subst ec
              exact ix_t rfl h
            · rw [eS, show ([D.str ⟨#[76]⟩, D.str ⟨#[82]⟩] : List D).map (stpB l (mtu t) v) = [.int (A : Nat), .int (C : Nat)] by rw [← hA, ← hB]; rfl]
              exact ⟨_, rfl, h⟩
          · obtain ⟨z, hz, rfl⟩ : ∃ z : Nat, (z = A ∨ z = C) ∧ dd = .int (z : Nat) := by
              simp only [List.mem_cons, List.not_mem_nil, or_false] at hdd
              rcases hdd with rfl | rfl
              · exact ⟨A, .inl rfl, rfl⟩
              · exact ⟨C, .inr rfl, rfl⟩
            dsimp only [asN, wipeD, List.map, List.set]
            try dsimp only [List.set, getS_z, getS_s, bin2, bin2T, ltD, leD, gtD, geD, cmp_i, add_i, sub_i, min2_i, max2_i]
            refine inPb (n := 1) (m := 1) (l := ph.map fun j : Nat => D.int (j : Int)) rfl (.int _) (PbL.of fun d hd => by obtain ⟨y, _, rfl⟩ := List.mem_map.mp hd; exact .int _) (fun b hb => ?_)
            have hb2 : b = decide (D.int (z : Int) ∈ ph.map fun j : Nat => D.int (j : Int)) := by
              refine Bool.eq_iff_iff.mpr (hb.trans ?_)
              rw [List.map_map, show (nb ∘ fun j : Nat => D.int (j : Int)) = fun j : Nat => D.int (j : Int) from rfl, decide_eq_true_eq]
              rfl
            have hk : decide (D.int (z : Int) ∉ ph.map fun j : Nat => D.int (j : Int)) = !b := by rw [hb2, decide_not]
            rw [hk] at h
            cases b with
            | true => exact bl_f rfl (ite_f rfl (by simpa using h))
            | false => exact bl_t rfl (ite_t rfl (by simpa using h))
          · refine add_LL rfl rfl (by rw [List.length_map, List.length_map]; have := List.length_filter_le (fun d => decide (d ∉ ph.map fun j : Nat => D.int (j : Int))) [D.int (A : Nat), D.int (C : Nat)]; exact Nat.le_trans (show _ ≤ 1000000 by have h2 : [D.int (A : Nat), D.int (C : Nat)].length = 2 := rfl; omega) big_ok) ?_
            have el : (ph.map fun j : Nat => D.int (j : Int)) ++ ([D.int (A : Nat), D.int (C : Nat)].filter fun d => decide (d ∉ ph.map fun j : Nat => D.int (j : Int))).map (fun d => d) = (ph ++ newP ph A C).map fun j : Nat => D.int (j : Int) := by
              rw [List.map_append, List.map_id']
              congr 1
              unfold newP
              rw [show [D.int (A : Nat), D.int (C : Nat)] = [A, C].map fun j : Nat => D.int (j : Int) from rfl, List.filter_map]
              congr 1
              refine List.filter_congr fun x _ => ?_
              refine decide_eq_decide.mpr (not_congr ?_)
              rw [List.mem_map]
              constructor
              · rintro ⟨y, hy, e⟩
                injection e with e
                rw [← show y = x by omega]
                exact hy
              · exact fun h => ⟨x, h, rfl⟩
            rw [el]
            exact .of ⟨rfl, _, _, _, _, _, _, _, _, _, _, _, hstep, rfl⟩
        · have e1 := of_decide_eq_false e1
          rw [List.length_map] at e1
          exact .of ⟨rfl, ph, _, _, _, _, _, _, _, _, _, _, hP.skip (by omega), rfl⟩
      · obtain ⟨rfl, ph, o5, o6, o7, o8, o9, o11, o12, o13, o14, o15, hP, rfl⟩ := hI
        rw [rng_len] at hP
        try dsimp only [List.set, getS_z, getS_s, bin2, bin2T, ltD, leD, gtD, geD, cmp_i, add_i, sub_i, min2_i, max2_i]
        have hphl : ph.length ≤ 2 * l.length := by
          obtain ⟨ds, nd1, md, hl1⟩ := hP.ds
          have h1 := ndp_len ds (List.range l.length) nd1 fun x hx => List.mem_range.mpr (hP.lt x ((md x).mp hx))
          rw [List.length_range] at h1
          omega
        refine ⟨ph.map fun j : Nat => (j : Int), by rw [List.map_map]; rfl, by rw [List.length_map]; omega, fun l' hm nd' so => ?_⟩
        have el := rng_of (N := l.length) nd' so fun x => by
          rw [hm, List.mem_map]
          constructor
          · rintro ⟨j, hj, rfl⟩
            exact ⟨j, hP.lt j hj, rfl⟩
          · rintro ⟨j, hj, rfl⟩
            exact ⟨j, reach hb nd hP.z hP.done j hj, rfl⟩
        refine lenP at2 ⟨l.length, rfl, by omega, ?_⟩
        have er : rngD 0 l.length = l'.map D.int := by
          rw [el, List.map_map]
          unfold rngD
          refine List.map_congr_left fun i _ => ?_
          show D.int (0 + (i : Int)) = D.int (i : Int)
          rw [Int.zero_add]
        rw [er]
        have pl : Pl 2 (.lst (l'.map D.int)) := .lst (PlL.of fun d hd => by obtain ⟨y, _, rfl⟩ := List.mem_map.mp hd; exact .int _)
        refine nePl pl pl (fun b hb => ?_)
        exact bl_f (by rw [hb.mpr rfl]; rfl) (ite_f rfl (.of ⟨hh2, _, _, _, _, _, _, _, _, _, _, _, _, _, _, rfl⟩))
  · obtain ⟨hh, o2, o3, o4, o5, o6, o7, o8, o9, o10, o11, o12, o13, o14, o15, rfl⟩ := hI
    try dsimp only [List.set, getS_z, getS_s, bin2, bin2T, ltD, leD, gtD, geD, cmp_i, add_i, sub_i, min2_i, max2_i]
    refine compD_map (xs := [.int 1, .int 2, .int 3]) (S := fun _ => True) (fun K h => ⟨ln (n := 3) rfl (by decide), _, rfl, h⟩) lenB trivial (ln (n := 3) rfl (by decide)) (fun dd hdd Q h => ?_) ?_
    · obtain ⟨k, hk, rfl⟩ : ∃ k : Int, (k = 1 ∨ k = 2 ∨ k = 3) ∧ dd = .int k := by
        simp only [List.mem_cons, List.not_mem_nil, or_false] at hdd
        rcases hdd with rfl | rfl | rfl
        · exact ⟨1, .inl rfl, rfl⟩
        · exact ⟨2, .inr (.inl rfl), rfl⟩
        · exact ⟨3, .inr (.inr rfl), rfl⟩
      dsimp only [asN, wipeD, List.map, List.set]
      try dsimp only [List.set, getS_z, getS_s, bin2, bin2T, ltD, leD, gtD, geD, cmp_i, add_i, sub_i, min2_i, max2_i]
      have rm : ∀ {l : List T4} {t : T4} {w : List Nat} {u : T4}, Tk (mpl t) w u → Bf (mtu t) [u] 0 l → mtu t = false → mpl t = t → Nn t → Bal t → 0 < det4 t → Bf false [t] 0 l := fun {l t w u} tk hb h1 h2 h3 h4 h5 => by
        rw [h2] at tk
        rw [h1] at hb
        have tk0 : Tk t [] t := ⟨(fun c hc => nomatch hc), one_mul4 t, h3, h4⟩
        obtain ⟨_, rfl⟩ := Tk.uniq h5 tk tk0
        exact hb
      rcases hk with rfl | rfl | rfl
      · refine mk_tab (t := (1, 0, 0, 1)) (n := 10) (by decide) (by decide) ⟨by decide, by decide, by decide, by decide⟩ (by decide) ?_
        refine mk_mill (t := (1, 0, 0, 1)) (n := 10) (by decide) ⟨by decide, by decide, by decide, by decide⟩ (by decide) (by decide) (fun z => absurd (show Nn (1, 0, 0, 1) from ⟨by decide, by decide, by decide, by decide⟩) z) (fun _ z => absurd z (by decide +kernel)) (fun _ _ w u tk hw => ?_) (fun _ _ w u l tk hb _ => ?_)
        · exfalso
          have := len_sum tk.lr tk.nn (by decide +kernel) tk.eq
          have h2 : sum4 (mpl (1, 0, 0, 1)) = 2 := by decide +kernel
          omega
        have b2 := rm tk hb (by decide +kernel) (by decide +kernel) ⟨by decide, by decide, by decide, by decide⟩ ⟨by decide, by decide⟩ (by decide)
        have e1 : l.length = 1 := by rw [bf_O b2]; rfl
        refine ⟨rfl, _, _, _, _, rfl, ⟨by omega, by omega⟩, ?_⟩
        rw [e1]
        exact h
      · refine mk_tab (t := (2, 0, 0, 1)) (n := 10) (by decide) (by decide) ⟨by decide, by decide, by decide, by decide⟩ (by decide) ?_
        refine mk_mill (t := (2, 0, 0, 1)) (n := 10) (by decide) ⟨by decide, by decide, by decide, by decide⟩ (by decide) (by decide) (fun z => absurd (show Nn (2, 0, 0, 1) from ⟨by decide, by decide, by decide, by decide⟩) z) (fun _ z => absurd z (by decide +kernel)) (fun _ _ w u tk hw => ?_) (fun _ _ w u l tk hb _ => ?_)
        · exfalso
          have := len_sum tk.lr tk.nn (by decide +kernel) tk.eq
          have h2 : sum4 (mpl (2, 0, 0, 1)) = 3 := by decide +kernel
          omega
        have b2 := rm tk hb (by decide +kernel) (by decide +kernel) ⟨by decide, by decide, by decide, by decide⟩ ⟨by decide, by decide⟩ (by decide)
        have e1 : l.length = 4 := rooms_2 b2
        refine ⟨rfl, _, _, _, _, rfl, ⟨by omega, by omega⟩, ?_⟩
        rw [e1]
        exact h
      · refine mk_tab (t := (3, 0, 0, 1)) (n := 10) (by decide) (by decide) ⟨by decide, by decide, by decide, by decide⟩ (by decide) ?_
        refine mk_mill (t := (3, 0, 0, 1)) (n := 10) (by decide) ⟨by decide, by decide, by decide, by decide⟩ (by decide) (by decide) (fun z => absurd (show Nn (3, 0, 0, 1) from ⟨by decide, by decide, by decide, by decide⟩) z) (fun _ z => absurd z (by decide +kernel)) (fun _ _ w u tk hw => ?_) (fun _ _ w u l tk hb _ => ?_)
        · exfalso
          have := len_sum tk.lr tk.nn (by decide +kernel) tk.eq
          have h2 : sum4 (mpl (3, 0, 0, 1)) = 4 := by decide +kernel
          omega
        have b2 := rm tk hb (by decide +kernel) (by decide +kernel) ⟨by decide, by decide, by decide, by decide⟩ ⟨by decide, by decide⟩ (by decide)
        have e1 : l.length = 7 := rooms_3 b2
        refine ⟨rfl, _, _, _, _, rfl, ⟨by omega, by omega⟩, ?_⟩
        rw [e1]
        exact h
    · refine ⟨ln (n := 3) rfl (by decide), ?_⟩
      have pl : Pl 2 (.lst [D.int 1, D.int 4, D.int 7]) := .lst (.cons (.int _) (.cons (.int _) (.cons (.int _) .nil)))
      show eqD _ (.lst [D.int 1, D.int 4, D.int 7]) (.lst [D.int 1, D.int 4, D.int 7]) _
      refine eqPl pl pl (fun b hb => ?_)
      rw [hb.mpr rfl]
      exact ⟨_, _, .same, q _⟩
end
def fn : List DefZ := [⟨.g "_law_hand", "_law_hand", "_law_hand", s__law_hand, [], [], false⟩,
  ⟨.pr "Table" "is_mill", "is_mill", "Table.is_mill", s_Table_is_mill, [], [], false⟩,
  ⟨.g "determinant_of", "determinant_of", "determinant_of", s_determinant_of, [], [], false⟩,
  ⟨.g "divisor_of", "divisor_of", "divisor_of", s_divisor_of, [], [], false⟩,
  ⟨.g "divided", "divided", "divided", s_divided, [], [], false⟩,
  ⟨.g "need_size", "need_size", "need_size", s_need_size, [], [], false⟩,
  ⟨.mt "Table" "entries", "entries", "Table.entries", s_Table_entries, [], [], false⟩,
  ⟨.g "least_times", "least_times", "least_times", s_least_times, [], [], false⟩,
  ⟨.g "runs_taken", "runs_taken", "runs_taken", s_runs_taken, [], [], false⟩,
  ⟨.g "word_taken", "word_taken", "word_taken", s_word_taken, [], [], false⟩,
  ⟨.g "columns_exchanged", "columns_exchanged", "columns_exchanged", s_columns_exchanged, [], [], false⟩,
  ⟨.g "other_turn", "other_turn", "other_turn", s_other_turn, [], [], false⟩,
  ⟨.g "product", "product", "product", s_product, [], [], false⟩,
  ⟨.g "machine_of", "machine_of", "machine_of", s_machine_of, [], [], false⟩,
  ⟨.mt "Mill" "__init__", "__init__", "Mill.__init__", s_Milld_initd, [], [], false⟩,
  ⟨.g "is_integer", "is_integer", "is_integer", s_is_integer, [], [], false⟩,
  ⟨.mt "Table" "__init__", "__init__", "Table.__init__", s_Tabled_initd, [], [], false⟩,
  ⟨.g "_law_made", "_law_made", "_law_made", s__law_made, [], [], false⟩,
  ⟨.g "_law_prod", "_law_prod", "_law_prod", s__law_prod, [], [], false⟩,
  ⟨.g "_law_grid", "_law_grid", "_law_grid", s__law_grid, [], [], false⟩,
  ⟨.g "_law_pick", "_law_pick", "_law_pick", s__law_pick, [], [], false⟩,
  ⟨.g "_law_of", "_law_of", "_law_of", s__law_of, [], [], false⟩,
  ⟨.g "_law_word", "_law_word", "_law_word", s__law_word, [], [], false⟩,
  ⟨.g "_law_core", "_law_core", "_law_core", s__law_core, [], [], false⟩,
  ⟨.g "_law_mill", "_law_mill", "_law_mill", s__law_mill, [], [], false⟩,
  ⟨.g "table_with", "table_with", "table_with", s_table_with, [], [], false⟩,
  ⟨.mt "Mill" "rooms", "rooms", "Mill.rooms", s_Mill_rooms, [], [], false⟩,
  ⟨.g "_law_all", "_law_all", "_law_all", s__law_all, [], [], false⟩,
  ⟨.g "is_within", "is_within", "is_within", s_is_within, [], [], false⟩,
  ⟨.g "is_word", "is_word", "is_word", s_is_word, [], [], false⟩,
  ⟨.g "is_turn", "is_turn", "is_turn", s_is_turn, [], [], false⟩,
  ⟨.g "check_turn", "check_turn", "check_turn", s_check_turn, [], [], false⟩,
  ⟨.mt "Mill" "step", "step", "Mill.step", s_Mill_step, [], [], false⟩,
  ⟨.g "_law_walk", "_law_walk", "_law_walk", s__law_walk, [], [], false⟩,
  ⟨.mt "Table" "plain", "plain", "Table.plain", s_Table_plain, [], [], false⟩,
  ⟨.mt "Table" "__eq__", "__eq__", "Table.__eq__", s_Tabled_eqd, [], [], false⟩,
  ⟨.mt "Table" "alike", "alike", "Table.alike", s_Table_alike, [], [], false⟩,
  ⟨.mt "Mill" "__len__", "__len__", "Mill.__len__", s_Milld_lend, [], [], false⟩,
  ⟨.g "law", "law", "law", s_law, [], [], false⟩,
  ⟨.mt "InvalidRoom" "__init__", "__init__", "InvalidRoom.__init__", s_InvalidRoom, [], [], false⟩,
  ⟨.mt "InvalidTable" "__init__", "__init__", "InvalidTable.__init__", s_InvalidTable, [], [], false⟩,
  ⟨.mt "InvalidWord" "__init__", "__init__", "InvalidWord.__init__", s_InvalidWord, [], [], false⟩,
  ⟨.mt "TooGreat" "__init__", "__init__", "TooGreat.__init__", s_TooGreat, [], [], false⟩,
  ⟨.mt "TooLong" "__init__", "__init__", "TooLong.__init__", s_TooLong, [], [], false⟩]
def fa : List FF := [isF (.free "range"),
  isF (.cls "Mill"),
  isF (.free "len"),
  isF (.free "any"),
  isF (.cls "Table"),
  isF (.free "sorted"),
  isF (.free "set"),
  isF (.free "list"),
  isF (.free "all"),
  isF (.noat "Table" "whole"),
  isF (.free "isinstance"),
  isF (.free "bool"),
  isF (.free "int"),
  isF (.noat "Mill" "machine"),
  isF (.str "TURNS" "LR"),
  isF (.free "str"),
  ownF "Table",
  isF (.glo "Table"),
  isF (.free "tuple"),
  isF (.free "abs"),
  isF (.noat "Mill" "given"),
  isF (.noat "Mill" "own_size"),
  isF (.int "MOST_TURNS" 4000),
  isF (.noat "Mill" "same"),
  tupF "RIGHT" [.int 1,.int 1,.int 0,.int 1],
  tupF "LEFT" [.int 1,.int 0,.int 1,.int 1],
  isF (.free "sum"),
  isF (.free "min"),
  isF (.free "zip"),
  isF (.int "MOST_SIZE" 60),
  isF (.glo "law"),
  excF "InvalidRoom",
  isF (.glo "InvalidRoom"),
  isF (.meth "InvalidRoom" "__init__"),
  isF (.noat "InvalidRoom" "tag"),
  isF (.noat "InvalidRoom" "given"),
  excF "InvalidTable",
  isF (.glo "InvalidTable"),
  isF (.meth "InvalidTable" "__init__"),
  isF (.noat "InvalidTable" "tag"),
  excF "InvalidWord",
  isF (.glo "InvalidWord"),
  isF (.meth "InvalidWord" "__init__"),
  isF (.noat "InvalidWord" "tag"),
  isF (.noat "InvalidWord" "given"),
  excF "TooGreat",
  isF (.glo "TooGreat"),
  isF (.meth "TooGreat" "__init__"),
  isF (.noat "TooGreat" "tag"),
  isF (.noat "TooGreat" "most"),
  excF "TooLong",
  isF (.glo "TooLong"),
  isF (.meth "TooLong" "__init__"),
  isF (.noat "TooLong" "tag"),
  isF (.noat "TooLong" "most"),
  isF (.glo "_law_hand"),
  prF "Table" "is_mill",
  isF (.glo "determinant_of"),
  isF (.glo "divisor_of"),
  isF (.glo "divided"),
  isF (.glo "need_size"),
  isF (.meth "Table" "entries"),
  isF (.glo "least_times"),
  isF (.glo "runs_taken"),
  isF (.glo "word_taken"),
  isF (.glo "columns_exchanged"),
  isF (.glo "other_turn"),
  isF (.glo "product"),
  isF (.glo "machine_of"),
  isF (.glo "Mill"),
  isF (.mkr "Mill"),
  isF (.glo "is_integer"),
  isF (.mkr "Table"),
  isF (.glo "_law_made"),
  isF (.glo "_law_prod"),
  isF (.glo "_law_grid"),
  isF (.glo "_law_pick"),
  isF (.glo "_law_of"),
  isF (.glo "_law_word"),
  isF (.glo "_law_core"),
  isF (.glo "_law_mill"),
  isF (.glo "table_with"),
  isF (.meth "Mill" "rooms"),
  isF (.glo "_law_all"),
  isF (.glo "is_within"),
  isF (.glo "is_word"),
  isF (.glo "is_turn"),
  isF (.glo "check_turn"),
  isF (.meth "Mill" "step"),
  isF (.glo "_law_walk"),
  isF (.meth "Table" "plain"),
  isF (.meth "Table" "__eq__"),
  isF (.meth "Table" "alike"),
  isF (.meth "Mill" "__len__")]
structure Xx (l : PySem.W.OpenLaw) (w : World) (K : PySem.W.Frag) (h : Heap) (mg : Str → Option Value) (base : Heap) : Prop where
  KX : K.In h
  G : h.Ns mainGlobals mg
  c : SaysZ fa fn K
section
variable {l : PySem.W.OpenLaw} {w : World} {K : PySem.W.Frag} {h : Heap} {mg : Str → Option Value} {base : Heap}
theorem N_T (X : Xx l w K h mg base) : Txt K mg := {n_range := He.free_ok X.KX X.G (X.c.fact 0), cl_Mill := He.cls_ok (X.c.fact 1), n_len := He.free_ok X.KX X.G (X.c.fact 2), n_any := He.free_ok X.KX X.G (X.c.fact 3), cl_Table := He.cls_ok (X.c.fact 4), n_sorted := He.free_ok X.KX X.G (X.c.fact 5), n_set := He.free_ok X.KX X.G (X.c.fact 6), n_list := He.free_ok X.KX X.G (X.c.fact 7), n_all := He.free_ok X.KX X.G (X.c.fact 8), na_Table_whole := He.noat_ok (X.c.fact 9), n_isinstance := He.free_ok X.KX X.G (X.c.fact 10), n_bool := He.free_ok X.KX X.G (X.c.fact 11), n_int := He.free_ok X.KX X.G (X.c.fact 12), na_Mill_machine := He.noat_ok (X.c.fact 13), k_TURNS := He.str_ok X.KX X.G (X.c.fact 14), n_str := He.free_ok X.KX X.G (X.c.fact 15), io_Table := ownF_ok (X.c.fact 16), gl_Table := He.glo_ok X.KX X.G (X.c.fact 17), n_tuple := He.free_ok X.KX X.G (X.c.fact 18), n_abs := He.free_ok X.KX X.G (X.c.fact 19), na_Mill_given := He.noat_ok (X.c.fact 20), na_Mill_own_size := He.noat_ok (X.c.fact 21), k_MOST_TURNS := He.int_ok X.KX X.G (X.c.fact 22), na_Mill_same := He.noat_ok (X.c.fact 23), k_RIGHT := tupF_ok X.KX X.G (X.c.fact 24) (.cons .int (.cons .int (.cons .int (.cons .int .nil)))), k_LEFT := tupF_ok X.KX X.G (X.c.fact 25) (.cons .int (.cons .int (.cons .int (.cons .int .nil)))), n_sum := He.free_ok X.KX X.G (X.c.fact 26), n_min := He.free_ok X.KX X.G (X.c.fact 27), n_zip := He.free_ok X.KX X.G (X.c.fact 28), k_MOST_SIZE := He.int_ok X.KX X.G (X.c.fact 29)}
theorem N_x_InvalidRoom (X : Xx l w K h mg base) : Xf l.prog w K mg base "InvalidRoom" (He.ga K "InvalidRoom") 1 (tag2 "InvalidRoom" "given") := by
  obtain ⟨fd_InvalidRoom, F_InvalidRoom⟩ := X.c.def_ 39 (by rfl)
  exact ⟨excF_ok (X.c.fact 31), He.glo_ok X.KX X.G (X.c.fact 32), _, fd_InvalidRoom, _, (methF_ok (X.c.fact 33)).at_, beq_iff_eq.mp (methF_ok (X.c.fact 33)).fn, (x1_ok (fun_of F_InvalidRoom) (excF_ok (X.c.fact 31)) (He.noat_ok (X.c.fact 34)) (He.noat_ok (X.c.fact 35)) rfl rfl sc_InvalidRoom rfl rfl (by decide) (by decide)), (FunD.bindsN F_InvalidRoom (fun _ _ _ _ _ _ us h => match us, h with | [_, _], _ => rfl)), rfl⟩
theorem N_x_InvalidTable (X : Xx l w K h mg base) : Xf l.prog w K mg base "InvalidTable" (He.ga K "InvalidTable") 0 (tag1 "InvalidTable") := by
  obtain ⟨fd_InvalidTable, F_InvalidTable⟩ := X.c.def_ 40 (by rfl)
  exact ⟨excF_ok (X.c.fact 36), He.glo_ok X.KX X.G (X.c.fact 37), _, fd_InvalidTable, _, (methF_ok (X.c.fact 38)).at_, beq_iff_eq.mp (methF_ok (X.c.fact 38)).fn, (x0_ok (fun_of F_InvalidTable) (excF_ok (X.c.fact 36)) (He.noat_ok (X.c.fact 39)) rfl rfl sc_InvalidTable rfl), (FunD.bindsN F_InvalidTable (fun _ _ _ _ _ _ us h => match us, h with | [_], _ => rfl)), rfl⟩
theorem N_x_InvalidWord (X : Xx l w K h mg base) : Xf l.prog w K mg base "InvalidWord" (He.ga K "InvalidWord") 1 (tag2 "InvalidWord" "given") := by
  obtain ⟨fd_InvalidWord, F_InvalidWord⟩ := X.c.def_ 41 (by rfl)
  exact ⟨excF_ok (X.c.fact 40), He.glo_ok X.KX X.G (X.c.fact 41), _, fd_InvalidWord, _, (methF_ok (X.c.fact 42)).at_, beq_iff_eq.mp (methF_ok (X.c.fact 42)).fn, (x1_ok (fun_of F_InvalidWord) (excF_ok (X.c.fact 40)) (He.noat_ok (X.c.fact 43)) (He.noat_ok (X.c.fact 44)) rfl rfl sc_InvalidWord rfl rfl (by decide) (by decide)), (FunD.bindsN F_InvalidWord (fun _ _ _ _ _ _ us h => match us, h with | [_, _], _ => rfl)), rfl⟩
theorem N_x_TooGreat (X : Xx l w K h mg base) : Xf l.prog w K mg base "TooGreat" (He.ga K "TooGreat") 1 (tag2 "TooGreat" "most") := by
  obtain ⟨fd_TooGreat, F_TooGreat⟩ := X.c.def_ 42 (by rfl)
  exact ⟨excF_ok (X.c.fact 45), He.glo_ok X.KX X.G (X.c.fact 46), _, fd_TooGreat, _, (methF_ok (X.c.fact 47)).at_, beq_iff_eq.mp (methF_ok (X.c.fact 47)).fn, (x1_ok (fun_of F_TooGreat) (excF_ok (X.c.fact 45)) (He.noat_ok (X.c.fact 48)) (He.noat_ok (X.c.fact 49)) rfl rfl sc_TooGreat rfl rfl (by decide) (by decide)), (FunD.bindsN F_TooGreat (fun _ _ _ _ _ _ us h => match us, h with | [_, _], _ => rfl)), rfl⟩
theorem N_x_TooLong (X : Xx l w K h mg base) : Xf l.prog w K mg base "TooLong" (He.ga K "TooLong") 1 (tag2 "TooLong" "most") := by
  obtain ⟨fd_TooLong, F_TooLong⟩ := X.c.def_ 43 (by rfl)
  exact ⟨excF_ok (X.c.fact 50), He.glo_ok X.KX X.G (X.c.fact 51), _, fd_TooLong, _, (methF_ok (X.c.fact 52)).at_, beq_iff_eq.mp (methF_ok (X.c.fact 52)).fn, (x1_ok (fun_of F_TooLong) (excF_ok (X.c.fact 50)) (He.noat_ok (X.c.fact 53)) (He.noat_ok (X.c.fact 54)) rfl rfl sc_TooLong rfl rfl (by decide) (by decide)), (FunD.bindsN F_TooLong (fun _ _ _ _ _ _ us h => match us, h with | [_, _], _ => rfl)), rfl⟩
theorem N_h__law_hand (X : Xx l w K h mg base) : Gf l.prog w K mg base "_law_hand" 2 (c__law_hand) b__law_hand := by
  obtain ⟨fd__law_hand, F__law_hand⟩ := X.c.def_ 0 (by rfl)
  exact gf_mk (He.glo_ok X.KX X.G (X.c.fact 55)) F__law_hand (ok__law_hand (N_T X) F__law_hand) (all_cons (bind0 F__law_hand 1 rfl (fun _ _ _ _ _ _ us h => match us, h with | [_], _ => rfl)) all_nil)
theorem N_h_Table_is_mill (X : Xx l w K h mg base) : Pf l.prog w K mg base (He.ga K "Table") "is_mill" 2 (c_Table_is_mill (He.ga K "Table")) := by
  obtain ⟨fd_Table_is_mill, F_Table_is_mill⟩ := X.c.def_ 1 (by rfl)
  exact pf_mk (prF_ok (X.c.fact 56)) (ok_Table_is_mill (N_T X) F_Table_is_mill) (bind0 F_Table_is_mill 1 rfl (fun _ _ _ _ _ _ us h => match us, h with | [_], _ => rfl))
theorem N_h_determinant_of (X : Xx l w K h mg base) : Gf l.prog w K mg base "determinant_of" 2 (c_determinant_of) b_determinant_of := by
  obtain ⟨fd_determinant_of, F_determinant_of⟩ := X.c.def_ 2 (by rfl)
  exact gf_mk (He.glo_ok X.KX X.G (X.c.fact 57)) F_determinant_of (ok_determinant_of (N_T X) F_determinant_of) (all_cons (bind0 F_determinant_of 1 rfl (fun _ _ _ _ _ _ us h => match us, h with | [_], _ => rfl)) all_nil)
theorem N_h_divisor_of (X : Xx l w K h mg base) : Gf l.prog w K mg base "divisor_of" 2 (c_divisor_of) b_divisor_of := by
  obtain ⟨fd_divisor_of, F_divisor_of⟩ := X.c.def_ 3 (by rfl)
  exact gf_mk (He.glo_ok X.KX X.G (X.c.fact 58)) F_divisor_of (ok_divisor_of (N_T X) F_divisor_of) (all_cons (bind0 F_divisor_of 1 rfl (fun _ _ _ _ _ _ us h => match us, h with | [_], _ => rfl)) all_nil)
theorem N_h_divided (X : Xx l w K h mg base) : Gf l.prog w K mg base "divided" 3 (c_divided) b_divided := by
  obtain ⟨fd_divided, F_divided⟩ := X.c.def_ 4 (by rfl)
  exact gf_mk (He.glo_ok X.KX X.G (X.c.fact 59)) F_divided (ok_divided (N_T X) (N_h_divisor_of X) F_divided) (all_cons (bind0 F_divided 1 rfl (fun _ _ _ _ _ _ us h => match us, h with | [_], _ => rfl)) all_nil)
theorem N_h_need_size (X : Xx l w K h mg base) : Gf l.prog w K mg base "need_size" 4 (c_need_size (He.ga K "TooGreat")) b_need_size := by
  obtain ⟨fd_need_size, F_need_size⟩ := X.c.def_ 5 (by rfl)
  exact gf_mk (He.glo_ok X.KX X.G (X.c.fact 60)) F_need_size (ok_need_size (N_T X) (N_h_determinant_of X) (N_h_divided X) (N_x_TooGreat X) F_need_size) (all_cons (bind0 F_need_size 1 rfl (fun _ _ _ _ _ _ us h => match us, h with | [_], _ => rfl)) all_nil)
theorem N_h_Table_entries (X : Xx l w K h mg base) : Mf l.prog w K mg base (He.ga K "Table") "entries" 2 (c_Table_entries (He.ga K "Table")) b_Table_entries := by
  obtain ⟨fd_Table_entries, F_Table_entries⟩ := X.c.def_ 6 (by rfl)
  exact mf_mk (methF_ok (X.c.fact 61)) (ok_Table_entries (N_T X) F_Table_entries) (all_cons (bind0 F_Table_entries 1 rfl (fun _ _ _ _ _ _ us h => match us, h with | [_], _ => rfl)) all_nil)
theorem N_h_least_times (X : Xx l w K h mg base) : Gf l.prog w K mg base "least_times" 2 (c_least_times) b_least_times := by
  obtain ⟨fd_least_times, F_least_times⟩ := X.c.def_ 7 (by rfl)
  exact gf_mk (He.glo_ok X.KX X.G (X.c.fact 62)) F_least_times (ok_least_times (N_T X) F_least_times) (all_cons (bind0 F_least_times 2 rfl (fun _ _ _ _ _ _ us h => match us, h with | [_, _], _ => rfl)) all_nil)
theorem N_h_runs_taken (X : Xx l w K h mg base) : Gf l.prog w K mg base "runs_taken" 3 (c_runs_taken) b_runs_taken := by
  obtain ⟨fd_runs_taken, F_runs_taken⟩ := X.c.def_ 8 (by rfl)
  exact gf_mk (He.glo_ok X.KX X.G (X.c.fact 63)) F_runs_taken (ok_runs_taken (N_T X) (N_h_least_times X) F_runs_taken) (all_cons (bind0 F_runs_taken 1 rfl (fun _ _ _ _ _ _ us h => match us, h with | [_], _ => rfl)) all_nil)
theorem N_h_word_taken (X : Xx l w K h mg base) : Gf l.prog w K mg base "word_taken" 4 (c_word_taken (He.ga K "TooLong")) b_word_taken := by
  obtain ⟨fd_word_taken, F_word_taken⟩ := X.c.def_ 9 (by rfl)
  exact gf_mk (He.glo_ok X.KX X.G (X.c.fact 64)) F_word_taken (ok_word_taken (N_T X) (N_h_runs_taken X) (N_x_TooLong X) F_word_taken) (all_cons (bind0 F_word_taken 2 rfl (fun _ _ _ _ _ _ us h => match us, h with | [_, _], _ => rfl)) all_nil)
theorem N_h_columns_exchanged (X : Xx l w K h mg base) : Gf l.prog w K mg base "columns_exchanged" 2 (c_columns_exchanged) b_columns_exchanged := by
  obtain ⟨fd_columns_exchanged, F_columns_exchanged⟩ := X.c.def_ 10 (by rfl)
  exact gf_mk (He.glo_ok X.KX X.G (X.c.fact 65)) F_columns_exchanged (ok_columns_exchanged (N_T X) F_columns_exchanged) (all_cons (bind0 F_columns_exchanged 1 rfl (fun _ _ _ _ _ _ us h => match us, h with | [_], _ => rfl)) all_nil)
theorem N_h_other_turn (X : Xx l w K h mg base) : Gf l.prog w K mg base "other_turn" 2 (c_other_turn) b_other_turn := by
  obtain ⟨fd_other_turn, F_other_turn⟩ := X.c.def_ 11 (by rfl)
  exact gf_mk (He.glo_ok X.KX X.G (X.c.fact 66)) F_other_turn (ok_other_turn (N_T X) F_other_turn) (all_cons (bind0 F_other_turn 1 rfl (fun _ _ _ _ _ _ us h => match us, h with | [_], _ => rfl)) all_nil)
theorem N_h_product (X : Xx l w K h mg base) : Gf l.prog w K mg base "product" 2 (c_product) b_product := by
  obtain ⟨fd_product, F_product⟩ := X.c.def_ 12 (by rfl)
  exact gf_mk (He.glo_ok X.KX X.G (X.c.fact 67)) F_product (ok_product (N_T X) F_product) (all_cons (bind0 F_product 2 rfl (fun _ _ _ _ _ _ us h => match us, h with | [_, _], _ => rfl)) all_nil)
theorem N_h_machine_of (X : Xx l w K h mg base) : Gf l.prog w K mg base "machine_of" 5 (c_machine_of (He.ga K "TooLong")) b_machine_of := by
  obtain ⟨fd_machine_of, F_machine_of⟩ := X.c.def_ 13 (by rfl)
  exact gf_mk (He.glo_ok X.KX X.G (X.c.fact 68)) F_machine_of (ok_machine_of (N_T X) (N_h_divided X) (N_h_determinant_of X) (N_h_word_taken X) (N_h_columns_exchanged X) (N_h_other_turn X) (N_h_product X) F_machine_of) (all_cons (bind0 F_machine_of 2 rfl (fun _ _ _ _ _ _ us h => match us, h with | [_, _], _ => rfl)) all_nil)
theorem N_c_Mill (X : Xx l w K h mg base) : Cf l.prog w K mg base "Mill" (He.ga K "Mill") 6 (c_Milld_initd (He.ga K "Table") (He.ga K "Mill") (He.ga K "InvalidTable") (He.ga K "TooGreat") (He.ga K "TooLong")) b_Milld_initd := by
  obtain ⟨fd_Milld_initd, F_Milld_initd⟩ := X.c.def_ 14 (by rfl)
  exact cf_mk (He.glo_ok X.KX X.G (X.c.fact 69)) (mkrF_ok (X.c.fact 70)) (ok_Milld_initd (N_T X) (N_h_Table_is_mill X) (N_h_need_size X) (N_h_Table_entries X) (N_h_machine_of X) (N_x_InvalidTable X) F_Milld_initd) (all_cons (bind0 F_Milld_initd 2 rfl (fun _ _ _ _ _ _ us h => match us, h with | [_, _], _ => rfl)) all_nil)
theorem N_h_is_integer (X : Xx l w K h mg base) : Gf l.prog w K mg base "is_integer" 2 (c_is_integer) b_is_integer := by
  obtain ⟨fd_is_integer, F_is_integer⟩ := X.c.def_ 15 (by rfl)
  exact gf_mk (He.glo_ok X.KX X.G (X.c.fact 71)) F_is_integer (ok_is_integer (N_T X) F_is_integer) (all_cons (bind0 F_is_integer 1 rfl (fun _ _ _ _ _ _ us h => match us, h with | [_], _ => rfl)) all_nil)
theorem N_c_Table (X : Xx l w K h mg base) : Cf l.prog w K mg base "Table" (He.ga K "Table") 3 (c_Tabled_initd (He.ga K "Table") (He.ga K "InvalidTable")) b_Tabled_initd := by
  obtain ⟨fd_Tabled_initd, F_Tabled_initd⟩ := X.c.def_ 16 (by rfl)
  exact cf_mk (He.glo_ok X.KX X.G (X.c.fact 17)) (mkrF_ok (X.c.fact 72)) (ok_Tabled_initd (N_T X) (N_h_is_integer X) (N_x_InvalidTable X) F_Tabled_initd) (all_cons (bind0 F_Tabled_initd 5 rfl (fun _ _ _ _ _ _ us h => match us, h with | [_, _, _, _, _], _ => rfl)) all_nil)
theorem N_h__law_made (X : Xx l w K h mg base) : Gf l.prog w K mg base "_law_made" 5 (c__law_made (He.ga K "Table")) b__law_made := by
  obtain ⟨fd__law_made, F__law_made⟩ := X.c.def_ 17 (by rfl)
  exact gf_mk (He.glo_ok X.KX X.G (X.c.fact 73)) F__law_made (ok__law_made (N_T X) (N_c_Table X) F__law_made) (all_cons (bind0 F__law_made 1 rfl (fun _ _ _ _ _ _ us h => match us, h with | [_], _ => rfl)) all_nil)
theorem N_h__law_prod (X : Xx l w K h mg base) : Gf l.prog w K mg base "_law_prod" 2 (c__law_prod) b__law_prod := by
  obtain ⟨fd__law_prod, F__law_prod⟩ := X.c.def_ 18 (by rfl)
  exact gf_mk (He.glo_ok X.KX X.G (X.c.fact 74)) F__law_prod (ok__law_prod (N_T X) F__law_prod) (all_cons (bind0 F__law_prod 2 rfl (fun _ _ _ _ _ _ us h => match us, h with | [_, _], _ => rfl)) all_nil)
theorem N_h__law_grid (X : Xx l w K h mg base) : Gf l.prog w K mg base "_law_grid" 3 (c__law_grid) b__law_grid := by
  obtain ⟨fd__law_grid, F__law_grid⟩ := X.c.def_ 19 (by rfl)
  exact gf_mk (He.glo_ok X.KX X.G (X.c.fact 75)) F__law_grid (ok__law_grid (N_T X) (N_h__law_prod X) F__law_grid) (all_cons (bind0 F__law_grid 1 rfl (fun _ _ _ _ _ _ us h => match us, h with | [_], _ => rfl)) all_nil)
theorem N_h__law_pick (X : Xx l w K h mg base) : Gf l.prog w K mg base "_law_pick" 2 (c__law_pick) b__law_pick := by
  obtain ⟨fd__law_pick, F__law_pick⟩ := X.c.def_ 20 (by rfl)
  exact gf_mk (He.glo_ok X.KX X.G (X.c.fact 76)) F__law_pick (ok__law_pick (N_T X) F__law_pick) (all_cons (bind0 F__law_pick 2 rfl (fun _ _ _ _ _ _ us h => match us, h with | [_, _], _ => rfl)) all_nil)
theorem N_h__law_of (X : Xx l w K h mg base) : Gf l.prog w K mg base "_law_of" 3 (c__law_of) b__law_of := by
  obtain ⟨fd__law_of, F__law_of⟩ := X.c.def_ 21 (by rfl)
  exact gf_mk (He.glo_ok X.KX X.G (X.c.fact 77)) F__law_of (ok__law_of (N_T X) (N_h__law_pick X) F__law_of) (all_cons (bind0 F__law_of 2 rfl (fun _ _ _ _ _ _ us h => match us, h with | [_, _], _ => rfl)) all_nil)
theorem N_h__law_word (X : Xx l w K h mg base) : Gf l.prog w K mg base "_law_word" 4 (c__law_word) b__law_word := by
  obtain ⟨fd__law_word, F__law_word⟩ := X.c.def_ 22 (by rfl)
  exact gf_mk (He.glo_ok X.KX X.G (X.c.fact 78)) F__law_word (ok__law_word (N_T X) (N_h__law_pick X) (N_h__law_of X) F__law_word) (all_cons (bind0 F__law_word 2 rfl (fun _ _ _ _ _ _ us h => match us, h with | [_, _], _ => rfl)) all_nil)
theorem N_h__law_core (X : Xx l w K h mg base) : Gf l.prog w K mg base "_law_core" 4 (c__law_core) b__law_core := by
  obtain ⟨fd__law_core, F__law_core⟩ := X.c.def_ 23 (by rfl)
  exact gf_mk (He.glo_ok X.KX X.G (X.c.fact 79)) F__law_core (ok__law_core (N_T X) (N_h__law_pick X) (N_h__law_of X) F__law_core) (all_cons (bind0 F__law_core 2 rfl (fun _ _ _ _ _ _ us h => match us, h with | [_, _], _ => rfl)) all_nil)
theorem N_h__law_mill (X : Xx l w K h mg base) : Gf l.prog w K mg base "_law_mill" 5 (c__law_mill) b__law_mill := by
  obtain ⟨fd__law_mill, F__law_mill⟩ := X.c.def_ 24 (by rfl)
  exact gf_mk (He.glo_ok X.KX X.G (X.c.fact 80)) F__law_mill (ok__law_mill (N_T X) (N_h__law_prod X) (N_h__law_grid X) (N_h__law_word X) (N_h__law_core X) (N_h__law_of X) (N_h__law_pick X) F__law_mill) (all_cons (bind0 F__law_mill 2 rfl (fun _ _ _ _ _ _ us h => match us, h with | [_, _], _ => rfl)) all_nil)
theorem N_h_table_with (X : Xx l w K h mg base) : Gf l.prog w K mg base "table_with" 5 (c_table_with (He.ga K "Table")) b_table_with := by
  obtain ⟨fd_table_with, F_table_with⟩ := X.c.def_ 25 (by rfl)
  exact gf_mk (He.glo_ok X.KX X.G (X.c.fact 81)) F_table_with (ok_table_with (N_T X) (N_c_Table X) F_table_with) (all_cons (bind0 F_table_with 1 rfl (fun _ _ _ _ _ _ us h => match us, h with | [_], _ => rfl)) all_nil)
theorem N_h_Mill_rooms (X : Xx l w K h mg base) : Mf l.prog w K mg base (He.ga K "Mill") "rooms" 6 (c_Mill_rooms (He.ga K "Mill") (He.ga K "Table")) b_Mill_rooms := by
  obtain ⟨fd_Mill_rooms, F_Mill_rooms⟩ := X.c.def_ 26 (by rfl)
  exact mf_mk (methF_ok (X.c.fact 82)) (ok_Mill_rooms (N_T X) (N_h_table_with X) F_Mill_rooms) (all_cons (bind0 F_Mill_rooms 1 rfl (fun _ _ _ _ _ _ us h => match us, h with | [_], _ => rfl)) all_nil)
theorem N_h__law_all (X : Xx l w K h mg base) : Gf l.prog w K mg base "_law_all" 2 (c__law_all) b__law_all := by
  obtain ⟨fd__law_all, F__law_all⟩ := X.c.def_ 27 (by rfl)
  exact gf_mk (He.glo_ok X.KX X.G (X.c.fact 83)) F__law_all (ok__law_all (N_T X) F__law_all) (all_cons (bind0 F__law_all 1 rfl (fun _ _ _ _ _ _ us h => match us, h with | [_], _ => rfl)) all_nil)
theorem N_h_is_within (X : Xx l w K h mg base) : Gf l.prog w K mg base "is_within" 3 (c_is_within) b_is_within := by
  obtain ⟨fd_is_within, F_is_within⟩ := X.c.def_ 28 (by rfl)
  exact gf_mk (He.glo_ok X.KX X.G (X.c.fact 84)) F_is_within (ok_is_within (N_T X) (N_h_is_integer X) F_is_within) (all_cons (bind0 F_is_within 3 rfl (fun _ _ _ _ _ _ us h => match us, h with | [_, _, _], _ => rfl)) all_nil)
theorem N_h_is_word (X : Xx l w K h mg base) : Gf l.prog w K mg base "is_word" 2 (c_is_word) b_is_word := by
  obtain ⟨fd_is_word, F_is_word⟩ := X.c.def_ 29 (by rfl)
  exact gf_mk (He.glo_ok X.KX X.G (X.c.fact 85)) F_is_word (ok_is_word (N_T X) F_is_word) (all_cons (bind0 F_is_word 1 rfl (fun _ _ _ _ _ _ us h => match us, h with | [_], _ => rfl)) all_nil)
theorem N_h_is_turn (X : Xx l w K h mg base) : Gf l.prog w K mg base "is_turn" 3 (c_is_turn) b_is_turn := by
  obtain ⟨fd_is_turn, F_is_turn⟩ := X.c.def_ 30 (by rfl)
  exact gf_mk (He.glo_ok X.KX X.G (X.c.fact 86)) F_is_turn (ok_is_turn (N_T X) (N_h_is_word X) F_is_turn) (all_cons (bind0 F_is_turn 1 rfl (fun _ _ _ _ _ _ us h => match us, h with | [_], _ => rfl)) all_nil)
theorem N_h_check_turn (X : Xx l w K h mg base) : Gf l.prog w K mg base "check_turn" 4 (c_check_turn (He.ga K "InvalidWord")) b_check_turn := by
  obtain ⟨fd_check_turn, F_check_turn⟩ := X.c.def_ 31 (by rfl)
  exact gf_mk (He.glo_ok X.KX X.G (X.c.fact 87)) F_check_turn (ok_check_turn (N_T X) (N_h_is_turn X) (N_x_InvalidWord X) F_check_turn) (all_cons (bind0 F_check_turn 1 rfl (fun _ _ _ _ _ _ us h => match us, h with | [_], _ => rfl)) all_nil)
theorem N_h_Mill_step (X : Xx l w K h mg base) : Mf l.prog w K mg base (He.ga K "Mill") "step" 5 (c_Mill_step (He.ga K "Mill") (He.ga K "InvalidRoom") (He.ga K "InvalidWord")) b_Mill_step := by
  obtain ⟨fd_Mill_step, F_Mill_step⟩ := X.c.def_ 32 (by rfl)
  exact mf_mk (methF_ok (X.c.fact 88)) (ok_Mill_step (N_T X) (N_h_is_within X) (N_h_check_turn X) (N_x_InvalidRoom X) F_Mill_step) (all_cons (bind0 F_Mill_step 3 rfl (fun _ _ _ _ _ _ us h => match us, h with | [_, _, _], _ => rfl)) all_nil)
theorem N_h__law_walk (X : Xx l w K h mg base) : Gf l.prog w K mg base "_law_walk" 6 (c__law_walk (He.ga K "Mill")) b__law_walk := by
  obtain ⟨fd__law_walk, F__law_walk⟩ := X.c.def_ 33 (by rfl)
  exact gf_mk (He.glo_ok X.KX X.G (X.c.fact 89)) F__law_walk (ok__law_walk (N_T X) (N_h_Mill_step X) F__law_walk) (all_cons (bind0 F__law_walk 3 rfl (fun _ _ _ _ _ _ us h => match us, h with | [_, _, _], _ => rfl)) all_nil)
theorem N_h_Table_plain (X : Xx l w K h mg base) : Mf l.prog w K mg base (He.ga K "Table") "plain" 6 (c_Table_plain (He.ga K "Table")) b_Table_plain := by
  obtain ⟨fd_Table_plain, F_Table_plain⟩ := X.c.def_ 34 (by rfl)
  exact mf_mk (methF_ok (X.c.fact 90)) (ok_Table_plain (N_T X) (N_h_divided X) (N_h_table_with X) F_Table_plain) (all_cons (bind0 F_Table_plain 1 rfl (fun _ _ _ _ _ _ us h => match us, h with | [_], _ => rfl)) all_nil)
theorem N_h_Tabled_eqd (X : Xx l w K h mg base) : Mf l.prog w K mg base (He.ga K "Table") "__eq__" 2 (c_Tabled_eqd (He.ga K "Table")) b_Tabled_eqd := by
  obtain ⟨fd_Tabled_eqd, F_Tabled_eqd⟩ := X.c.def_ 35 (by rfl)
  exact mf_mk (methF_ok (X.c.fact 91)) (ok_Tabled_eqd (N_T X) F_Tabled_eqd) (all_cons (bind0 F_Tabled_eqd 2 rfl (fun _ _ _ _ _ _ us h => match us, h with | [_, _], _ => rfl)) all_nil)
theorem N_h_Table_alike (X : Xx l w K h mg base) : Mf l.prog w K mg base (He.ga K "Table") "alike" 7 (c_Table_alike (He.ga K "Table")) b_Table_alike := by
  obtain ⟨fd_Table_alike, F_Table_alike⟩ := X.c.def_ 36 (by rfl)
  exact mf_mk (methF_ok (X.c.fact 92)) (ok_Table_alike (N_T X) (N_h_Table_plain X) (N_h_Tabled_eqd X) F_Table_alike) (all_cons (bind0 F_Table_alike 2 rfl (fun _ _ _ _ _ _ us h => match us, h with | [_, _], _ => rfl)) all_nil)
theorem N_h_Milld_lend (X : Xx l w K h mg base) : Mf l.prog w K mg base (He.ga K "Mill") "__len__" 2 (c_Milld_lend (He.ga K "Mill")) b_Milld_lend := by
  obtain ⟨fd_Milld_lend, F_Milld_lend⟩ := X.c.def_ 37 (by rfl)
  exact mf_mk (methF_ok (X.c.fact 93)) (ok_Milld_lend (N_T X) F_Milld_lend) (all_cons (bind0 F_Milld_lend 1 rfl (fun _ _ _ _ _ _ us h => match us, h with | [_], _ => rfl)) all_nil)
end
theorem all {l : PySem.W.OpenLaw} {w : World} {K : PySem.W.Frag} {h : Heap} {mg : Str → Option Value} {f : Addr} (KX : K.In h) (G : h.Ns mainGlobals mg) (hfa : mg ("law" : Str) = some (.ref f)) (c : SaysZ fa fn K) : LamX.LawAtS l w K (L2.CX l.prog w) 8 63 "_law_script" mg f h := by
  obtain ⟨fd_law, F_law⟩ := c.def_ 38 (by rfl)
  have e0 := hfa.symm.trans (He.glo_ok KX G (c.fact 30))
  cases e0
  refine law_at (c := c_law) (fd := fd_law) (fun s u => FunD.bindsA (ps := ["_law_script"]) F_law (fun _ _ _ _ _ _ us h => match us, h with | [_], _ => rfl) s [u] rfl) (fun base _ _ => ?_) (fun ns hl _ => ⟨ns, rfl, hl, rfl, fun _ => rfl⟩)
  have X : Xx l w K h mg base := ⟨KX, G, c⟩
  exact ok_law (N_T X) (N_h__law_hand X) (N_c_Mill X) (N_h__law_made X) (N_h__law_mill X) (N_h_Mill_rooms X) (N_h__law_all X) (N_h__law_walk X) (N_h_Table_alike X) (N_h_Mill_step X) (N_h_Milld_lend X) (N_c_Table X) F_law
def nms : List Str := (["_wall", "__name__", "MillError", "InvalidWord", "InvalidTable", "InvalidRoom", "TooLong", "TooGreat", "TURNS", "MOST_TURNS", "LEFT", "RIGHT", "is_integer", "is_within", "is_word", "is_turn"] : List Str) ++ (["check_turn", "other_turn", "divisor_of", "product", "divided", "least_times", "runs_taken", "word_taken", "Table", "table_with", "MOST_SIZE", "determinant_of", "columns_exchanged", "need_size", "machine_of", "Mill"] : List Str) ++ (["_law_hand", "_law_pick", "_law_of", "_law_word", "_law_all", "_law_prod", "_law_grid", "_law_core", "_law_mill", "_law_made", "_law_walk"] : List Str)
abbrev R : PySem.W.OpenRow := PySem.W.OpenLaw.row PySem.Challenge.rw_turnmill_k26_whole_fewest_rooms
def adrs : List PySem.Addr := [3, 31, 51, 70, 89, 108, 127, 130, 131, 138, 145, 150, 157, 164, 171, 178, 185, 190, 195, 202, 207, 325, 336, 343, 350, 357, 364, 467, 476, 483, 490, 495, 500, 507, 514, 519, 524, 531, 538, 543, 30, 50, 69, 88, 107, 126, 137, 144, 149, 156, 163, 170, 177, 184, 189, 194, 201, 206, 324, 335, 342, 349, 356, 363, 466, 475, 482, 489, 494, 499, 506, 513, 518, 523, 530, 537, 542, 48, 67, 86, 105, 124, 219, 253, 268, 287, 294, 315, 378, 415, 422, 450, 47, 66, 85, 104, 123, 218, 252, 267, 286, 293, 314, 377, 414, 421, 449, 251]
abbrev hk : PySem.W.Hook := hookE adrs fa fn
def ob (s : PySem.W.SharedT) : He.AlD := obsE adrs fa fn (HandSHeadRun.getT s)
theorem ob_eq (s : PySem.W.SharedT) : ob s = hk.obs s.abs := obsE_eq (HandSHeadRun.getT_eq s)
noncomputable section
open Z
open PySem PySem.W PySem.Calls PyProof.Rows HandSHeadRun
abbrev kH := PyData.keyHash
abbrev eT (P : Params) (s : Str) (n : Nat) (v : Value) : DictEntry := .mk (PyData.keyHash P s) (.str s n) v
abbrev Q0 := Obj
abbrev eO : Obj := .mk .none none (.fields #[]) #[]
abbrev tO (l : List Value) : Obj := .mk (.type "tuple") none (.seq l.toArray 0) #[]
abbrev dO (l : List DictEntry) (n : Nat) : Obj := .mk (.type "dict") none (.dict l.toArray n) #[]
abbrev fO (a b : Str) (s : Stmt) (k : Nat) : Obj := ⟨.none, none, .func ⟨a, b, L2.defArgs s, .stmts (L2.defBody s), L2.defScope s, k, [], .none, .none, .none, .none, none, .none, .none, 0⟩, #[]⟩
abbrev gO (a b : Str) (s : Stmt) (k : Nat) (m : Str) (n r : Nat) : Obj := ⟨.type "function", none, .func ⟨a, b, L2.defArgs s, .stmts (L2.defBody s), L2.defScope s, k, [], .none, .none, .none, .str m n, none, .ref r, .none, 0⟩, #[]⟩
abbrev cO (a b : Str) (n x1 x2 x3 x4 x5 r : Nat) (t : Bool) (y h : Nat) (A B C : Value) (i j k : Nat) : Obj := .mk (.type "code") none (.fields #[.str a n, .str b (n + 1), .str "/claim/cut.py" (n + 2), .int x1 0, .int x2 0, .int x3 0, .int x4 0, .int x5 0, .ref r, .bool t, .int y 0, .ref h, .none, A, B, C, .int i 0, .int j 0, .str "/claim/cut.py" k]) #[]
abbrev rO (a b c : Nat) (m : Str) (n d : Nat) : Obj := .mk (.type "frame") none .plain #[some (.ref a), some (.ref b), some (.ref c), none, some (.str m n), none, some (.ref d)]
abbrev kO (b : Value) (r : List Value) (m : Str) (d a n1 n2 : Nat) (w : String) : Obj := .mk (.type "type") none (.cls (.mk m [b] r d m true [] [] false none false)) #[some (.ref a), none, some (.str m n1), some (.str m n2), some (.builtin w), some (.bool true)]
abbrev bO (s : String) (v : Value) : Obj := .mk (.type "builtin_function_or_method") none (.fields #[.builtin s, v]) #[]
abbrev nO (o : Obj) (a b : BT) : BT := .node o a b
abbrev lO (o : Obj) : BT := .node o .nil .nil
def o1_3 (P : Params) : Q0 := dO [(eT P "__name__" 165 (.str "turnmill.tables" 342)), (eT P "__doc__" 166 .none), (eT P "__package__" 167 .none), (eT P "__loader__" 168 (.builtin "__main__.__loader__#opaque")), (eT P "__spec__" 169 .none), (eT P "__annotations__" 170 (.ref 6)), (eT P "__builtins__" 171 (.ref 4)), (eT P "__file__" 173 (.str "/claim/cut.py" 172)), (eT P "__cached__" 174 .none), (eT P "_wall" 193 (.ref 21)), (eT P "MillError" 213 (.ref 31)), (eT P "InvalidWord" 239 (.ref 51)), (eT P "InvalidTable" 263 (.ref 70)), (eT P "InvalidRoom" 289 (.ref 89)), (eT P "TooLong" 315 (.ref 108)), (eT P "TooGreat" 341 (.ref 127)), (eT P "TURNS" 345 (.str "LR" 344)), (eT P "MOST_TURNS" 347 (.int 4000 346)), (eT P "LEFT" 352 (.ref 130)), (eT P "RIGHT" 357 (.ref 131)), (eT P "is_integer" 364 (.ref 138)), (eT P "is_within" 373 (.ref 145)), (eT P "is_word" 379 (.ref 150)), (eT P "is_turn" 386 (.ref 157)), (eT P "check_turn" 393 (.ref 164)), (eT P "other_turn" 400 (.ref 171)), (eT P "divisor_of" 411 (.ref 178)), (eT P "product" 427 (.ref 185)), (eT P "divided" 433 (.ref 190)), (eT P "least_times" 439 (.ref 195)), (eT P "runs_taken" 453 (.ref 202)), (eT P "word_taken" 459 (.ref 207)), (eT P "Table" 614 (.ref 325))] 33
def o1_11 : Q0 := tO []
def o1_12 : Q0 := (.mk .none none (.fields #[(.int 1 0), (.int 0 0), (.ref 20), (.int 5 0), (.int 0 0), (.ref 27), (.int 7 0), (.int 0 0), (.ref 40), (.int 12 0), (.int 0 0), (.ref 59), (.int 16 0), (.int 0 0), (.ref 78), (.int 21 0), (.int 0 0), (.ref 97), (.int 26 0), (.int 0 0), (.ref 116), (.int 36 0), (.int 0 0), (.ref 137), (.int 38 0), (.int 0 0), (.ref 144), (.int 40 0), (.int 0 0), (.ref 149), (.int 42 0), (.int 0 0), (.ref 156), (.int 44 0), (.int 0 0), (.ref 163), (.int 47 0), (.int 0 0), (.ref 170), (.int 49 0), (.int 0 0), (.ref 177), (.int 57 0), (.int 0 0), (.ref 184), (.int 61 0), (.int 0 0), (.ref 189), (.int 64 0), (.int 0 0), (.ref 194), (.int 66 0), (.int 0 0), (.ref 201), (.int 83 0), (.int 0 0), (.ref 206), (.int 88 0), (.int 0 0), (.ref 213)]) #[])
def o1_13 : Q0 := cO "<module>" "<module>" 182 1 0 0 0 0 11 false 181 12 .none .none .none 185 1 186
def o1_14 : Q0 := rO 13 3 3 "__main__" 164 0
def o1_15 : Q0 := tO []
def o1_16 : Q0 := eO
def o1_17 : Q0 := tO [(.str "k" 190)]
def o1_18 : Q0 := tO []
def o1_19 : Q0 := fO "_wall" "_wall" (top 0) 0
def o1_20 : Q0 := cO "_wall" "_wall" 187 1 1 0 0 3 15 true 181 16 (.ref 17) (.ref 18) (.ref 19) 191 1 192
def o1_21 : Q0 := gO "_wall" "_wall" (top 0) 3 "__main__" 164 20
def o1_22 : Q0 := tO [(.type "ValueError")]
def o1_23 : Q0 := bO "type.__prepare__" (.type "type")
def o1_24 (P : Params) : Q0 := dO [(eT P "__module__" 203 (.str "turnmill.errors" 194)), (eT P "__qualname__" 205 (.str "MillError" 204)), (eT P "__firstlineno__" 207 (.int 5 206)), (eT P "__static_attributes__" 208 (.ref 29))] 4
def o1_25 : Q0 := tO []
def o1_26 : Q0 := eO
def o1_27 : Q0 := cO "MillError" "MillError" 198 5 0 0 0 0 25 false 181 26 .none .none .none 201 5 202
def o1_28 : Q0 := rO 27 3 24 "turnmill.errors" 194 0
def o1_29 : Q0 := tO []
def o1_30 (P : Params) : Q0 := dO [(eT P "__module__" 203 (.str "turnmill.errors" 194)), (eT P "__firstlineno__" 207 (.int 5 206)), (eT P "__static_attributes__" 208 (.ref 29)), (eT P "__weakref__" 210 (.ref 32)), (eT P "__doc__" 211 .none)] 3
def o1_31 : Q0 := (.mk (.type "type") none (.cls (.mk "MillError" [(.type "ValueError")] [(.ref 31), (.type "ValueError"), (.type "Exception"), (.type "BaseException"), (.type "object")] 30 "MillError" true [] [(.ref 51), (.ref 70), (.ref 89), (.ref 108), (.ref 127)] false none false)) #[(some (.ref 22)), none, (some (.str "MillError" 196)), (some (.str "MillError" 204)), (some (.builtin "ValueError.__new__")), (some (.bool true))])
def o1_32 : Q0 := (.mk (.type "getset_descriptor") none (.fields #[(.str "__weakref__" 209), (.ref 31), (.builtin "ExceptionGroup.__weakref__"), .none]) #[])
def o1_33 : Q0 := (.mk (.type "super") none (.fields #[(.ref 31), (.ref 31), (.ref 31)]) #[])
def o1_34 : Q0 := bO "object.__init_subclass__" (.ref 31)
def o1_35 : Q0 := tO [(.ref 31)]
def o1_36 : Q0 := bO "type.__prepare__" (.type "type")
def o1_37 (P : Params) : Q0 := dO [(eT P "__module__" 221 (.str "turnmill.errors" 194)), (eT P "__qualname__" 223 (.str "InvalidWord" 222)), (eT P "__firstlineno__" 225 (.int 7 224)), (eT P "__init__" 233 (.ref 48)), (eT P "__static_attributes__" 236 (.ref 49))] 5
def o1_38 : Q0 := tO []
def o1_39 : Q0 := (.mk .none none (.fields #[(.int 9 0), (.int 4 0), (.ref 47)]) #[])
def o1_40 : Q0 := cO "InvalidWord" "InvalidWord" 216 7 0 0 0 0 38 false 181 39 .none .none .none 219 7 220
def o1_41 : Q0 := rO 40 3 37 "turnmill.errors" 194 0
def o1_42 : Q0 := tO []
def o1_43 : Q0 := eO
def o1_44 : Q0 := tO [(.str "self" 229), (.str "given" 230)]
def o1_45 : Q0 := tO []
def o1_46 : Q0 := fO "__init__" "InvalidWord.__init__" (L2.inClass (top 3) 0) 0
def o1_47 : Q0 := cO "__init__" "InvalidWord.__init__" 226 9 2 0 0 3 42 true 181 43 (.ref 44) (.ref 45) (.ref 46) 231 9 232
def o1_48 : Q0 := gO "__init__" "InvalidWord.__init__" (L2.inClass (top 3) 0) 3 "turnmill.errors" 194 47
def o1_49 : Q0 := tO [(.str "given" 234), (.str "tag" 235)]
def o1_50 (P : Params) : Q0 := dO [(eT P "__module__" 221 (.str "turnmill.errors" 194)), (eT P "__firstlineno__" 225 (.int 7 224)), (eT P "__init__" 233 (.ref 48)), (eT P "__static_attributes__" 236 (.ref 49)), (eT P "__doc__" 237 .none)] 2
def o1_51 : Q0 := kO (.ref 31) [(.ref 51), (.ref 31), (.type "ValueError"), (.type "Exception"), (.type "BaseException"), (.type "object")] "InvalidWord" 50 35 214 222 "ValueError.__new__"
def o1_52 : Q0 := (.mk (.type "super") none (.fields #[(.ref 51), (.ref 51), (.ref 51)]) #[])
def o1_53 : Q0 := bO "object.__init_subclass__" (.ref 51)
def o1_54 : Q0 := tO [(.ref 31)]
def o1_55 : Q0 := bO "type.__prepare__" (.type "type")
def o1_56 (P : Params) : Q0 := dO [(eT P "__module__" 247 (.str "turnmill.errors" 194)), (eT P "__qualname__" 249 (.str "InvalidTable" 248)), (eT P "__firstlineno__" 251 (.int 12 250)), (eT P "__init__" 258 (.ref 67)), (eT P "__static_attributes__" 260 (.ref 68))] 5
def o1_57 : Q0 := tO []
def o1_58 : Q0 := (.mk .none none (.fields #[(.int 14 0), (.int 4 0), (.ref 66)]) #[])
def o1_59 : Q0 := cO "InvalidTable" "InvalidTable" 242 12 0 0 0 0 57 false 181 58 .none .none .none 245 12 246
def o1_60 : Q0 := rO 59 3 56 "turnmill.errors" 194 0
def o1_61 : Q0 := tO []
def o1_62 : Q0 := eO
def o1_63 : Q0 := tO [(.str "self" 255)]
def o1_64 : Q0 := tO []
def o1_65 : Q0 := fO "__init__" "InvalidTable.__init__" (L2.inClass (top 4) 0) 0
def o1_66 : Q0 := cO "__init__" "InvalidTable.__init__" 252 14 1 0 0 3 61 true 181 62 (.ref 63) (.ref 64) (.ref 65) 256 14 257
def o1_67 : Q0 := gO "__init__" "InvalidTable.__init__" (L2.inClass (top 4) 0) 3 "turnmill.errors" 194 66
def o1_68 : Q0 := tO [(.str "tag" 259)]
def o1_69 (P : Params) : Q0 := dO [(eT P "__module__" 247 (.str "turnmill.errors" 194)), (eT P "__firstlineno__" 251 (.int 12 250)), (eT P "__init__" 258 (.ref 67)), (eT P "__static_attributes__" 260 (.ref 68)), (eT P "__doc__" 261 .none)] 2
def o1_70 : Q0 := kO (.ref 31) [(.ref 70), (.ref 31), (.type "ValueError"), (.type "Exception"), (.type "BaseException"), (.type "object")] "InvalidTable" 69 54 240 248 "ValueError.__new__"
def o1_71 : Q0 := (.mk (.type "super") none (.fields #[(.ref 70), (.ref 70), (.ref 70)]) #[])
def o1_72 : Q0 := bO "object.__init_subclass__" (.ref 70)
def o1_73 : Q0 := tO [(.ref 31)]
def o1_74 : Q0 := bO "type.__prepare__" (.type "type")
def o1_75 (P : Params) : Q0 := dO [(eT P "__module__" 271 (.str "turnmill.errors" 194)), (eT P "__qualname__" 273 (.str "InvalidRoom" 272)), (eT P "__firstlineno__" 275 (.int 16 274)), (eT P "__init__" 283 (.ref 86)), (eT P "__static_attributes__" 286 (.ref 87))] 5
def o1_76 : Q0 := tO []
def o1_77 : Q0 := (.mk .none none (.fields #[(.int 18 0), (.int 4 0), (.ref 85)]) #[])
def o1_78 : Q0 := cO "InvalidRoom" "InvalidRoom" 266 16 0 0 0 0 76 false 181 77 .none .none .none 269 16 270
def o1_79 : Q0 := rO 78 3 75 "turnmill.errors" 194 0
def o1_80 : Q0 := tO []
def o1_81 : Q0 := eO
def o1_82 : Q0 := tO [(.str "self" 279), (.str "given" 280)]
def o1_83 : Q0 := tO []
def o1_84 : Q0 := fO "__init__" "InvalidRoom.__init__" (L2.inClass (top 5) 0) 0
def o1_85 : Q0 := cO "__init__" "InvalidRoom.__init__" 276 18 2 0 0 3 80 true 181 81 (.ref 82) (.ref 83) (.ref 84) 281 18 282
def o1_86 : Q0 := gO "__init__" "InvalidRoom.__init__" (L2.inClass (top 5) 0) 3 "turnmill.errors" 194 85
def o1_87 : Q0 := tO [(.str "given" 284), (.str "tag" 285)]
def o1_88 (P : Params) : Q0 := dO [(eT P "__module__" 271 (.str "turnmill.errors" 194)), (eT P "__firstlineno__" 275 (.int 16 274)), (eT P "__init__" 283 (.ref 86)), (eT P "__static_attributes__" 286 (.ref 87)), (eT P "__doc__" 287 .none)] 2
def o1_89 : Q0 := kO (.ref 31) [(.ref 89), (.ref 31), (.type "ValueError"), (.type "Exception"), (.type "BaseException"), (.type "object")] "InvalidRoom" 88 73 264 272 "ValueError.__new__"
def o1_90 : Q0 := (.mk (.type "super") none (.fields #[(.ref 89), (.ref 89), (.ref 89)]) #[])
def o1_91 : Q0 := bO "object.__init_subclass__" (.ref 89)
def o1_92 : Q0 := tO [(.ref 31)]
def o1_93 : Q0 := bO "type.__prepare__" (.type "type")
def o1_94 (P : Params) : Q0 := dO [(eT P "__module__" 297 (.str "turnmill.errors" 194)), (eT P "__qualname__" 299 (.str "TooLong" 298)), (eT P "__firstlineno__" 301 (.int 21 300)), (eT P "__init__" 309 (.ref 105)), (eT P "__static_attributes__" 312 (.ref 106))] 5
def o1_95 : Q0 := tO []
def o1_96 : Q0 := (.mk .none none (.fields #[(.int 23 0), (.int 4 0), (.ref 104)]) #[])
def o1_97 : Q0 := cO "TooLong" "TooLong" 292 21 0 0 0 0 95 false 181 96 .none .none .none 295 21 296
def o1_98 : Q0 := rO 97 3 94 "turnmill.errors" 194 0
def o1_99 : Q0 := tO []
def o1_100 : Q0 := eO
def o1_101 : Q0 := tO [(.str "self" 305), (.str "most" 306)]
def o1_102 : Q0 := tO []
def o1_103 : Q0 := fO "__init__" "TooLong.__init__" (L2.inClass (top 6) 0) 0
def o1_104 : Q0 := cO "__init__" "TooLong.__init__" 302 23 2 0 0 3 99 true 181 100 (.ref 101) (.ref 102) (.ref 103) 307 23 308
def o1_105 : Q0 := gO "__init__" "TooLong.__init__" (L2.inClass (top 6) 0) 3 "turnmill.errors" 194 104
def o1_106 : Q0 := tO [(.str "most" 310), (.str "tag" 311)]
def o1_107 (P : Params) : Q0 := dO [(eT P "__module__" 297 (.str "turnmill.errors" 194)), (eT P "__firstlineno__" 301 (.int 21 300)), (eT P "__init__" 309 (.ref 105)), (eT P "__static_attributes__" 312 (.ref 106)), (eT P "__doc__" 313 .none)] 2
def o1_108 : Q0 := kO (.ref 31) [(.ref 108), (.ref 31), (.type "ValueError"), (.type "Exception"), (.type "BaseException"), (.type "object")] "TooLong" 107 92 290 298 "ValueError.__new__"
def o1_109 : Q0 := (.mk (.type "super") none (.fields #[(.ref 108), (.ref 108), (.ref 108)]) #[])
def o1_110 : Q0 := bO "object.__init_subclass__" (.ref 108)
def o1_111 : Q0 := tO [(.ref 31)]
def o1_112 : Q0 := bO "type.__prepare__" (.type "type")
def o1_113 (P : Params) : Q0 := dO [(eT P "__module__" 323 (.str "turnmill.errors" 194)), (eT P "__qualname__" 325 (.str "TooGreat" 324)), (eT P "__firstlineno__" 327 (.int 26 326)), (eT P "__init__" 335 (.ref 124)), (eT P "__static_attributes__" 338 (.ref 125))] 5
def o1_114 : Q0 := tO []
def o1_115 : Q0 := (.mk .none none (.fields #[(.int 28 0), (.int 4 0), (.ref 123)]) #[])
def o1_116 : Q0 := cO "TooGreat" "TooGreat" 318 26 0 0 0 0 114 false 181 115 .none .none .none 321 26 322
def o1_117 : Q0 := rO 116 3 113 "turnmill.errors" 194 0
def o1_118 : Q0 := tO []
def o1_119 : Q0 := eO
def o1_120 : Q0 := tO [(.str "self" 331), (.str "most" 332)]
def o1_121 : Q0 := tO []
def o1_122 : Q0 := fO "__init__" "TooGreat.__init__" (L2.inClass (top 7) 0) 0
def o1_123 : Q0 := cO "__init__" "TooGreat.__init__" 328 28 2 0 0 3 118 true 181 119 (.ref 120) (.ref 121) (.ref 122) 333 28 334
def o1_124 : Q0 := gO "__init__" "TooGreat.__init__" (L2.inClass (top 7) 0) 3 "turnmill.errors" 194 123
def o1_125 : Q0 := tO [(.str "most" 336), (.str "tag" 337)]
def o1_126 (P : Params) : Q0 := dO [(eT P "__module__" 323 (.str "turnmill.errors" 194)), (eT P "__firstlineno__" 327 (.int 26 326)), (eT P "__init__" 335 (.ref 124)), (eT P "__static_attributes__" 338 (.ref 125)), (eT P "__doc__" 339 .none)] 2
def o1_127 : Q0 := kO (.ref 31) [(.ref 127), (.ref 31), (.type "ValueError"), (.type "Exception"), (.type "BaseException"), (.type "object")] "TooGreat" 126 111 316 324 "ValueError.__new__"
def o1_128 : Q0 := (.mk (.type "super") none (.fields #[(.ref 127), (.ref 127), (.ref 127)]) #[])
def o1_129 : Q0 := bO "object.__init_subclass__" (.ref 127)
def o1_130 : Q0 := tO [(.int 1 348), (.int 0 349), (.int 1 350), (.int 1 351)]
def o1_131 : Q0 := tO [(.int 1 353), (.int 1 354), (.int 0 355), (.int 1 356)]
def o1_132 : Q0 := tO []
def o1_133 : Q0 := eO
def o1_134 : Q0 := tO [(.str "value" 361)]
def o1_135 : Q0 := tO []
def o1_136 : Q0 := fO "is_integer" "is_integer" (top 13) 0
def o1_137 : Q0 := cO "is_integer" "is_integer" 358 36 1 0 0 3 132 true 181 133 (.ref 134) (.ref 135) (.ref 136) 362 36 363
def o1_138 : Q0 := gO "is_integer" "is_integer" (top 13) 3 "turnmill.tables" 342 137
def o1_139 : Q0 := tO []
def o1_140 : Q0 := eO
def o1_141 : Q0 := tO [(.str "value" 368), (.str "least" 369), (.str "most" 370)]
def o1_142 : Q0 := tO []
def o1_143 : Q0 := fO "is_within" "is_within" (top 14) 0
def o1_144 : Q0 := cO "is_within" "is_within" 365 38 3 0 0 3 139 true 181 140 (.ref 141) (.ref 142) (.ref 143) 371 38 372
def o1_145 : Q0 := gO "is_within" "is_within" (top 14) 3 "turnmill.tables" 342 144
def o1_146 : Q0 := tO []
def o1_147 : Q0 := eO
def o1_148 : Q0 := fO "is_word" "is_word" (top 15) 0
def o1_149 : Q0 := cO "is_word" "is_word" 374 40 1 0 0 3 146 true 181 147 .none .none (.ref 148) 377 40 378
def o1_150 : Q0 := gO "is_word" "is_word" (top 15) 3 "turnmill.tables" 342 149
def o1_151 : Q0 := tO []
def o1_152 : Q0 := eO
def o1_153 : Q0 := tO [(.str "value" 383)]
def o1_154 : Q0 := tO []
def o1_155 : Q0 := fO "is_turn" "is_turn" (top 16) 0
def o1_156 : Q0 := cO "is_turn" "is_turn" 380 42 1 0 0 3 151 true 181 152 (.ref 153) (.ref 154) (.ref 155) 384 42 385
def o1_157 : Q0 := gO "is_turn" "is_turn" (top 16) 3 "turnmill.tables" 342 156
def o1_158 : Q0 := tO []
def o1_159 : Q0 := eO
def o1_160 : Q0 := tO [(.str "value" 390)]
def o1_161 : Q0 := tO []
def o1_162 : Q0 := fO "check_turn" "check_turn" (top 17) 0
def o1_163 : Q0 := cO "check_turn" "check_turn" 387 44 1 0 0 3 158 true 181 159 (.ref 160) (.ref 161) (.ref 162) 391 44 392
def o1_164 : Q0 := gO "check_turn" "check_turn" (top 17) 3 "turnmill.tables" 342 163
def o1_165 : Q0 := tO []
def o1_166 : Q0 := eO
def o1_167 : Q0 := tO [(.str "turn" 397)]
def o1_168 : Q0 := tO []
def o1_169 : Q0 := fO "other_turn" "other_turn" (top 18) 0
def o1_170 : Q0 := cO "other_turn" "other_turn" 394 47 1 0 0 3 165 true 181 166 (.ref 167) (.ref 168) (.ref 169) 398 47 399
def o1_171 : Q0 := gO "other_turn" "other_turn" (top 18) 3 "turnmill.tables" 342 170
def o1_172 : Q0 := tO []
def o1_173 : Q0 := eO
def o1_174 : Q0 := tO [(.str "numbers" 404), (.str "found" 405), (.str "number" 406), (.str "one" 407), (.str "other" 408)]
def o1_175 : Q0 := tO []
def o1_176 : Q0 := fO "divisor_of" "divisor_of" (top 19) 0
def o1_177 : Q0 := cO "divisor_of" "divisor_of" 401 49 1 0 0 3 172 true 181 173 (.ref 174) (.ref 175) (.ref 176) 409 49 410
def o1_178 : Q0 := gO "divisor_of" "divisor_of" (top 19) 3 "turnmill.tables" 342 177
def o1_179 : Q0 := tO []
def o1_180 : Q0 := eO
def o1_181 : Q0 := tO [(.str "one" 415), (.str "other" 416), (.str "a" 417), (.str "b" 418), (.str "c" 419), (.str "d" 420), (.str "e" 421), (.str "f" 422), (.str "g" 423), (.str "h" 424)]
def o1_182 : Q0 := tO []
def o1_183 : Q0 := fO "product" "product" (top 20) 0
def o1_184 : Q0 := cO "product" "product" 412 57 2 0 0 3 179 true 181 180 (.ref 181) (.ref 182) (.ref 183) 425 57 426
def o1_185 : Q0 := gO "product" "product" (top 20) 3 "turnmill.tables" 342 184
def o1_186 : Q0 := tO []
def o1_187 : Q0 := eO
def o1_188 : Q0 := fO "divided" "divided" (top 21) 0
def o1_189 : Q0 := cO "divided" "divided" 428 61 1 0 0 3 186 true 181 187 .none .none (.ref 188) 431 61 432
def o1_190 : Q0 := gO "divided" "divided" (top 21) 3 "turnmill.tables" 342 189
def o1_191 : Q0 := tO []
def o1_192 : Q0 := eO
def o1_193 : Q0 := fO "least_times" "least_times" (top 22) 0
def o1_194 : Q0 := cO "least_times" "least_times" 434 64 2 0 0 3 191 true 181 192 .none .none (.ref 193) 437 64 438
def o1_195 : Q0 := gO "least_times" "least_times" (top 22) 3 "turnmill.tables" 342 194
def o1_196 : Q0 := tO []
def o1_197 : Q0 := eO
def o1_198 : Q0 := tO [(.str "entries" 443), (.str "a" 444), (.str "b" 445), (.str "c" 446), (.str "d" 447), (.str "runs" 448), (.str "searching" 449), (.str "count" 450)]
def o1_199 : Q0 := tO []
def o1_200 : Q0 := fO "runs_taken" "runs_taken" (top 23) 0
def o1_201 : Q0 := cO "runs_taken" "runs_taken" 440 66 1 0 0 3 196 true 181 197 (.ref 198) (.ref 199) (.ref 200) 451 66 452
def o1_202 : Q0 := gO "runs_taken" "runs_taken" (top 23) 3 "turnmill.tables" 342 201
def o1_203 : Q0 := tO []
def o1_204 : Q0 := eO
def o1_205 : Q0 := fO "word_taken" "word_taken" (top 24) 0
def o1_206 : Q0 := cO "word_taken" "word_taken" 454 83 2 0 0 3 203 true 181 204 .none .none (.ref 205) 457 83 458
def o1_207 : Q0 := gO "word_taken" "word_taken" (top 24) 3 "turnmill.tables" 342 206
def o1_208 : Q0 := tO []
def o1_209 : Q0 := bO "type.__prepare__" (.type "type")
def o1_210 (P : Params) : Q0 := dO [(eT P "__module__" 467 (.str "turnmill.tables" 342)), (eT P "__qualname__" 469 (.str "Table" 468)), (eT P "__firstlineno__" 471 (.int 88 470)), (eT P "__init__" 477 (.ref 219)), (eT P "of_word" 496 (.ref 228)), (eT P "determinant" 508 (.ref 237)), (eT P "common" 516 (.ref 245)), (eT P "is_mill" 524 (.ref 253)), (eT P "is_balanced" 532 (.ref 261)), (eT P "entries" 539 (.ref 268)), (eT P "power" 547 (.ref 275)), (eT P "back" 554 (.ref 282)), (eT P "plain" 560 (.ref 287)), (eT P "alike" 568 (.ref 294)), (eT P "taken" 577 (.ref 301)), (eT P "__mul__" 585 (.ref 308)), (eT P "__eq__" 593 (.ref 315)), (eT P "__repr__" 604 (.ref 322)), (eT P "__static_attributes__" 606 (.ref 323))] 19
def o1_211 : Q0 := tO []
def o1_212 : Q0 := (.mk .none none (.fields #[(.int 90 0), (.int 4 0), (.ref 218), (.int 96 0), (.int 4 0), (.ref 225), (.int 100 0), (.int 4 0), (.ref 235), (.int 105 0), (.int 4 0), (.ref 243), (.int 109 0), (.int 4 0), (.ref 251), (.int 113 0), (.int 4 0), (.ref 259), (.int 116 0), (.int 4 0), (.ref 267), (.int 119 0), (.int 4 0), (.ref 274), (.int 122 0), (.int 4 0), (.ref 281), (.int 125 0), (.int 4 0), (.ref 286), (.int 130 0), (.int 4 0), (.ref 293), (.int 133 0), (.int 4 0), (.ref 300), (.int 139 0), (.int 4 0), (.ref 307), (.int 142 0), (.int 4 0), (.ref 314), (.int 145 0), (.int 4 0), (.ref 321)]) #[])
def o1_213 : Q0 := cO "Table" "Table" 462 88 0 0 0 0 211 false 181 212 .none .none .none 465 88 466
def o1_214 : Q0 := rO 213 3 210 "turnmill.tables" 342 0
def o1_215 : Q0 := tO []
def o1_216 : Q0 := eO
def o1_217 : Q0 := fO "__init__" "Table.__init__" (L2.inClass (top 25) 0) 0
def o1_218 : Q0 := cO "__init__" "Table.__init__" 472 90 5 0 0 3 215 true 181 216 .none .none (.ref 217) 475 90 476
def o1_219 : Q0 := gO "__init__" "Table.__init__" (L2.inClass (top 25) 0) 3 "turnmill.tables" 342 218
def o1_220 : Q0 := tO []
def o1_221 : Q0 := eO
def o1_222 : Q0 := tO [(.str "word" 481)]
def o1_223 : Q0 := tO []
def o1_224 : Q0 := fO "of_word" "Table.of_word" (L2.inClass (top 25) 1) 0
def o1_225 : Q0 := cO "of_word" "Table.of_word" 478 95 1 0 0 3 220 true 181 221 (.ref 222) (.ref 223) (.ref 224) 482 95 483
def o1_226 : Q0 := ⟨(.type "function"), none, .func ⟨"of_word", "Table.of_word", L2.defArgs (L2.inClass (top 25) 1), .stmts (L2.defBody (L2.inClass (top 25) 1)), L2.defScope (L2.inClass (top 25) 1), 3, [], .none, .none, .none, (.str "turnmill.tables" 342), (some 229), (.ref 225), .none, 0⟩, #[]⟩
def o1_227 (P : Params) : Q0 := dO [(eT P "__module__" 485 (.str "turnmill.tables" 342)), (eT P "__name__" 488 (.str "of_word" 487)), (eT P "__qualname__" 491 (.str "Table.of_word" 490)), (eT P "__doc__" 493 .none), (eT P "__annotations__" 495 (.ref 229))] 5
def o1_228 : Q0 := (.mk (.type "staticmethod") (some 227) (.fields #[(.ref 226), (.bool false)]) #[])
def o1_229 : Q0 := dO [] 0
def o1_230 : Q0 := tO []
def o1_231 : Q0 := eO
def o1_232 : Q0 := tO [(.str "self" 500), (.str "a" 501), (.str "b" 502), (.str "c" 503), (.str "d" 504)]
def o1_233 : Q0 := tO []
def o1_234 : Q0 := fO "determinant" "Table.determinant" (L2.inClass (top 25) 2) 0
def o1_235 : Q0 := cO "determinant" "Table.determinant" 497 99 1 0 0 3 230 true 181 231 (.ref 232) (.ref 233) (.ref 234) 505 99 506
def o1_236 : Q0 := gO "determinant" "Table.determinant" (L2.inClass (top 25) 2) 3 "turnmill.tables" 342 235
def o1_237 : Q0 := (.mk (.type "property") none (.fields #[(.ref 236), .none, .none, .none, (.str "determinant" 508), (.bool false)]) #[])
def o1_238 : Q0 := tO []
def o1_239 : Q0 := eO
def o1_240 : Q0 := tO [(.str "self" 512)]
def o1_241 : Q0 := tO []
def o1_242 : Q0 := fO "common" "Table.common" (L2.inClass (top 25) 3) 0
def o1_243 : Q0 := cO "common" "Table.common" 509 104 1 0 0 3 238 true 181 239 (.ref 240) (.ref 241) (.ref 242) 513 104 514
def o1_244 : Q0 := gO "common" "Table.common" (L2.inClass (top 25) 3) 3 "turnmill.tables" 342 243
def o1_245 : Q0 := (.mk (.type "property") none (.fields #[(.ref 244), .none, .none, .none, (.str "common" 516), (.bool false)]) #[])
def o1_246 : Q0 := tO []
def o1_247 : Q0 := eO
def o1_248 : Q0 := tO [(.str "self" 520)]
def o1_249 : Q0 := tO []
def o1_250 : Q0 := fO "is_mill" "Table.is_mill" (L2.inClass (top 25) 4) 0
def o1_251 : Q0 := cO "is_mill" "Table.is_mill" 517 108 1 0 0 3 246 true 181 247 (.ref 248) (.ref 249) (.ref 250) 521 108 522
def o1_252 : Q0 := gO "is_mill" "Table.is_mill" (L2.inClass (top 25) 4) 3 "turnmill.tables" 342 251
def o1_253 : Q0 := (.mk (.type "property") none (.fields #[(.ref 252), .none, .none, .none, (.str "is_mill" 524), (.bool false)]) #[])
def o1_254 : Q0 := tO []
def o1_255 : Q0 := eO
def o1_256 : Q0 := tO [(.str "self" 528)]
def o1_257 : Q0 := tO []
def o1_258 : Q0 := fO "is_balanced" "Table.is_balanced" (L2.inClass (top 25) 5) 0
def o1_259 : Q0 := cO "is_balanced" "Table.is_balanced" 525 112 1 0 0 3 254 true 181 255 (.ref 256) (.ref 257) (.ref 258) 529 112 530
def o1_260 : Q0 := gO "is_balanced" "Table.is_balanced" (L2.inClass (top 25) 5) 3 "turnmill.tables" 342 259
def o1_261 : Q0 := (.mk (.type "property") none (.fields #[(.ref 260), .none, .none, .none, (.str "is_balanced" 532), (.bool false)]) #[])
def o1_262 : Q0 := tO []
def o1_263 : Q0 := eO
def o1_264 : Q0 := tO [(.str "self" 536)]
def o1_265 : Q0 := tO []
def o1_266 : Q0 := fO "entries" "Table.entries" (L2.inClass (top 25) 6) 0
def o1_267 : Q0 := cO "entries" "Table.entries" 533 116 1 0 0 3 262 true 181 263 (.ref 264) (.ref 265) (.ref 266) 537 116 538
def o1_268 : Q0 := gO "entries" "Table.entries" (L2.inClass (top 25) 6) 3 "turnmill.tables" 342 267
def o1_269 : Q0 := tO []
def o1_270 : Q0 := eO
def o1_271 : Q0 := tO [(.str "self" 543), (.str "count" 544)]
def o1_272 : Q0 := tO []
def o1_273 : Q0 := fO "power" "Table.power" (L2.inClass (top 25) 7) 0
def o1_274 : Q0 := cO "power" "Table.power" 540 119 2 0 0 3 269 true 181 270 (.ref 271) (.ref 272) (.ref 273) 545 119 546
def o1_275 : Q0 := gO "power" "Table.power" (L2.inClass (top 25) 7) 3 "turnmill.tables" 342 274
def o1_276 : Q0 := tO []
def o1_277 : Q0 := eO
def o1_278 : Q0 := tO [(.str "self" 551)]
def o1_279 : Q0 := tO []
def o1_280 : Q0 := fO "back" "Table.back" (L2.inClass (top 25) 8) 0
def o1_281 : Q0 := cO "back" "Table.back" 548 122 1 0 0 3 276 true 181 277 (.ref 278) (.ref 279) (.ref 280) 552 122 553
def o1_282 : Q0 := gO "back" "Table.back" (L2.inClass (top 25) 8) 3 "turnmill.tables" 342 281
def o1_283 : Q0 := tO []
def o1_284 : Q0 := eO
def o1_285 : Q0 := fO "plain" "Table.plain" (L2.inClass (top 25) 9) 0
def o1_286 : Q0 := cO "plain" "Table.plain" 555 125 1 0 0 3 283 true 181 284 .none .none (.ref 285) 558 125 559
def o1_287 : Q0 := gO "plain" "Table.plain" (L2.inClass (top 25) 9) 3 "turnmill.tables" 342 286
def o1_288 : Q0 := tO []
def o1_289 : Q0 := eO
def o1_290 : Q0 := tO [(.str "self" 564), (.str "other" 565)]
def o1_291 : Q0 := tO []
def o1_292 : Q0 := fO "alike" "Table.alike" (L2.inClass (top 25) 10) 0
def o1_293 : Q0 := cO "alike" "Table.alike" 561 130 2 0 0 3 288 true 181 289 (.ref 290) (.ref 291) (.ref 292) 566 130 567
def o1_294 : Q0 := gO "alike" "Table.alike" (L2.inClass (top 25) 10) 3 "turnmill.tables" 342 293
def o1_295 : Q0 := tO []
def o1_296 : Q0 := eO
def o1_297 : Q0 := tO [(.str "self" 572), (.str "word" 573), (.str "left" 574)]
def o1_298 : Q0 := tO []
def o1_299 : Q0 := fO "taken" "Table.taken" (L2.inClass (top 25) 11) 0
def o1_300 : Q0 := cO "taken" "Table.taken" 569 133 1 0 0 3 295 true 181 296 (.ref 297) (.ref 298) (.ref 299) 575 133 576
def o1_301 : Q0 := gO "taken" "Table.taken" (L2.inClass (top 25) 11) 3 "turnmill.tables" 342 300
def o1_302 : Q0 := tO []
def o1_303 : Q0 := eO
def o1_304 : Q0 := tO [(.str "self" 581), (.str "other" 582)]
def o1_305 : Q0 := tO []
def o1_306 : Q0 := fO "__mul__" "Table.__mul__" (L2.inClass (top 25) 12) 0
def o1_307 : Q0 := cO "__mul__" "Table.__mul__" 578 139 2 0 0 3 302 true 181 303 (.ref 304) (.ref 305) (.ref 306) 583 139 584
def o1_308 : Q0 := gO "__mul__" "Table.__mul__" (L2.inClass (top 25) 12) 3 "turnmill.tables" 342 307
def o1_309 : Q0 := tO []
def o1_310 : Q0 := eO
def o1_311 : Q0 := tO [(.str "self" 589), (.str "other" 590)]
def o1_312 : Q0 := tO []
def o1_313 : Q0 := fO "__eq__" "Table.__eq__" (L2.inClass (top 25) 13) 0
def o1_314 : Q0 := cO "__eq__" "Table.__eq__" 586 142 2 0 0 3 309 true 181 310 (.ref 311) (.ref 312) (.ref 313) 591 142 592
def o1_315 : Q0 := gO "__eq__" "Table.__eq__" (L2.inClass (top 25) 13) 3 "turnmill.tables" 342 314
def o1_316 : Q0 := tO []
def o1_317 : Q0 := eO
def o1_318 : Q0 := tO [(.str "self" 597), (.str "a" 598), (.str "b" 599), (.str "c" 600), (.str "d" 601)]
def o1_319 : Q0 := tO []
def o1_320 : Q0 := fO "__repr__" "Table.__repr__" (L2.inClass (top 25) 14) 0
def o1_321 : Q0 := cO "__repr__" "Table.__repr__" 594 145 1 0 0 3 316 true 181 317 (.ref 318) (.ref 319) (.ref 320) 602 145 603
def o1_322 : Q0 := gO "__repr__" "Table.__repr__" (L2.inClass (top 25) 14) 3 "turnmill.tables" 342 321
def o1_323 : Q0 := tO [(.str "whole" 605)]
def o1_324 (P : Params) : Q0 := dO [(eT P "__module__" 467 (.str "turnmill.tables" 342)), (eT P "__firstlineno__" 471 (.int 88 470)), (eT P "__init__" 477 (.ref 219)), (eT P "of_word" 496 (.ref 228)), (eT P "determinant" 508 (.ref 237)), (eT P "common" 516 (.ref 245)), (eT P "is_mill" 524 (.ref 253)), (eT P "is_balanced" 532 (.ref 261)), (eT P "entries" 539 (.ref 268)), (eT P "power" 547 (.ref 275)), (eT P "back" 554 (.ref 282)), (eT P "plain" 560 (.ref 287)), (eT P "alike" 568 (.ref 294)), (eT P "taken" 577 (.ref 301)), (eT P "__mul__" 585 (.ref 308)), (eT P "__eq__" 593 (.ref 315)), (eT P "__repr__" 604 (.ref 322)), (eT P "__static_attributes__" 606 (.ref 323)), (eT P "__dict__" 608 (.ref 326)), (eT P "__weakref__" 610 (.ref 327)), (eT P "__doc__" 611 .none), (eT P "__hash__" 612 .none)] 5
def o1_325 : Q0 := (.mk (.type "type") none (.cls (.mk "Table" [(.type "object")] [(.ref 325), (.type "object")] 324 "Table" true [] [] false none false)) #[none, none, (some (.str "Table" 460)), (some (.str "Table" 468)), (some (.builtin "object.__new__")), (some (.bool true))])
def o1_326 : Q0 := (.mk (.type "getset_descriptor") none (.fields #[(.str "__dict__" 607), (.ref 325), (.builtin "function.__dict__"), (.builtin "function.__dict__#set")]) #[])
def o1_327 : Q0 := (.mk (.type "getset_descriptor") none (.fields #[(.str "__weakref__" 609), (.ref 325), (.builtin "ExceptionGroup.__weakref__"), .none]) #[])
def o1_328 : Q0 := (.mk (.type "super") none (.fields #[(.ref 325), (.ref 325), (.ref 325)]) #[])
def o1_329 : Q0 := bO "object.__init_subclass__" (.ref 325)
def T1 (P : Params) : BT := (nO (boot_o_0 P) (nO (boot_o_1 P) (nO (o1_3 P) (nO (boot_o_7 P) (nO o1_15 (nO o1_31 (nO o1_63 (nO o1_127 (lO o1_255) .nil) (nO o1_191 (lO o1_319) .nil)) (nO o1_95 (nO o1_159 (lO o1_287) .nil) (lO o1_223))) (nO o1_47 (nO o1_79 (nO o1_143 (lO o1_271) .nil) (lO o1_207)) (nO o1_111 (nO o1_175 (lO o1_303) .nil) (lO o1_239)))) (nO o1_23 (nO o1_39 (nO o1_71 (nO o1_135 (lO o1_263) .nil) (nO o1_199 (lO o1_327) .nil)) (nO o1_103 (nO o1_167 (lO o1_295) .nil) (lO o1_231))) (nO o1_55 (nO o1_87 (nO o1_151 (lO o1_279) .nil) (lO o1_215)) (nO o1_119 (nO o1_183 (lO o1_311) .nil) (lO o1_247))))) (nO o1_11 (nO o1_19 (nO o1_35 (nO o1_67 (nO o1_131 (lO o1_259) .nil) (nO o1_195 (lO o1_323) .nil)) (nO o1_99 (nO o1_163 (lO o1_291) .nil) (lO (o1_227 P)))) (nO o1_51 (nO o1_83 (nO o1_147 (lO o1_275) .nil) (lO o1_211)) (nO o1_115 (nO o1_179 (lO o1_307) .nil) (lO o1_243)))) (nO o1_27 (nO o1_43 (nO (o1_75 P) (nO o1_139 (lO o1_267) .nil) (lO o1_203)) (nO (o1_107 P) (nO o1_171 (lO o1_299) .nil) (lO o1_235))) (nO o1_59 (nO o1_91 (nO o1_155 (lO o1_283) .nil) (lO o1_219)) (nO o1_123 (nO o1_187 (lO o1_315) .nil) (lO o1_251)))))) (nO (boot_o_5 P) (nO (boot_o_9 P) (nO o1_17 (nO o1_33 (nO o1_65 (nO o1_129 (lO o1_257) .nil) (nO o1_193 (lO o1_321) .nil)) (nO o1_97 (nO o1_161 (lO o1_289) .nil) (lO o1_225))) (nO o1_49 (nO o1_81 (nO o1_145 (lO o1_273) .nil) (lO o1_209)) (nO (o1_113 P) (nO o1_177 (lO o1_305) .nil) (lO o1_241)))) (nO o1_25 (nO o1_41 (nO o1_73 (nO o1_137 (lO o1_265) .nil) (nO o1_201 (lO o1_329) .nil)) (nO o1_105 (nO o1_169 (lO o1_297) .nil) (lO o1_233))) (nO o1_57 (nO o1_89 (nO o1_153 (lO o1_281) .nil) (lO o1_217)) (nO o1_121 (nO o1_185 (lO o1_313) .nil) (lO o1_249))))) (nO o1_13 (nO o1_21 (nO (o1_37 P) (nO (o1_69 P) (nO o1_133 (lO o1_261) .nil) (nO o1_197 (lO o1_325) .nil)) (nO o1_101 (nO o1_165 (lO o1_293) .nil) (lO o1_229))) (nO o1_53 (nO o1_85 (nO o1_149 (lO o1_277) .nil) (lO o1_213)) (nO o1_117 (nO o1_181 (lO o1_309) .nil) (lO o1_245)))) (nO o1_29 (nO o1_45 (nO o1_77 (nO o1_141 (lO o1_269) .nil) (lO o1_205)) (nO o1_109 (nO o1_173 (lO o1_301) .nil) (lO o1_237))) (nO o1_61 (nO o1_93 (nO o1_157 (lO o1_285) .nil) (lO o1_221)) (nO o1_125 (nO o1_189 (lO o1_317) .nil) (lO o1_253))))))) (nO (boot_o_2 P) (nO (boot_o_4 P) (nO (boot_o_8 P) (nO o1_16 (nO o1_32 (nO o1_64 (nO o1_128 (lO o1_256) .nil) (nO o1_192 (lO o1_320) .nil)) (nO o1_96 (nO o1_160 (lO o1_288) .nil) (lO o1_224))) (nO o1_48 (nO o1_80 (nO o1_144 (lO o1_272) .nil) (lO o1_208)) (nO o1_112 (nO o1_176 (lO o1_304) .nil) (lO o1_240)))) (nO (o1_24 P) (nO o1_40 (nO o1_72 (nO o1_136 (lO o1_264) .nil) (nO o1_200 (lO o1_328) .nil)) (nO o1_104 (nO o1_168 (lO o1_296) .nil) (lO o1_232))) (nO (o1_56 P) (nO (o1_88 P) (nO o1_152 (lO o1_280) .nil) (lO o1_216)) (nO o1_120 (nO o1_184 (lO o1_312) .nil) (lO o1_248))))) (nO o1_12 (nO o1_20 (nO o1_36 (nO o1_68 (nO o1_132 (lO o1_260) .nil) (nO o1_196 (lO (o1_324 P)) .nil)) (nO o1_100 (nO o1_164 (lO o1_292) .nil) (lO o1_228))) (nO o1_52 (nO o1_84 (nO o1_148 (lO o1_276) .nil) (lO o1_212)) (nO o1_116 (nO o1_180 (lO o1_308) .nil) (lO o1_244)))) (nO o1_28 (nO o1_44 (nO o1_76 (nO o1_140 (lO o1_268) .nil) (lO o1_204)) (nO o1_108 (nO o1_172 (lO o1_300) .nil) (lO o1_236))) (nO o1_60 (nO o1_92 (nO o1_156 (lO o1_284) .nil) (lO o1_220)) (nO o1_124 (nO o1_188 (lO o1_316) .nil) (lO o1_252)))))) (nO (boot_o_6 P) (nO (boot_o_10 P) (nO o1_18 (nO o1_34 (nO o1_66 (nO o1_130 (lO o1_258) .nil) (nO o1_194 (lO o1_322) .nil)) (nO o1_98 (nO o1_162 (lO o1_290) .nil) (lO o1_226))) (nO (o1_50 P) (nO o1_82 (nO o1_146 (lO o1_274) .nil) (lO (o1_210 P))) (nO o1_114 (nO o1_178 (lO o1_306) .nil) (lO o1_242)))) (nO o1_26 (nO o1_42 (nO o1_74 (nO o1_138 (lO o1_266) .nil) (lO o1_202)) (nO o1_106 (nO o1_170 (lO o1_298) .nil) (lO o1_234))) (nO o1_58 (nO o1_90 (nO o1_154 (lO o1_282) .nil) (lO o1_218)) (nO o1_122 (nO o1_186 (lO o1_314) .nil) (lO o1_250))))) (nO o1_14 (nO o1_22 (nO o1_38 (nO o1_70 (nO o1_134 (lO o1_262) .nil) (nO o1_198 (lO o1_326) .nil)) (nO o1_102 (nO o1_166 (lO o1_294) .nil) (lO o1_230))) (nO o1_54 (nO o1_86 (nO o1_150 (lO o1_278) .nil) (lO o1_214)) (nO o1_118 (nO o1_182 (lO o1_310) .nil) (lO o1_246)))) (nO (o1_30 P) (nO o1_46 (nO o1_78 (nO o1_142 (lO o1_270) .nil) (lO o1_206)) (nO o1_110 (nO o1_174 (lO o1_302) .nil) (lO o1_238))) (nO o1_62 (nO (o1_94 P) (nO o1_158 (lO o1_286) .nil) (lO o1_222)) (nO (o1_126 P) (nO o1_190 (lO o1_318) .nil) (lO o1_254))))))))
def S1 (w : World) (os : OsState) : SharedT := ⟨T1 w.params, 330, (Life.mk [] [] [] 0 [] [] Bool.false (List.toArray []) [] 0 Bool.false Bool.false Bool.false 0 [2000, 10, 10] Bool.false 0 Bool.true [] [] 0 Bool.false), #[], (Drawn.mk 0 0 0 0), 615, os⟩
def o2_3 (P : Params) : Q0 := dO [(eT P "__name__" 165 (.str "law_turnmill_k26_whole_fewest_rooms" 809)), (eT P "__doc__" 166 .none), (eT P "__package__" 167 .none), (eT P "__loader__" 168 (.builtin "__main__.__loader__#opaque")), (eT P "__spec__" 169 .none), (eT P "__annotations__" 170 (.ref 6)), (eT P "__builtins__" 171 (.ref 4)), (eT P "__file__" 173 (.str "/claim/cut.py" 172)), (eT P "__cached__" 174 .none), (eT P "_wall" 193 (.ref 21)), (eT P "MillError" 213 (.ref 31)), (eT P "InvalidWord" 239 (.ref 51)), (eT P "InvalidTable" 263 (.ref 70)), (eT P "InvalidRoom" 289 (.ref 89)), (eT P "TooLong" 315 (.ref 108)), (eT P "TooGreat" 341 (.ref 127)), (eT P "TURNS" 345 (.str "LR" 344)), (eT P "MOST_TURNS" 347 (.int 4000 346)), (eT P "LEFT" 352 (.ref 130)), (eT P "RIGHT" 357 (.ref 131)), (eT P "is_integer" 364 (.ref 138)), (eT P "is_within" 373 (.ref 145)), (eT P "is_word" 379 (.ref 150)), (eT P "is_turn" 386 (.ref 157)), (eT P "check_turn" 393 (.ref 164)), (eT P "other_turn" 400 (.ref 171)), (eT P "divisor_of" 411 (.ref 178)), (eT P "product" 427 (.ref 185)), (eT P "divided" 433 (.ref 190)), (eT P "least_times" 439 (.ref 195)), (eT P "runs_taken" 453 (.ref 202)), (eT P "word_taken" 459 (.ref 207)), (eT P "Table" 614 (.ref 325)), (eT P "table_with" 625 (.ref 336)), (eT P "MOST_SIZE" 629 (.int 60 628)), (eT P "determinant_of" 640 (.ref 343)), (eT P "columns_exchanged" 651 (.ref 350)), (eT P "need_size" 659 (.ref 357)), (eT P "machine_of" 680 (.ref 364)), (eT P "Mill" 808 (.ref 467)), (eT P "_law_hand" 816 (.ref 476)), (eT P "_law_pick" 828 (.ref 483)), (eT P "_law_of" 836 (.ref 490)), (eT P "_law_word" 842 (.ref 495)), (eT P "_law_all" 848 (.ref 500)), (eT P "_law_prod" 856 (.ref 507)), (eT P "_law_grid" 865 (.ref 514)), (eT P "_law_core" 871 (.ref 519)), (eT P "_law_mill" 877 (.ref 524)), (eT P "_law_made" 884 (.ref 531)), (eT P "_law_walk" 896 (.ref 538)), (eT P "law" 902 (.ref 543))] 52
def o2_12 : Q0 := (.mk .none none (.fields #[(.int 1 0), (.int 0 0), (.ref 20), (.int 5 0), (.int 0 0), (.ref 27), (.int 7 0), (.int 0 0), (.ref 40), (.int 12 0), (.int 0 0), (.ref 59), (.int 16 0), (.int 0 0), (.ref 78), (.int 21 0), (.int 0 0), (.ref 97), (.int 26 0), (.int 0 0), (.ref 116), (.int 36 0), (.int 0 0), (.ref 137), (.int 38 0), (.int 0 0), (.ref 144), (.int 40 0), (.int 0 0), (.ref 149), (.int 42 0), (.int 0 0), (.ref 156), (.int 44 0), (.int 0 0), (.ref 163), (.int 47 0), (.int 0 0), (.ref 170), (.int 49 0), (.int 0 0), (.ref 177), (.int 57 0), (.int 0 0), (.ref 184), (.int 61 0), (.int 0 0), (.ref 189), (.int 64 0), (.int 0 0), (.ref 194), (.int 66 0), (.int 0 0), (.ref 201), (.int 83 0), (.int 0 0), (.ref 206), (.int 88 0), (.int 0 0), (.ref 213), (.int 148 0), (.int 0 0), (.ref 335), (.int 153 0), (.int 0 0), (.ref 342), (.int 156 0), (.int 0 0), (.ref 349), (.int 159 0), (.int 0 0), (.ref 356), (.int 164 0), (.int 0 0), (.ref 363), (.int 181 0), (.int 0 0), (.ref 370), (.int 235 0), (.int 0 0), (.ref 475), (.int 241 0), (.int 0 0), (.ref 482), (.int 255 0), (.int 0 0), (.ref 489), (.int 257 0), (.int 0 0), (.ref 494), (.int 259 0), (.int 0 0), (.ref 499), (.int 267 0), (.int 0 0), (.ref 506), (.int 269 0), (.int 0 0), (.ref 513), (.int 274 0), (.int 0 0), (.ref 518), (.int 278 0), (.int 0 0), (.ref 523), (.int 283 0), (.int 0 0), (.ref 530), (.int 285 0), (.int 0 0), (.ref 537), (.int 291 0), (.int 0 0), (.ref 542)]) #[])
def o2_330 : Q0 := tO []
def o2_331 : Q0 := eO
def o2_332 : Q0 := tO [(.str "entries" 618), (.str "a" 619), (.str "b" 620), (.str "c" 621), (.str "d" 622)]
def o2_333 : Q0 := tO []
def o2_334 : Q0 := fO "table_with" "table_with" (top 26) 0
def o2_335 : Q0 := cO "table_with" "table_with" 615 148 1 0 0 3 330 true 181 331 (.ref 332) (.ref 333) (.ref 334) 623 148 624
def o2_336 : Q0 := gO "table_with" "table_with" (top 26) 3 "turnmill.tables" 342 335
def o2_337 : Q0 := tO []
def o2_338 : Q0 := eO
def o2_339 : Q0 := tO [(.str "entries" 633), (.str "a" 634), (.str "b" 635), (.str "c" 636), (.str "d" 637)]
def o2_340 : Q0 := tO []
def o2_341 : Q0 := fO "determinant_of" "determinant_of" (top 29) 0
def o2_342 : Q0 := cO "determinant_of" "determinant_of" 630 153 1 0 0 3 337 true 181 338 (.ref 339) (.ref 340) (.ref 341) 638 153 639
def o2_343 : Q0 := gO "determinant_of" "determinant_of" (top 29) 3 "turnmill.mills" 626 342
def o2_344 : Q0 := tO []
def o2_345 : Q0 := eO
def o2_346 : Q0 := tO [(.str "entries" 644), (.str "a" 645), (.str "b" 646), (.str "c" 647), (.str "d" 648)]
def o2_347 : Q0 := tO []
def o2_348 : Q0 := fO "columns_exchanged" "columns_exchanged" (top 30) 0
def o2_349 : Q0 := cO "columns_exchanged" "columns_exchanged" 641 156 1 0 0 3 344 true 181 345 (.ref 346) (.ref 347) (.ref 348) 649 156 650
def o2_350 : Q0 := gO "columns_exchanged" "columns_exchanged" (top 30) 3 "turnmill.mills" 626 349
def o2_351 : Q0 := tO []
def o2_352 : Q0 := eO
def o2_353 : Q0 := tO [(.str "entries" 655), (.str "size" 656)]
def o2_354 : Q0 := tO []
def o2_355 : Q0 := fO "need_size" "need_size" (top 31) 0
def o2_356 : Q0 := cO "need_size" "need_size" 652 159 1 0 0 3 351 true 181 352 (.ref 353) (.ref 354) (.ref 355) 657 159 658
def o2_357 : Q0 := gO "need_size" "need_size" (top 31) 3 "turnmill.mills" 626 356
def o2_358 : Q0 := tO []
def o2_359 : Q0 := eO
def o2_360 : Q0 := tO [(.str "entries" 663), (.str "most" 664), (.str "plain" 665), (.str "is_turned" 666), (.str "lead" 667), (.str "first" 668), (.str "line" 669), (.str "places" 670), (.str "steps" 671), (.str "at" 672), (.str "row" 673), (.str "turn" 674), (.str "taken" 675), (.str "word" 676), (.str "goal" 677)]
def o2_361 : Q0 := tO []
def o2_362 : Q0 := fO "machine_of" "machine_of" (top 32) 0
def o2_363 : Q0 := cO "machine_of" "machine_of" 660 164 2 0 0 3 358 true 181 359 (.ref 360) (.ref 361) (.ref 362) 678 164 679
def o2_364 : Q0 := gO "machine_of" "machine_of" (top 32) 3 "turnmill.mills" 626 363
def o2_365 : Q0 := tO []
def o2_366 : Q0 := bO "type.__prepare__" (.type "type")
def o2_367 (P : Params) : Q0 := dO [(eT P "__module__" 688 (.str "turnmill.mills" 626)), (eT P "__qualname__" 690 (.str "Mill" 689)), (eT P "__firstlineno__" 692 (.int 181 691)), (eT P "MOST" 694 (.int 60 693)), (eT P "__init__" 702 (.ref 378)), (eT P "table" 710 (.ref 386)), (eT P "size" 718 (.ref 394)), (eT P "turned" 726 (.ref 402)), (eT P "lead" 734 (.ref 410)), (eT P "rooms" 740 (.ref 415)), (eT P "step" 749 (.ref 422)), (eT P "output" 757 (.ref 429)), (eT P "led" 765 (.ref 436)), (eT P "then" 773 (.ref 443)), (eT P "__len__" 780 (.ref 450)), (eT P "__eq__" 788 (.ref 457)), (eT P "__repr__" 795 (.ref 464)), (eT P "__static_attributes__" 800 (.ref 465))] 18
def o2_368 : Q0 := tO []
def o2_369 : Q0 := (.mk .none none (.fields #[(.int 184 0), (.int 4 0), (.ref 377), (.int 193 0), (.int 4 0), (.ref 384), (.int 197 0), (.int 4 0), (.ref 392), (.int 201 0), (.int 4 0), (.ref 400), (.int 205 0), (.int 4 0), (.ref 408), (.int 208 0), (.int 4 0), (.ref 414), (.int 211 0), (.int 4 0), (.ref 421), (.int 217 0), (.int 4 0), (.ref 428), (.int 220 0), (.int 4 0), (.ref 435), (.int 223 0), (.int 4 0), (.ref 442), (.int 226 0), (.int 4 0), (.ref 449), (.int 229 0), (.int 4 0), (.ref 456), (.int 232 0), (.int 4 0), (.ref 463)]) #[])
def o2_370 : Q0 := cO "Mill" "Mill" 683 181 0 0 0 0 368 false 181 369 .none .none .none 686 181 687
def o2_371 : Q0 := rO 370 3 367 "turnmill.mills" 626 0
def o2_372 : Q0 := tO []
def o2_373 : Q0 := eO
def o2_374 : Q0 := tO [(.str "self" 698), (.str "table" 699)]
def o2_375 : Q0 := tO []
def o2_376 : Q0 := fO "__init__" "Mill.__init__" (L2.inClass (top 33) 1) 0
def o2_377 : Q0 := cO "__init__" "Mill.__init__" 695 184 2 0 0 3 372 true 181 373 (.ref 374) (.ref 375) (.ref 376) 700 184 701
def o2_378 : Q0 := gO "__init__" "Mill.__init__" (L2.inClass (top 33) 1) 3 "turnmill.mills" 626 377
def o2_379 : Q0 := tO []
def o2_380 : Q0 := eO
def o2_381 : Q0 := tO [(.str "self" 706)]
def o2_382 : Q0 := tO []
def o2_383 : Q0 := fO "table" "Mill.table" (L2.inClass (top 33) 2) 0
def o2_384 : Q0 := cO "table" "Mill.table" 703 192 1 0 0 3 379 true 181 380 (.ref 381) (.ref 382) (.ref 383) 707 192 708
def o2_385 : Q0 := gO "table" "Mill.table" (L2.inClass (top 33) 2) 3 "turnmill.mills" 626 384
def o2_386 : Q0 := (.mk (.type "property") none (.fields #[(.ref 385), .none, .none, .none, (.str "table" 710), (.bool false)]) #[])
def o2_387 : Q0 := tO []
def o2_388 : Q0 := eO
def o2_389 : Q0 := tO [(.str "self" 714)]
def o2_390 : Q0 := tO []
def o2_391 : Q0 := fO "size" "Mill.size" (L2.inClass (top 33) 3) 0
def o2_392 : Q0 := cO "size" "Mill.size" 711 196 1 0 0 3 387 true 181 388 (.ref 389) (.ref 390) (.ref 391) 715 196 716
def o2_393 : Q0 := gO "size" "Mill.size" (L2.inClass (top 33) 3) 3 "turnmill.mills" 626 392
def o2_394 : Q0 := (.mk (.type "property") none (.fields #[(.ref 393), .none, .none, .none, (.str "size" 718), (.bool false)]) #[])
def o2_395 : Q0 := tO []
def o2_396 : Q0 := eO
def o2_397 : Q0 := tO [(.str "self" 722)]
def o2_398 : Q0 := tO []
def o2_399 : Q0 := fO "turned" "Mill.turned" (L2.inClass (top 33) 4) 0
def o2_400 : Q0 := cO "turned" "Mill.turned" 719 200 1 0 0 3 395 true 181 396 (.ref 397) (.ref 398) (.ref 399) 723 200 724
def o2_401 : Q0 := gO "turned" "Mill.turned" (L2.inClass (top 33) 4) 3 "turnmill.mills" 626 400
def o2_402 : Q0 := (.mk (.type "property") none (.fields #[(.ref 401), .none, .none, .none, (.str "turned" 726), (.bool false)]) #[])
def o2_403 : Q0 := tO []
def o2_404 : Q0 := eO
def o2_405 : Q0 := tO [(.str "self" 730)]
def o2_406 : Q0 := tO []
def o2_407 : Q0 := fO "lead" "Mill.lead" (L2.inClass (top 33) 5) 0
def o2_408 : Q0 := cO "lead" "Mill.lead" 727 204 1 0 0 3 403 true 181 404 (.ref 405) (.ref 406) (.ref 407) 731 204 732
def o2_409 : Q0 := gO "lead" "Mill.lead" (L2.inClass (top 33) 5) 3 "turnmill.mills" 626 408
def o2_410 : Q0 := (.mk (.type "property") none (.fields #[(.ref 409), .none, .none, .none, (.str "lead" 734), (.bool false)]) #[])
def o2_411 : Q0 := tO []
def o2_412 : Q0 := eO
def o2_413 : Q0 := fO "rooms" "Mill.rooms" (L2.inClass (top 33) 6) 0
def o2_414 : Q0 := cO "rooms" "Mill.rooms" 735 208 1 0 0 3 411 true 181 412 .none .none (.ref 413) 738 208 739
def o2_415 : Q0 := gO "rooms" "Mill.rooms" (L2.inClass (top 33) 6) 3 "turnmill.mills" 626 414
def o2_416 : Q0 := tO []
def o2_417 : Q0 := eO
def o2_418 : Q0 := tO [(.str "self" 744), (.str "room" 745), (.str "turn" 746)]
def o2_419 : Q0 := tO []
def o2_420 : Q0 := fO "step" "Mill.step" (L2.inClass (top 33) 7) 0
def o2_421 : Q0 := cO "step" "Mill.step" 741 211 3 0 0 3 416 true 181 417 (.ref 418) (.ref 419) (.ref 420) 747 211 748
def o2_422 : Q0 := gO "step" "Mill.step" (L2.inClass (top 33) 7) 3 "turnmill.mills" 626 421
def o2_423 : Q0 := tO []
def o2_424 : Q0 := eO
def o2_425 : Q0 := tO [(.str "self" 753), (.str "word" 754)]
def o2_426 : Q0 := tO []
def o2_427 : Q0 := fO "output" "Mill.output" (L2.inClass (top 33) 8) 0
def o2_428 : Q0 := cO "output" "Mill.output" 750 217 2 0 0 3 423 true 181 424 (.ref 425) (.ref 426) (.ref 427) 755 217 756
def o2_429 : Q0 := gO "output" "Mill.output" (L2.inClass (top 33) 8) 3 "turnmill.mills" 626 428
def o2_430 : Q0 := tO []
def o2_431 : Q0 := eO
def o2_432 : Q0 := tO [(.str "self" 761), (.str "row" 762)]
def o2_433 : Q0 := tO []
def o2_434 : Q0 := fO "led" "Mill.led" (L2.inClass (top 33) 9) 0
def o2_435 : Q0 := cO "led" "Mill.led" 758 220 2 0 0 3 430 true 181 431 (.ref 432) (.ref 433) (.ref 434) 763 220 764
def o2_436 : Q0 := gO "led" "Mill.led" (L2.inClass (top 33) 9) 3 "turnmill.mills" 626 435
def o2_437 : Q0 := tO []
def o2_438 : Q0 := eO
def o2_439 : Q0 := tO [(.str "self" 769), (.str "other" 770)]
def o2_440 : Q0 := tO []
def o2_441 : Q0 := fO "then" "Mill.then" (L2.inClass (top 33) 10) 0
def o2_442 : Q0 := cO "then" "Mill.then" 766 223 2 0 0 3 437 true 181 438 (.ref 439) (.ref 440) (.ref 441) 771 223 772
def o2_443 : Q0 := gO "then" "Mill.then" (L2.inClass (top 33) 10) 3 "turnmill.mills" 626 442
def o2_444 : Q0 := tO []
def o2_445 : Q0 := eO
def o2_446 : Q0 := tO [(.str "self" 777)]
def o2_447 : Q0 := tO []
def o2_448 : Q0 := fO "__len__" "Mill.__len__" (L2.inClass (top 33) 11) 0
def o2_449 : Q0 := cO "__len__" "Mill.__len__" 774 226 1 0 0 3 444 true 181 445 (.ref 446) (.ref 447) (.ref 448) 778 226 779
def o2_450 : Q0 := gO "__len__" "Mill.__len__" (L2.inClass (top 33) 11) 3 "turnmill.mills" 626 449
def o2_451 : Q0 := tO []
def o2_452 : Q0 := eO
def o2_453 : Q0 := tO [(.str "self" 784), (.str "other" 785)]
def o2_454 : Q0 := tO []
def o2_455 : Q0 := fO "__eq__" "Mill.__eq__" (L2.inClass (top 33) 12) 0
def o2_456 : Q0 := cO "__eq__" "Mill.__eq__" 781 229 2 0 0 3 451 true 181 452 (.ref 453) (.ref 454) (.ref 455) 786 229 787
def o2_457 : Q0 := gO "__eq__" "Mill.__eq__" (L2.inClass (top 33) 12) 3 "turnmill.mills" 626 456
def o2_458 : Q0 := tO []
def o2_459 : Q0 := eO
def o2_460 : Q0 := tO [(.str "self" 792)]
def o2_461 : Q0 := tO []
def o2_462 : Q0 := fO "__repr__" "Mill.__repr__" (L2.inClass (top 33) 13) 0
def o2_463 : Q0 := cO "__repr__" "Mill.__repr__" 789 232 1 0 0 3 458 true 181 459 (.ref 460) (.ref 461) (.ref 462) 793 232 794
def o2_464 : Q0 := gO "__repr__" "Mill.__repr__" (L2.inClass (top 33) 13) 3 "turnmill.mills" 626 463
def o2_465 : Q0 := tO [(.str "given" 796), (.str "machine" 797), (.str "own_size" 798), (.str "same" 799)]
def o2_466 (P : Params) : Q0 := dO [(eT P "__module__" 688 (.str "turnmill.mills" 626)), (eT P "__firstlineno__" 692 (.int 181 691)), (eT P "MOST" 694 (.int 60 693)), (eT P "__init__" 702 (.ref 378)), (eT P "table" 710 (.ref 386)), (eT P "size" 718 (.ref 394)), (eT P "turned" 726 (.ref 402)), (eT P "lead" 734 (.ref 410)), (eT P "rooms" 740 (.ref 415)), (eT P "step" 749 (.ref 422)), (eT P "output" 757 (.ref 429)), (eT P "led" 765 (.ref 436)), (eT P "then" 773 (.ref 443)), (eT P "__len__" 780 (.ref 450)), (eT P "__eq__" 788 (.ref 457)), (eT P "__repr__" 795 (.ref 464)), (eT P "__static_attributes__" 800 (.ref 465)), (eT P "__dict__" 802 (.ref 468)), (eT P "__weakref__" 804 (.ref 469)), (eT P "__doc__" 805 .none), (eT P "__hash__" 806 .none)] 5
def o2_467 : Q0 := (.mk (.type "type") none (.cls (.mk "Mill" [(.type "object")] [(.ref 467), (.type "object")] 466 "Mill" true [] [] false none false)) #[none, none, (some (.str "Mill" 681)), (some (.str "Mill" 689)), (some (.builtin "object.__new__")), (some (.bool true))])
def o2_468 : Q0 := (.mk (.type "getset_descriptor") none (.fields #[(.str "__dict__" 801), (.ref 467), (.builtin "function.__dict__"), (.builtin "function.__dict__#set")]) #[])
def o2_469 : Q0 := (.mk (.type "getset_descriptor") none (.fields #[(.str "__weakref__" 803), (.ref 467), (.builtin "ExceptionGroup.__weakref__"), .none]) #[])
def o2_470 : Q0 := (.mk (.type "super") none (.fields #[(.ref 467), (.ref 467), (.ref 467)]) #[])
def o2_471 : Q0 := bO "object.__init_subclass__" (.ref 467)
def o2_472 : Q0 := tO []
def o2_473 : Q0 := eO
def o2_474 : Q0 := fO "_law_hand" "_law_hand" (top 35) 0
def o2_475 : Q0 := cO "_law_hand" "_law_hand" 811 235 1 0 0 3 472 true 181 473 .none .none (.ref 474) 814 235 815
def o2_476 : Q0 := gO "_law_hand" "_law_hand" (top 35) 3 "law_turnmill_k26_whole_fewest_rooms" 809 475
def o2_477 : Q0 := tO []
def o2_478 : Q0 := eO
def o2_479 : Q0 := tO [(.str "_law_hand_here" 820), (.str "_law_many" 821), (.str "_law_cell" 822), (.str "_law_one" 823), (.str "_law_two" 824), (.str "_law_drawn" 825)]
def o2_480 : Q0 := tO []
def o2_481 : Q0 := fO "_law_pick" "_law_pick" (top 36) 0
def o2_482 : Q0 := cO "_law_pick" "_law_pick" 817 241 2 0 0 3 477 true 181 478 (.ref 479) (.ref 480) (.ref 481) 826 241 827
def o2_483 : Q0 := gO "_law_pick" "_law_pick" (top 36) 3 "law_turnmill_k26_whole_fewest_rooms" 809 482
def o2_484 : Q0 := tO []
def o2_485 : Q0 := eO
def o2_486 : Q0 := tO [(.str "_law_hand_here" 832), (.str "_law_items" 833)]
def o2_487 : Q0 := tO []
def o2_488 : Q0 := fO "_law_of" "_law_of" (top 37) 0
def o2_489 : Q0 := cO "_law_of" "_law_of" 829 255 2 0 0 3 484 true 181 485 (.ref 486) (.ref 487) (.ref 488) 834 255 835
def o2_490 : Q0 := gO "_law_of" "_law_of" (top 37) 3 "law_turnmill_k26_whole_fewest_rooms" 809 489
def o2_491 : Q0 := tO []
def o2_492 : Q0 := eO
def o2_493 : Q0 := fO "_law_word" "_law_word" (top 38) 0
def o2_494 : Q0 := cO "_law_word" "_law_word" 837 257 2 0 0 3 491 true 181 492 .none .none (.ref 493) 840 257 841
def o2_495 : Q0 := gO "_law_word" "_law_word" (top 38) 3 "law_turnmill_k26_whole_fewest_rooms" 809 494
def o2_496 : Q0 := tO []
def o2_497 : Q0 := eO
def o2_498 : Q0 := fO "_law_all" "_law_all" (top 39) 0
def o2_499 : Q0 := cO "_law_all" "_law_all" 843 259 1 0 0 3 496 true 181 497 .none .none (.ref 498) 846 259 847
def o2_500 : Q0 := gO "_law_all" "_law_all" (top 39) 3 "law_turnmill_k26_whole_fewest_rooms" 809 499
def o2_501 : Q0 := tO []
def o2_502 : Q0 := eO
def o2_503 : Q0 := tO [(.str "_law_one" 852), (.str "_law_rival" 853)]
def o2_504 : Q0 := tO []
def o2_505 : Q0 := fO "_law_prod" "_law_prod" (top 40) 0
def o2_506 : Q0 := cO "_law_prod" "_law_prod" 849 267 2 0 0 3 501 true 181 502 (.ref 503) (.ref 504) (.ref 505) 854 267 855
def o2_507 : Q0 := gO "_law_prod" "_law_prod" (top 40) 3 "law_turnmill_k26_whole_fewest_rooms" 809 506
def o2_508 : Q0 := tO []
def o2_509 : Q0 := eO
def o2_510 : Q0 := tO [(.str "_law_token" 860), (.str "_law_found" 861), (.str "_law_side" 862)]
def o2_511 : Q0 := tO []
def o2_512 : Q0 := fO "_law_grid" "_law_grid" (top 41) 0
def o2_513 : Q0 := cO "_law_grid" "_law_grid" 857 269 1 0 0 3 508 true 181 509 (.ref 510) (.ref 511) (.ref 512) 863 269 864
def o2_514 : Q0 := gO "_law_grid" "_law_grid" (top 41) 3 "law_turnmill_k26_whole_fewest_rooms" 809 513
def o2_515 : Q0 := tO []
def o2_516 : Q0 := eO
def o2_517 : Q0 := fO "_law_core" "_law_core" (top 42) 0
def o2_518 : Q0 := cO "_law_core" "_law_core" 866 274 2 0 0 3 515 true 181 516 .none .none (.ref 517) 869 274 870
def o2_519 : Q0 := gO "_law_core" "_law_core" (top 42) 3 "law_turnmill_k26_whole_fewest_rooms" 809 518
def o2_520 : Q0 := tO []
def o2_521 : Q0 := eO
def o2_522 : Q0 := fO "_law_mill" "_law_mill" (top 43) 0
def o2_523 : Q0 := cO "_law_mill" "_law_mill" 872 278 2 0 0 3 520 true 181 521 .none .none (.ref 522) 875 278 876
def o2_524 : Q0 := gO "_law_mill" "_law_mill" (top 43) 3 "law_turnmill_k26_whole_fewest_rooms" 809 523
def o2_525 : Q0 := tO []
def o2_526 : Q0 := eO
def o2_527 : Q0 := tO [(.str "_law_entries" 881)]
def o2_528 : Q0 := tO []
def o2_529 : Q0 := fO "_law_made" "_law_made" (top 44) 0
def o2_530 : Q0 := cO "_law_made" "_law_made" 878 283 1 0 0 3 525 true 181 526 (.ref 527) (.ref 528) (.ref 529) 882 283 883
def o2_531 : Q0 := gO "_law_made" "_law_made" (top 44) 3 "law_turnmill_k26_whole_fewest_rooms" 809 530
def o2_532 : Q0 := tO []
def o2_533 : Q0 := eO
def o2_534 : Q0 := tO [(.str "_law_wheel" 888), (.str "_law_place" 889), (.str "_law_token" 890), (.str "_law_told" 891), (.str "_law_side" 892), (.str "_law_part" 893)]
def o2_535 : Q0 := tO []
def o2_536 : Q0 := fO "_law_walk" "_law_walk" (top 45) 0
def o2_537 : Q0 := cO "_law_walk" "_law_walk" 885 285 3 0 0 3 532 true 181 533 (.ref 534) (.ref 535) (.ref 536) 894 285 895
def o2_538 : Q0 := gO "_law_walk" "_law_walk" (top 45) 3 "law_turnmill_k26_whole_fewest_rooms" 809 537
def o2_539 : Q0 := tO []
def o2_540 : Q0 := eO
def o2_541 : Q0 := fO "law" "law" (top 46) 0
def o2_542 : Q0 := cO "law" "law" 897 291 1 0 0 3 539 true 181 540 .none .none (.ref 541) 900 291 901
def o2_543 : Q0 := gO "law" "law" (top 46) 3 "law_turnmill_k26_whole_fewest_rooms" 809 542
def T2 (P : Params) : BT := (nO (boot_o_0 P) (nO (boot_o_1 P) (nO (o2_3 P) (nO (boot_o_7 P) (nO o1_15 (nO o1_31 (nO o1_63 (nO o1_127 (nO o1_255 (lO o2_511) .nil) (lO o2_383)) (nO o1_191 (lO o1_319) (lO o2_447))) (nO o1_95 (nO o1_159 (nO o1_287 (lO o2_543) .nil) (lO o2_415)) (nO o1_223 (lO o2_351) (lO o2_479)))) (nO o1_47 (nO o1_79 (nO o1_143 (nO o1_271 (lO o2_527) .nil) (lO o2_399)) (nO o1_207 (lO o2_335) (lO o2_463))) (nO o1_111 (nO o1_175 (lO o1_303) (lO o2_431)) (nO o1_239 (lO (o2_367 P)) (lO o2_495))))) (nO o1_23 (nO o1_39 (nO o1_71 (nO o1_135 (nO o1_263 (lO o2_519) .nil) (lO o2_391)) (nO o1_199 (lO o1_327) (lO o2_455))) (nO o1_103 (nO o1_167 (lO o1_295) (lO o2_423)) (nO o1_231 (lO o2_359) (lO o2_487)))) (nO o1_55 (nO o1_87 (nO o1_151 (nO o1_279 (lO o2_535) .nil) (lO o2_407)) (nO o1_215 (lO o2_343) (lO o2_471))) (nO o1_119 (nO o1_183 (lO o1_311) (lO o2_439)) (nO o1_247 (lO o2_375) (lO o2_503)))))) (nO o1_11 (nO o1_19 (nO o1_35 (nO o1_67 (nO o1_131 (nO o1_259 (lO o2_515) .nil) (lO o2_387)) (nO o1_195 (lO o1_323) (lO o2_451))) (nO o1_99 (nO o1_163 (lO o1_291) (lO o2_419)) (nO (o1_227 P) (lO o2_355) (lO o2_483)))) (nO o1_51 (nO o1_83 (nO o1_147 (nO o1_275 (lO o2_531) .nil) (lO o2_403)) (nO o1_211 (lO o2_339) (lO o2_467))) (nO o1_115 (nO o1_179 (lO o1_307) (lO o2_435)) (nO o1_243 (lO o2_371) (lO o2_499))))) (nO o1_27 (nO o1_43 (nO (o1_75 P) (nO o1_139 (nO o1_267 (lO o2_523) .nil) (lO o2_395)) (nO o1_203 (lO o2_331) (lO o2_459))) (nO (o1_107 P) (nO o1_171 (lO o1_299) (lO o2_427)) (nO o1_235 (lO o2_363) (lO o2_491)))) (nO o1_59 (nO o1_91 (nO o1_155 (nO o1_283 (lO o2_539) .nil) (lO o2_411)) (nO o1_219 (lO o2_347) (lO o2_475))) (nO o1_123 (nO o1_187 (lO o1_315) (lO o2_443)) (nO o1_251 (lO o2_379) (lO o2_507))))))) (nO (boot_o_5 P) (nO (boot_o_9 P) (nO o1_17 (nO o1_33 (nO o1_65 (nO o1_129 (nO o1_257 (lO o2_513) .nil) (lO o2_385)) (nO o1_193 (lO o1_321) (lO o2_449))) (nO o1_97 (nO o1_161 (lO o1_289) (lO o2_417)) (nO o1_225 (lO o2_353) (lO o2_481)))) (nO o1_49 (nO o1_81 (nO o1_145 (nO o1_273 (lO o2_529) .nil) (lO o2_401)) (nO o1_209 (lO o2_337) (lO o2_465))) (nO (o1_113 P) (nO o1_177 (lO o1_305) (lO o2_433)) (nO o1_241 (lO o2_369) (lO o2_497))))) (nO o1_25 (nO o1_41 (nO o1_73 (nO o1_137 (nO o1_265 (lO o2_521) .nil) (lO o2_393)) (nO o1_201 (lO o1_329) (lO o2_457))) (nO o1_105 (nO o1_169 (lO o1_297) (lO o2_425)) (nO o1_233 (lO o2_361) (lO o2_489)))) (nO o1_57 (nO o1_89 (nO o1_153 (nO o1_281 (lO o2_537) .nil) (lO o2_409)) (nO o1_217 (lO o2_345) (lO o2_473))) (nO o1_121 (nO o1_185 (lO o1_313) (lO o2_441)) (nO o1_249 (lO o2_377) (lO o2_505)))))) (nO o1_13 (nO o1_21 (nO (o1_37 P) (nO (o1_69 P) (nO o1_133 (nO o1_261 (lO o2_517) .nil) (lO o2_389)) (nO o1_197 (lO o1_325) (lO o2_453))) (nO o1_101 (nO o1_165 (lO o1_293) (lO o2_421)) (nO o1_229 (lO o2_357) (lO o2_485)))) (nO o1_53 (nO o1_85 (nO o1_149 (nO o1_277 (lO o2_533) .nil) (lO o2_405)) (nO o1_213 (lO o2_341) (lO o2_469))) (nO o1_117 (nO o1_181 (lO o1_309) (lO o2_437)) (nO o1_245 (lO o2_373) (lO o2_501))))) (nO o1_29 (nO o1_45 (nO o1_77 (nO o1_141 (nO o1_269 (lO o2_525) .nil) (lO o2_397)) (nO o1_205 (lO o2_333) (lO o2_461))) (nO o1_109 (nO o1_173 (lO o1_301) (lO o2_429)) (nO o1_237 (lO o2_365) (lO o2_493)))) (nO o1_61 (nO o1_93 (nO o1_157 (nO o1_285 (lO o2_541) .nil) (lO o2_413)) (nO o1_221 (lO o2_349) (lO o2_477))) (nO o1_125 (nO o1_189 (lO o1_317) (lO o2_445)) (nO o1_253 (lO o2_381) (lO o2_509)))))))) (nO (boot_o_2 P) (nO (boot_o_4 P) (nO (boot_o_8 P) (nO o1_16 (nO o1_32 (nO o1_64 (nO o1_128 (nO o1_256 (lO o2_512) .nil) (lO o2_384)) (nO o1_192 (lO o1_320) (lO o2_448))) (nO o1_96 (nO o1_160 (lO o1_288) (lO o2_416)) (nO o1_224 (lO o2_352) (lO o2_480)))) (nO o1_48 (nO o1_80 (nO o1_144 (nO o1_272 (lO o2_528) .nil) (lO o2_400)) (nO o1_208 (lO o2_336) (lO o2_464))) (nO o1_112 (nO o1_176 (lO o1_304) (lO o2_432)) (nO o1_240 (lO o2_368) (lO o2_496))))) (nO (o1_24 P) (nO o1_40 (nO o1_72 (nO o1_136 (nO o1_264 (lO o2_520) .nil) (lO o2_392)) (nO o1_200 (lO o1_328) (lO o2_456))) (nO o1_104 (nO o1_168 (lO o1_296) (lO o2_424)) (nO o1_232 (lO o2_360) (lO o2_488)))) (nO (o1_56 P) (nO (o1_88 P) (nO o1_152 (nO o1_280 (lO o2_536) .nil) (lO o2_408)) (nO o1_216 (lO o2_344) (lO o2_472))) (nO o1_120 (nO o1_184 (lO o1_312) (lO o2_440)) (nO o1_248 (lO o2_376) (lO o2_504)))))) (nO o2_12 (nO o1_20 (nO o1_36 (nO o1_68 (nO o1_132 (nO o1_260 (lO o2_516) .nil) (lO o2_388)) (nO o1_196 (lO (o1_324 P)) (lO o2_452))) (nO o1_100 (nO o1_164 (lO o1_292) (lO o2_420)) (nO o1_228 (lO o2_356) (lO o2_484)))) (nO o1_52 (nO o1_84 (nO o1_148 (nO o1_276 (lO o2_532) .nil) (lO o2_404)) (nO o1_212 (lO o2_340) (lO o2_468))) (nO o1_116 (nO o1_180 (lO o1_308) (lO o2_436)) (nO o1_244 (lO o2_372) (lO o2_500))))) (nO o1_28 (nO o1_44 (nO o1_76 (nO o1_140 (nO o1_268 (lO o2_524) .nil) (lO o2_396)) (nO o1_204 (lO o2_332) (lO o2_460))) (nO o1_108 (nO o1_172 (lO o1_300) (lO o2_428)) (nO o1_236 (lO o2_364) (lO o2_492)))) (nO o1_60 (nO o1_92 (nO o1_156 (nO o1_284 (lO o2_540) .nil) (lO o2_412)) (nO o1_220 (lO o2_348) (lO o2_476))) (nO o1_124 (nO o1_188 (lO o1_316) (lO o2_444)) (nO o1_252 (lO o2_380) (lO o2_508))))))) (nO (boot_o_6 P) (nO (boot_o_10 P) (nO o1_18 (nO o1_34 (nO o1_66 (nO o1_130 (nO o1_258 (lO o2_514) .nil) (lO o2_386)) (nO o1_194 (lO o1_322) (lO o2_450))) (nO o1_98 (nO o1_162 (lO o1_290) (lO o2_418)) (nO o1_226 (lO o2_354) (lO o2_482)))) (nO (o1_50 P) (nO o1_82 (nO o1_146 (nO o1_274 (lO o2_530) .nil) (lO o2_402)) (nO (o1_210 P) (lO o2_338) (lO (o2_466 P)))) (nO o1_114 (nO o1_178 (lO o1_306) (lO o2_434)) (nO o1_242 (lO o2_370) (lO o2_498))))) (nO o1_26 (nO o1_42 (nO o1_74 (nO o1_138 (nO o1_266 (lO o2_522) .nil) (lO o2_394)) (nO o1_202 (lO o2_330) (lO o2_458))) (nO o1_106 (nO o1_170 (lO o1_298) (lO o2_426)) (nO o1_234 (lO o2_362) (lO o2_490)))) (nO o1_58 (nO o1_90 (nO o1_154 (nO o1_282 (lO o2_538) .nil) (lO o2_410)) (nO o1_218 (lO o2_346) (lO o2_474))) (nO o1_122 (nO o1_186 (lO o1_314) (lO o2_442)) (nO o1_250 (lO o2_378) (lO o2_506)))))) (nO o1_14 (nO o1_22 (nO o1_38 (nO o1_70 (nO o1_134 (nO o1_262 (lO o2_518) .nil) (lO o2_390)) (nO o1_198 (lO o1_326) (lO o2_454))) (nO o1_102 (nO o1_166 (lO o1_294) (lO o2_422)) (nO o1_230 (lO o2_358) (lO o2_486)))) (nO o1_54 (nO o1_86 (nO o1_150 (nO o1_278 (lO o2_534) .nil) (lO o2_406)) (nO o1_214 (lO o2_342) (lO o2_470))) (nO o1_118 (nO o1_182 (lO o1_310) (lO o2_438)) (nO o1_246 (lO o2_374) (lO o2_502))))) (nO (o1_30 P) (nO o1_46 (nO o1_78 (nO o1_142 (nO o1_270 (lO o2_526) .nil) (lO o2_398)) (nO o1_206 (lO o2_334) (lO o2_462))) (nO o1_110 (nO o1_174 (lO o1_302) (lO o2_430)) (nO o1_238 (lO o2_366) (lO o2_494)))) (nO o1_62 (nO (o1_94 P) (nO o1_158 (nO o1_286 (lO o2_542) .nil) (lO o2_414)) (nO o1_222 (lO o2_350) (lO o2_478))) (nO (o1_126 P) (nO o1_190 (lO o1_318) (lO o2_446)) (nO o1_254 (lO o2_382) (lO o2_510)))))))))
def S2 (w : World) (os : OsState) : SharedT := ⟨T2 w.params, 544, (Life.mk [] [] [] 0 [] [] Bool.false (List.toArray []) [] 0 Bool.false Bool.false Bool.false 0 [2000, 10, 10] Bool.false 0 Bool.true [] [] 0 Bool.false), #[], (Drawn.mk 0 0 0 0), 903, os⟩
def l1 : List Stmt := [top 0, top 1, top 2, top 3, top 4, top 5, top 6, top 7, top 8, top 9, top 10, top 11, top 12, top 13, top 14, top 15, top 16, top 17, top 18, top 19, top 20, top 21, top 22, top 23, top 24, top 25]
def l2 : List Stmt := [top 26, top 27, top 28, top 29, top 30, top 31, top 32, top 33, top 34, top 35, top 36, top 37, top 38, top 39, top 40, top 41, top 42, top 43, top 44, top 45, top 46]
set_option maxHeartbeats 0 in
theorem run1 (w : World) (os : OsState) : firstF (stQ R.prog w) R.prog w (PySem.Value.ref 13) 14 (PySem.Pos.mk 0 0 0 0) 12 100 20000 l1 os = some (11, ⟨denQ tabQ (codT R.prog (PySem.Value.ref 13) 14), codT R.prog (PySem.Value.ref 13) 14, (PySem.Pos.mk 0 0 0 0), [topFrame (PySem.Pos.mk 0 0 0 0)]⟩, .next, codT R.prog (PySem.Value.ref 13) 14, .next, S1 w os, codT R.prog (PySem.Value.ref 13) 14, (PySem.Pos.mk 88 0 147 43)) := by
  kernel_rfl
set_option maxHeartbeats 0 in
theorem run2 (w : World) (os : OsState) : segF (stQ R.prog w) 11 (bootAnn w) 1 20000 (S1 w os) (piecesOf l2 (envT R.prog (PySem.Value.ref 13) 14) (codT R.prog (PySem.Value.ref 13) 14) (PySem.Pos.mk 88 0 147 43) [topFrame (PySem.Pos.mk 0 0 0 0)]) = some (.next, S2 w os, codT R.prog (PySem.Value.ref 13) 14, (PySem.Pos.mk 291 0 312 89)) := by
  kernel_rfl
set_option maxHeartbeats 0 in
theorem fin1 (w : World) (os : OsState) : (lastF (stQ R.prog w) R.prog w (PySem.Value.ref 13) 14 (PySem.Pos.mk 0 0 0 0) 11 10 100 [] (S2 w os) (PySem.Pos.mk 291 0 312 89)).map (fun x => (x.1, x.2.1, looksF R.prog (boot_heap w.params) x.2.2.abs)) = some (.next, codT R.prog (PySem.Value.ref 13) 14, true) := by
  kernel_rfl
set_option maxHeartbeats 0 in
theorem fin2 (w : World) (os : OsState) : (lastF (stQ R.prog w) R.prog w (PySem.Value.ref 13) 14 (PySem.Pos.mk 0 0 0 0) 11 10 100 [] (S2 w os) (PySem.Pos.mk 291 0 312 89)).map (fun x => seenQ (view R.prog [46]) nms (importedModules R.prog.main.body) (fun s => xlAt (view R.prog [46]) [] s && recOk R.toRowW.records s) x.2.2.abs) = some (openGood (view R.prog [46]) nms) := by
  kernel_rfl
set_option maxHeartbeats 0 in
theorem fin3 (w : World) (os : OsState) : (lastF (stQ R.prog w) R.prog w (PySem.Value.ref 13) 14 (PySem.Pos.mk 0 0 0 0) 11 10 100 [] (S2 w os) (PySem.Pos.mk 291 0 312 89)).map (fun x => ob x.2.2) = some (hk.val w) := by
  kernel_rfl
theorem bd : behindTheImports R.prog = l1 ++ (l2 ++ []) := by kernel_rfl
end
end K26
open PySem PySem.W PySem.Calls PyProof.Rows in
set_option maxHeartbeats 0 in
theorem PySem.Challenge.cw_turnmill_k26_whole_fewest_rooms_holds : PySem.Challenge.rw_turnmill_k26_whole_fewest_rooms.Holds := by
  refine law_open fun said => ?_
  refine Z.head_cut (r := OpenLaw.row PySem.Challenge.rw_turnmill_k26_whole_fewest_rooms) (q := view (OpenLaw.row PySem.Challenge.rw_turnmill_k26_whole_fewest_rooms).prog [46]) (H := K26.hk) (ob := K26.ob) (loose := K26.nms) (d := HandSHeadRun.topDef (OpenLaw.row PySem.Challenge.rw_turnmill_k26_whole_fewest_rooms).prog 46) (kwd := []) K26.ob_eq
    (by kernel_rfl) (fun s => by kernel_rfl) K26.bd K26.run1 (Z.rest_seg K26.run2 (Z.rest_last3 K26.fin1 K26.fin2 K26.fin3)) (by kernel_rfl) (by kernel_rfl) (by kernel_rfl) (by rfl) said (by decide +kernel) law_bare ?hw ?hc
  case hw => w_witness2
  case hc =>
    refine LamX.walk_ofTsE (l := PySem.Challenge.rw_turnmill_k26_whole_fewest_rooms) (n := 63) (k := 8) (x := "_law_script") (CX := fun w => L2.CX (OpenLaw.prog PySem.Challenge.rw_turnmill_k26_whole_fewest_rooms) w) rfl (by decide) (by kernel_rfl) ⟨rfl, by decide, by decide⟩ ?F (fun _ _ _ _ _ ⟨_, _, _, _, _, _, _, _, _, _, _, _, z⟩ => z)
    intro w mg fa h Y G hmg0
    obtain ⟨K, KX, c⟩ := Y
    have hmg : mg ("law" : PySem.Str) = some (.ref fa) := by
      have e : (HandSHeadRun.topDef (OpenLaw.row PySem.Challenge.rw_turnmill_k26_whole_fewest_rooms).prog 46).name = ("law" : PySem.Str) := by kernel_rfl
      rw [← e]
      exact hmg0
    exact ⟨K, KX, K26.all KX G hmg c⟩
